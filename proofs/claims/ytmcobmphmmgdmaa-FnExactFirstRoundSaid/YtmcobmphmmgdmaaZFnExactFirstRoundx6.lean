import Derived.Test.YtmcobmphmmgdmaaZFnExactFirstRoundx0
import Derived.Test.YtmcobmphmmgdmaaZFnExactFirstRoundx2
import Derived.Test.YtmcobmphmmgdmaaZFnExactFirstRoundx3
import Derived.Test.YtmcobmphmmgdmaaZFnExactFirstRoundx5
namespace Go.Proofs.Ytmcobmphmmgdmaa.QFnExactFirstRound
open Go.RowKit Go.Proofs.YtmcobmphmmgdmaaW.PrintWords Go.Proofs.YtmcobmphmmgdmaaW.PrintLast Go.Proofs.YtmcobmphmmgdmaaW.PrintMore
attribute [local go_sem] max2_int min2_int max_two min_two max_three min_three max_four min_four
set_option linter.unusedVariables false
set_option linter.unusedSimpArgs false
def spec_l10Start.l0 : Nat → List Int → List Int → Int → List Int → Int → List Int → Int → Int → Int → Int → Int → Option (List Int × List Int × List Int × List Bool × List Bool × Int × Int × Int × Int)
 | 0, _, _, _, _, _, _, _, _, _, _, _ => none
 | k + 1, x3, x4, x5, x6, x7, x184000, x184001, x184002, x184003, x184004, x184005 => if x7 < x5 then (if 0 ≤ x7 then (if x7 < (x184000.length : Int) then (if x7 < (x3.length : Int) then (if x7 < (x4.length : Int) then (if x6.length < 17592186044416 then (spec_l10Start.l0 k x3 x4 x5 (x6 ++ [wrap64 ((wrap64 ((rd x184000 x7) - (rd x3 x7))) - (rd x4 x7))]) (wrap64 (x7 + 1)) x184000 x184001 x184002 x184003 x184004 x184005) else (none)) else (none)) else (none)) else (none)) else (none)) else (if 0 ≤ x5 then (if (x5 : Int).toNat ≤ 281474976710656 then ((some (List.replicate (x5 : Int).toNat false : List Bool)).bind fun y200 => ((some (List.replicate (x5 : Int).toNat false : List Bool)).bind fun y203 => ((spec_l09First.f x184000 x184001 x184002 x184003 x184004 x184005 0).bind fun t207 => (if x5 = 0 then (none) else ((spec_l10Next.f k x6 x4 x3 y200 y203 t207 x184003 0 x184005 (Int.tmod (wrap64 ((wrap64 (t207 + x5)) - 1)) x5)).bind fun t208 => (some (x6, x4, x3, y200, y203, t208, x184003, 0, x184005))))))) else (none)) else (none))
def spec_l10Start.f (k : Nat) (l0_0 : List Int) (a0_1 : Int) (a0_2 : Int) (a0_3 : Int) (a0_4 : Int) (a0_5 : Int) : Option (List Int × List Int × List Int × List Bool × List Bool × Int × Int × Int × Int) := (spec_l09Antes.f k l0_0 a0_1 a0_2 a0_3 a0_4 a0_5).bind fun t185 => ((spec_l09Bets.f k l0_0 a0_1 a0_2 a0_3 a0_4 a0_5).bind fun t188 => (spec_l10Start.l0 k t185 t188 (l0_0.length : Int) (([] : List Int)) 0 l0_0 a0_1 a0_2 a0_3 a0_4 a0_5))
theorem spec_l10Start.mono_l : ∀ k, (∀ y0 y1 y2 y3 y4 y5 y6 y7 y8 y9 y10, LeO (spec_l10Start.l0 k y0 y1 y2 y3 y4 y5 y6 y7 y8 y9 y10) (spec_l10Start.l0 (k + 1) y0 y1 y2 y3 y4 y5 y6 y7 y8 y9 y10))
 | 0 => fun _ _ _ _ _ _ _ _ _ _ _ r h => by simp [spec_l10Start.l0] at h
 | k + 1 => by
  have ih0 := spec_l10Start.mono_l k
  ·intro y0 y1 y2 y3 y4 y5 y6 y7 y8 y9 y10
   unfold spec_l10Start.l0
   repeat' first
   | (with_reducible exact ih0 _ _ _ _ _ _ _ _ _ _ _)
   | (with_reducible exact spec_l09Antes.mono _ _ _ _ _ _ _)
   | (with_reducible exact spec_l09Bets.mono _ _ _ _ _ _ _)
   | (with_reducible exact spec_l10Next.mono _ _ _ _ _ _ _ _ _ _ _)
   | (with_reducible exact LeO.refl _)
   | (with_reducible exact LeO.none _)
   | (with_reducible refine LeO.ite ?_ ?_)
   | (with_reducible refine LeO.bind ?_ (fun _ => ?_))
   | exact ih0 _ _ _ _ _ _ _ _ _ _ _
   | exact spec_l09Antes.mono _ _ _ _ _ _ _
   | exact spec_l09Bets.mono _ _ _ _ _ _ _
   | exact spec_l10Next.mono _ _ _ _ _ _ _ _ _ _ _
   | exact LeO.none _
   | refine LeO.ite ?_ ?_
   | refine LeO.bind ?_ (fun _ => ?_)
theorem spec_l10Start.mono : ∀ a0 a1 a2 a3 a4 a5 k, LeO (spec_l10Start.f k a0 a1 a2 a3 a4 a5) (spec_l10Start.f (k + 1) a0 a1 a2 a3 a4 a5) := by
 intro a0 a1 a2 a3 a4 a5 k
 have ih0 := spec_l10Start.mono_l k
 unfold spec_l10Start.f
 repeat' first
   | (with_reducible exact ih0 _ _ _ _ _ _ _ _ _ _ _)
   | (with_reducible exact spec_l09Antes.mono _ _ _ _ _ _ _)
   | (with_reducible exact spec_l09Bets.mono _ _ _ _ _ _ _)
   | (with_reducible exact spec_l10Next.mono _ _ _ _ _ _ _ _ _ _ _)
   | (with_reducible exact LeO.refl _)
   | (with_reducible exact LeO.none _)
   | (with_reducible refine LeO.ite ?_ ?_)
   | (with_reducible refine LeO.bind ?_ (fun _ => ?_))
   | exact ih0 _ _ _ _ _ _ _ _ _ _ _
   | exact spec_l09Antes.mono _ _ _ _ _ _ _
   | exact spec_l09Bets.mono _ _ _ _ _ _ _
   | exact spec_l10Next.mono _ _ _ _ _ _ _ _ _ _ _
   | exact LeO.none _
   | refine LeO.ite ?_ ?_
   | refine LeO.bind ?_ (fun _ => ?_)
def spec_l10Start.T7 : Bool × List (List Nat × List Nat) := (true, [([], []), ([], []), ([1], [1]), ([], []), ([2, 3], [2, 3]), ([4], [4]), ([], []), ([], []), ([6, 7], [6, 7]), ([8], [8]), ([5, 9], [5, 9]), ([], []), ([], []), ([11, 12], [11, 12]), ([13], [13]), ([10, 14], [10, 14]), ([15], [15]), ([0, 16], [0, 16]), ([17, 17, 0, 1, 2, 3, 4, 5, 6, 7, 8, 9, 10, 11, 12, 13, 14, 15, 16, 17], [0, 17])])
def spec_l10Start.B7 : List Nat := [0, 0, 2, 0, 14, 30, 0, 0, 192, 448, 1022, 0, 0, 6144, 14336, 32766, 65534, 131071, 262143]
theorem spec_l10Start.tab7 : rtab .any (opsOf Try.f87 7) = spec_l10Start.T7 := by kernel_rfl
theorem spec_l10Start.bits7 : waitsOk spec_l10Start.T7.2 spec_l10Start.B7 = true := by kernel_rfl
def spec_l10Start.T8 : Bool × List (List Nat × List Nat) := (true, [([], []), ([], []), ([], []), ([], []), ([3, 3], [3]), ([], []), ([5, 5], [5]), ([], []), ([7], [7]), ([], []), ([9], [9]), ([0, 1, 2, 4, 6, 8, 10], [0, 1, 2, 4, 6, 8, 10]), ([], []), ([12, 11, 0, 1, 2, 3, 4, 5, 6, 7, 8, 9, 10, 11, 12], [11, 12])])
def spec_l10Start.B8 : List Nat := [0, 0, 0, 0, 8, 0, 32, 0, 128, 0, 512, 2047, 0, 8191]
theorem spec_l10Start.tab8 : rtab .any (opsOf Try.f87 8) = spec_l10Start.T8 := by kernel_rfl
theorem spec_l10Start.bits8 : waitsOk spec_l10Start.T8.2 spec_l10Start.B8 = true := by kernel_rfl
def spec_l10Start.T11 : Bool × List (List Nat × List Nat) := (true, [([], []), ([], []), ([], []), ([1, 2], [1, 2]), ([3], [3]), ([], []), ([4, 5], [4, 5]), ([0, 6], [0, 6]), ([0, 1, 2, 3, 4, 5, 6, 7], []), ([8, 7, 7, 0, 1, 2, 3, 4, 5, 6, 7], [7, 8])])
def spec_l10Start.B11 : List Nat := [0, 0, 0, 6, 14, 0, 62, 127, 255, 511]
theorem spec_l10Start.tab11 : rtab .any (opsOf Try.f87 11) = spec_l10Start.T11 := by kernel_rfl
theorem spec_l10Start.bits11 : waitsOk spec_l10Start.T11.2 spec_l10Start.B11 = true := by kernel_rfl
set_option maxHeartbeats 8000000 in
set_option maxRecDepth 100000 in
theorem spec_l10Start.calls (k : Nat) (A0_0 : Option Addr) (c0_0 : Nat) (l0_0 : List Int) (a0_1 : Int) (a0_2 : Int) (a0_3 : Int) (a0_4 : Int) (a0_5 : Int) (r1 : List Int) (r2 : List Int) (r3 : List Int) (r4 : List Bool) (r5 : List Bool) (r6 : Int) (r7 : Int) (r8 : Int) (r9 : Int) (w : World) (hr0_0 : Kd.C (Kd.int .i64) w A0_0 l0_0.length l0_0) (hc0_0 : l0_0.length ≤ c0_0) (h : spec_l10Start.f k l0_0 a0_1 a0_2 a0_3 a0_4 a0_5 = some (r1, r2, r3, r4, r5, r6, r7, r8, r9)) :
  Calls Try.prog 87 #[.agg #[.slice A0_0 l0_0.length c0_0, .int .i64 a0_1, .int .i64 a0_2, .int .i64 a0_3, .int .i64 a0_4, .int .i64 a0_5]] w fun e w' => ∃ v0_ v1_ v2_ v3_ v4_ : Value, e = .returned (.agg #[v0_, v1_, v2_, v3_, v4_, .int .i64 r6, .int .i64 r7, .int .i64 r8, .int .i64 r9]) ∧ Kd.R (Kd.int .i64) 2 w' w.heap.size (fun k_ => some k_ ≠ (v1_ : Value).ownBlock ∧ some k_ ≠ (v2_ : Value).ownBlock) v0_ r1 ∧ Kd.R (Kd.int .i64) 2 w' w.heap.size (fun k_ => some k_ ≠ (v0_ : Value).ownBlock ∧ some k_ ≠ (v2_ : Value).ownBlock) v1_ r2 ∧ Kd.R (Kd.int .i64) 2 w' w.heap.size (fun k_ => some k_ ≠ (v0_ : Value).ownBlock ∧ some k_ ≠ (v1_ : Value).ownBlock) v2_ r3 ∧ Kd.R Kd.bool 4 w' w.heap.size (fun k_ => some k_ ≠ (v4_ : Value).ownBlock) v3_ r4 ∧ Kd.R Kd.bool 4 w' w.heap.size (fun k_ => some k_ ≠ (v3_ : Value).ownBlock) v4_ r5 ∧ Below w.heap.size w w' := by
 have hu59 := Try.underlying59
 have hu28 := Try.underlying28
 have HR0_0 := Aside0.mk hr0_0
 have HC0_0 := Aside0.mk hc0_0
 clear hr0_0 hc0_0
 have HB := Aside0.mk (Below.refl w.heap.size w)
 have H : ((spec_l09Antes.f k l0_0 a0_1 a0_2 a0_3 a0_4 a0_5).bind fun t185 => ((spec_l09Bets.f k l0_0 a0_1 a0_2 a0_3 a0_4 a0_5).bind fun t188 => (spec_l10Start.l0 k t185 t188 (l0_0.length : Int) (([] : List Int)) 0 l0_0 a0_1 a0_2 a0_3 a0_4 a0_5))) = some (r1, r2, r3, r4, r5, r6, r7, r8, r9) := h
 clear h
 obtain ⟨t185, A20, H⟩ := Option.bind_eq_some_iff.mp H
 try dsimp only at H
 have A2 := Aside0.mk A20
 clear A20
 obtain ⟨t188, A30, H⟩ := Option.bind_eq_some_iff.mp H
 try dsimp only at H
 have A3 := Aside0.mk A30
 clear A30
 obtain ⟨y191, hy191⟩ : ∃ y_ : List Int, y_ = (([] : List Int)) := ⟨_, rfl⟩
 replace H : (spec_l10Start.l0 k t185 t188 (l0_0.length : Int) y191 0 l0_0 a0_1 a0_2 a0_3 a0_4 a0_5) = some (r1, r2, r3, r4, r5, r6, r7, r8, r9) := by first | (rw [hy191]; with_reducible exact H) | (have H2_ := (Option.bind_some _ _).symm.trans H; rw [hy191]; with_reducible exact H2_) | (have H2_ := (Option.bind_some _ _).symm.trans H; with_reducible exact H2_) | with_reducible exact H | (rw [hy191]; exact H) | exact H
 have Ny191 := Aside0.mk hy191
 clear hy191
 have H' := Aside0.mk H
 clear H
 go_enter Try.func87, Try.ntmps87
 try go_wp2_with (first | ((with_reducible refine gate_dst (N := 1) rfl ?_); refine bE 1 #[.slice A0_0 l0_0.length c0_0, .int .i64 a0_1, .int .i64 a0_2, .int .i64 a0_3, .int .i64 a0_4, .int .i64 a0_5] 59 ?_; intro gb183 hg w4 hbox hb; have BK183 := Aside0.mk (hbox); have GW183 := Aside0.mk (gE hg (bA HB.out)); have GE183 := Aside0.mk (gE hg (bA HB.out)); replace HB := Aside0.mk (below_step (bA HB.out) hb); clear hb hbox hg) | ((with_reducible refine gate_dst (N := 2) rfl ?_); refine bE 2 #[.slice none 0 0, .slice none 0 0, .slice none 0 0, .slice none 0 0, .slice none 0 0, .int .i64 0, .int .i64 0, .int .i64 0, .int .i64 0] 28 ?_; intro gb184 hg w5 hbox hb; have BK184 := Aside0.mk (hbox); have GW184 := Aside0.mk (gE hg (bA HB.out)); have GE184 := Aside0.mk (gE hg (bA HB.out)); replace HB := Aside0.mk (below_step (bA HB.out) hb); have NB183_184 := Aside0.mk ((by rw [hg]; exact Nat.ne_of_lt (blk_lt (kA BK183.out)) : gb183 ≠ gb184)); have NB184_183 := Aside0.mk ((by rw [hg]; exact Nat.ne_of_gt (blk_lt (kA BK183.out)) : gb184 ≠ gb183)); replace BK183 := Aside0.mk (blk_below (kA BK183.out) hb); clear hb hbox hg))
 replace BK183 := Aside0.mk (blk_drew BK183.out)
 replace BK184 := Aside0.mk (blk_drew BK184.out)
 replace HB := Aside0.mk (below_drew1 HB.out)
 refine start_ (n := 6) (S := fun w' => w'.cell? ⟨gb183, 0, none⟩ = some (.slice A0_0 l0_0.length c0_0) ∧ w'.cell? ⟨gb183, 1, none⟩ = some (.int .i64 a0_1) ∧ w'.cell? ⟨gb183, 2, none⟩ = some (.int .i64 a0_2) ∧ w'.cell? ⟨gb183, 3, none⟩ = some (.int .i64 a0_3) ∧ w'.cell? ⟨gb183, 4, none⟩ = some (.int .i64 a0_4) ∧ w'.cell? ⟨gb183, 5, none⟩ = some (.int .i64 a0_5)) (ds := []) #[false, false, false, false, false, false] (by kernel_rfl) rfl rfl (cy6 BK183.out) (fun hHeld => ?_)
 generalize w5.drew = w6 at BK183 BK184 HB hHeld ⊢
 refine take_ (i := 0) (N := some 10) (v := ?_) (a' := ?_) #[true, false, false, false, false, false] rfl rfl (by kernel_rfl) (fun _ _ _ h => h) (Or.inl ⟨by rfl, ?_⟩) hHeld ?_ ?_
 rotate_left
 ·rintro w' ⟨s0, s1, s2, s3, s4, s5⟩
  go_simp
  with_reducible rfl
 rotate_left
 ·simp only [Act.put, List.setIfInBounds_toArray, List.set_cons_zero, List.set_cons_succ, i64_w, i32_w]
  rfl
 refine take_ (i := 2) (N := some 12) (v := ?_) (a' := ?_) #[true, false, true, false, false, false] rfl rfl (by kernel_rfl) (fun _ _ _ h => h) (Or.inl ⟨by rfl, ?_⟩) hHeld ?_ ?_
 rotate_left
 ·rintro w' ⟨s0, s1, s2, s3, s4, s5⟩
  go_simp
  with_reducible rfl
 rotate_left
 ·simp only [Act.put, List.setIfInBounds_toArray, List.set_cons_zero, List.set_cons_succ, i64_w, i32_w]
  rfl
 refine one_ (i := 1) (N := some 11) #[true, true, true, false, false, false] rfl rfl (by kernel_rfl) (by decide) (fun K hK => ?_)
 refine gO Try.func104 #[.agg #[.slice A0_0 l0_0.length c0_0, .int .i64 a0_1, .int .i64 a0_2, .int .i64 a0_3, .int .i64 a0_4, .int .i64 a0_5]] ?_
 with_reducible refine (spec_l09Antes.calls k _ _ l0_0 a0_1 a0_2 a0_3 a0_4 a0_5 t185 _ ?side1 ?side2 A2.out).mono ?_
 (case side1 => exact cA (Kd.C_below HR0_0.out HB.out))
 (case side2 => exact HC0_0.out)
 rintro e w7 ⟨v186, rfl, ho0, hb⟩
 refine ⟨_, rfl, ?_⟩
 have HO187 := Aside0.mk (Kd.R_lower ho0 (below_size (bA HB.out)))
 replace BK183 := Aside0.mk (blk_below (kA BK183.out) hb)
 replace BK184 := Aside0.mk (blk_below (kA BK184.out) hb)
 replace HB := Aside0.mk (below_step (bA HB.out) hb)
 (try clear hb)
 (try clear ho0)
 refine hK.out _ _ (cy6 BK183.out) (fun hHeld => ?_)
 clear hK K
 refine nO 11 ?_
 refine one_ (i := 3) (N := some 13) #[true, true, true, true, false, false] rfl rfl (by kernel_rfl) (by decide) (fun K hK => ?_)
 refine gO Try.func105 #[.agg #[.slice A0_0 l0_0.length c0_0, .int .i64 a0_1, .int .i64 a0_2, .int .i64 a0_3, .int .i64 a0_4, .int .i64 a0_5]] ?_
 with_reducible refine (spec_l09Bets.calls k _ _ l0_0 a0_1 a0_2 a0_3 a0_4 a0_5 t188 _ ?side1 ?side2 A3.out).mono ?_
 (case side1 => exact cA (Kd.C_below HR0_0.out HB.out))
 (case side2 => exact HC0_0.out)
 rintro e w8 ⟨v189, rfl, ho0, hb⟩
 refine ⟨_, rfl, ?_⟩
 have HO190 := Aside0.mk (Kd.R_lower (Kd.R_new' ho0 (Kd.R_lt (rA HO187.out))) (below_size (bA HB.out)))
 replace HO187 := Aside0.mk (Kd.R_elder' (rA HO187.out) (Kd.R_base ho0) hb)
 replace BK183 := Aside0.mk (blk_below (kA BK183.out) hb)
 replace BK184 := Aside0.mk (blk_below (kA BK184.out) hb)
 replace HB := Aside0.mk (below_step (bA HB.out) hb)
 (try clear hb)
 (try clear ho0)
 refine hK.out _ _ (cy6 BK183.out) (fun hHeld => ?_)
 clear hK K
 refine nO 13 ?_
 refine pure_ (i := 4) (N := some 3) (v := ?_) (a' := ?_) #[true, true, true, true, true, false] rfl rfl (by kernel_rfl) (fun _ _ _ h => h) (Or.inl ⟨by rfl, ?_⟩) ?_ ?_
 rotate_left
 ·intro w'
  go_simp
  with_reducible rfl
 rotate_left
 ·simp only [Act.put, List.setIfInBounds_toArray, List.set_cons_zero, List.set_cons_succ, i64_w, i32_w]
  rfl
 refine pure_ (i := 5) (N := some 4) (v := ?_) (a' := ?_) #[true, true, true, true, true, true] rfl rfl (by kernel_rfl) (fun _ _ _ h => h) (Or.inl ⟨by rfl, ?_⟩) ?_ ?_
 rotate_left
 ·intro w'
  go_simp
  with_reducible rfl
 rotate_left
 ·simp only [Act.put, List.setIfInBounds_toArray, List.set_cons_zero, List.set_cons_succ, i64_w, i32_w]
  rfl
 refine done_ (by kernel_rfl) ?_
 have hnb9 := NB183_184.out
 have hnc9 := NB184_183.out
 obtain ⟨hcz10_0, hcz10_1, hcz10_2, hcz10_3, hcz10_4, hcz10_5, hfz10_0, hfz10_1, hfz10_2, hfz10_3, hfz10_4, hfz10_5⟩ := cz6 BK183.out
 try go_wp2_with (first | ((with_reducible refine gate_dst (N := 17) rfl ?_); refine Kd.R_lit (Kd.int .i64) _ 2 ?hg (N := 17) ?hd (xs := ([] : List Int)) (inner := []) (ok := fun _ => True) (okp := fun _ => True) ?hr ?hp (fun _ hk => hk) trivial (Below.refl _ _) (Nat.le_refl _) (by simp) ?_; (case hd => rfl); (case hg => rfl); (case hr => first | (go_simp; done) | (go_simp; rfl)); (case hp => exact (Reps.none _ _)); intro v192 w11 ho12 hb hg_ hnew_; clear hg_ hnew_; (first | rw [← Ny191.out] at ho12 | (simp only [Int.reduceToNat] at ho12; rw [← Ny191.out] at ho12)); have HO193 := Aside0.mk (Kd.R_lower (Kd.R_new' (Kd.R_new' ho12 (Kd.R_lt (rA HO187.out))) (Kd.R_lt (rA HO190.out))) (below_size (bA HB.out))); replace HO187 := Aside0.mk (Kd.R_elder' (rA HO187.out) (Kd.R_base ho12) hb); replace HO190 := Aside0.mk (Kd.R_elder' (rA HO190.out) (Kd.R_base ho12) hb); replace BK183 := Aside0.mk (blk_below (kA BK183.out) hb); replace BK184 := Aside0.mk (blk_below (kA BK184.out) hb); replace HB := Aside0.mk (below_step (bA HB.out) hb); clear hb ho12))
 go_loopg [6, 7] k (fun kq v6 v7 w' => ∃ (x6_1 : List Int) (x7_1 : Int), v7 = .int .i64 x7_1 ∧ Aside0 (spec_l10Start.l0 kq t185 t188 (l0_0.length : Int) x6_1 x7_1 l0_0 a0_1 a0_2 a0_3 a0_4 a0_5 = some (r1, r2, r3, r4, r5, r6, r7, r8, r9)) ∧ Aside0 (kq ≤ k) ∧ Aside0 (Kd.R (Kd.int .i64) 2 w' w.heap.size (fun k_ => some k_ ≠ (v189 : Value).ownBlock ∧ some k_ ≠ (v6 : Value).ownBlock) v186 t185) ∧ Aside0 (Kd.R (Kd.int .i64) 2 w' w.heap.size (fun k_ => some k_ ≠ (v186 : Value).ownBlock ∧ some k_ ≠ (v6 : Value).ownBlock) v189 t188) ∧ Aside0 (Kd.R (Kd.int .i64) 2 w' w.heap.size (fun k_ => some k_ ≠ (v186 : Value).ownBlock ∧ some k_ ≠ (v189 : Value).ownBlock) v6 x6_1) ∧ Aside0 (w'.heap[gb183]? = some (.cells #[(.slice A0_0 l0_0.length c0_0), .int .i64 a0_1, .int .i64 a0_2, .int .i64 a0_3, .int .i64 a0_4, .int .i64 a0_5] 59 (0, 0))) ∧ Aside0 (w'.heap[gb184]? = some (.cells #[(.slice none 0 0), (.slice none 0 0), (.slice none 0 0), (.slice none 0 0), (.slice none 0 0), .int .i64 0, .int .i64 0, .int .i64 0, .int .i64 0] 28 (0, 0))) ∧ Aside0 (Below w.heap.size w w'))
 case atStart => exact ⟨(y191), (0), (by first | rfl | (simp; done) | (simp [*]; done)), H', ⟨Nat.le_refl _⟩, ⟨by (with_reducible repeat (first | apply Kd.R_alloc | apply Kd.R_drewN | apply Kd.R_drew)); exact Kd.R_mono HO187.out (fun _ hk => ⟨hk.1.2, hk.2⟩)⟩, ⟨by (with_reducible repeat (first | apply Kd.R_alloc | apply Kd.R_drewN | apply Kd.R_drew)); exact Kd.R_mono HO190.out (fun _ hk => ⟨hk.1.2, hk.2⟩)⟩, ⟨by (with_reducible repeat (first | apply Kd.R_alloc | apply Kd.R_drewN | apply Kd.R_drew)); exact Kd.R_mono HO193.out (fun _ hk => ⟨hk.1.2, hk.2⟩)⟩, ⟨by (with_reducible repeat (first | refine blk_drewN ?_ _ | refine blk_drew ?_ | refine blk_alloc ?_ _)); exact BK183.out⟩, ⟨by (with_reducible repeat (first | refine blk_drewN ?_ _ | refine blk_drew ?_ | refine blk_alloc ?_ _)); exact BK184.out⟩, ⟨bA HB.out⟩⟩
 case round =>
  clear H'
  try clear c1
  try clear p2
  try clear c8
  try clear c9
  try clear c10
  try clear hcz10_0 hcz10_1 hcz10_2 hcz10_3 hcz10_4 hcz10_5 hfz10_0 hfz10_1 hfz10_2 hfz10_3 hfz10_4 hfz10_5
  obtain ⟨x6_1, x7_1, rfl, HA, HK1, HO_3, HO_4, HO_6, BK183, BK184, HB⟩ := hrel
  cases gk with
  | zero => exact absurd HA.out (by simp [spec_l10Start.l0])
  | succ k1 =>
   have H := HA.out
   clear HA
   simp only [spec_l10Start.l0] at H
   by_cases c13 : x7_1 < (l0_0.length : Int)
   ·rw [if_pos c13] at H
    have c13b0 : decide (x7_1 < (l0_0.length : Int)) = true := decide_eq_true c13
    clear c13
    by_cases c14 : 0 ≤ x7_1
    rotate_left
    ·rw [if_neg c14] at H
     exact absurd H (by simp)
    rw [if_pos c14] at H
    have c14b0 : decide (0 ≤ x7_1) = true := decide_eq_true c14
    clear c14
    by_cases c15 : x7_1 < (l0_0.length : Int)
    rotate_left
    ·rw [if_neg c15] at H
     exact absurd H (by simp)
    rw [if_pos c15] at H
    have c15b0 : decide (x7_1 < (l0_0.length : Int)) = true := decide_eq_true c15
    clear c15
    by_cases c16 : x7_1 < (t185.length : Int)
    rotate_left
    ·rw [if_neg c16] at H
     exact absurd H (by simp)
    rw [if_pos c16] at H
    have c16b0 : decide (x7_1 < (t185.length : Int)) = true := decide_eq_true c16
    clear c16
    by_cases c17 : x7_1 < (t188.length : Int)
    rotate_left
    ·rw [if_neg c17] at H
     exact absurd H (by simp)
    rw [if_pos c17] at H
    have c17b0 : decide (x7_1 < (t188.length : Int)) = true := decide_eq_true c17
    clear c17
    by_cases c18 : x6_1.length < 17592186044416
    rotate_left
    ·rw [if_neg c18] at H
     exact absurd H (by simp)
    rw [if_pos c18] at H
    have LMc18 := Aside0.mk c18
    clear c18
    obtain ⟨y197, hy197⟩ : ∃ y_ : List Int, y_ = (x6_1 ++ [wrap64 ((wrap64 ((rd l0_0 x7_1) - (rd t185 x7_1))) - (rd t188 x7_1))]) := ⟨_, rfl⟩
    replace H : (spec_l10Start.l0 k1 t185 t188 (l0_0.length : Int) y197 (wrap64 (x7_1 + 1)) l0_0 a0_1 a0_2 a0_3 a0_4 a0_5) = some (r1, r2, r3, r4, r5, r6, r7, r8, r9) := by first | (rw [hy197]; with_reducible exact H) | (have H2_ := (Option.bind_some _ _).symm.trans H; rw [hy197]; with_reducible exact H2_) | (have H2_ := (Option.bind_some _ _).symm.trans H; with_reducible exact H2_) | with_reducible exact H | (rw [hy197]; exact H) | exact H
    have Ny197 := Aside0.mk hy197
    clear hy197
    have H' := Aside0.mk H
    clear H
    try go_wp2
    replace HO_3 := Aside0.mk (Kd.R_drew HO_3.out)
    replace HO_4 := Aside0.mk (Kd.R_drew HO_4.out)
    replace HO_6 := Aside0.mk (Kd.R_drew HO_6.out)
    replace BK183 := Aside0.mk (blk_drew BK183.out)
    replace BK184 := Aside0.mk (blk_drew BK184.out)
    replace HB := Aside0.mk (below_drew1 HB.out)
    have p194 : 0 ≤ (x7_1 : Int) := dA
    have q194 : x7_1 < (l0_0.length : Int) := dA
    obtain ⟨ad194, e194, hx194_0⟩ := Kd.at_int HR0_0.out x7_1 p194 q194
    have hw194_0 := hx194_0
    cases e194
    replace hx194_0 := (HB.out.cell (World.block_lt_of_cell? w _ hx194_0)).trans hx194_0
    replace p194 := eq_true p194
    replace q194 := eq_true q194
    obtain ⟨Ao20, co20, eo20⟩ := Kd.R_slice HO_3.out
    (first | subst eo20 | (injection eo20 with f1_ f2_ f3_; have f4_ := f1_.symm; have f5_ := f3_.symm; clear f1_ f2_ f3_; subst f4_; subst f5_))
    have p195 : 0 ≤ (x7_1 : Int) := dA
    have q195 : x7_1 < (t185.length : Int) := dA
    obtain ⟨ad195, e195, hx195_0⟩ := Kd.at_int (Kd.R_reads' HO_3.out).2.2 x7_1 p195 q195
    cases e195
    replace p195 := eq_true p195
    replace q195 := eq_true q195
    obtain ⟨Ao21, co21, eo21⟩ := Kd.R_slice HO_4.out
    (first | subst eo21 | (injection eo21 with f1_ f2_ f3_; have f4_ := f1_.symm; have f5_ := f3_.symm; clear f1_ f2_ f3_; subst f4_; subst f5_))
    have p196 : 0 ≤ (x7_1 : Int) := dA
    have q196 : x7_1 < (t188.length : Int) := dA
    obtain ⟨ad196, e196, hx196_0⟩ := Kd.at_int (Kd.R_reads' HO_4.out).2.2 x7_1 p196 q196
    cases e196
    replace p196 := eq_true p196
    replace q196 := eq_true q196
    refine start_ (n := 19) (S := fun w' => w'.cell? ⟨gb183, 0, none⟩ = some (.slice (some ad194) l0_0.length c0_0) ∧ w'.cell? ⟨gb183, 1, none⟩ = some (.int .i64 a0_1) ∧ w'.cell? ⟨gb183, 2, none⟩ = some (.int .i64 a0_2) ∧ w'.cell? ⟨gb183, 3, none⟩ = some (.int .i64 a0_3) ∧ w'.cell? ⟨gb183, 4, none⟩ = some (.int .i64 a0_4) ∧ w'.cell? ⟨gb183, 5, none⟩ = some (.int .i64 a0_5) ∧ w'.cell? (ad194.add (x7_1).toNat) = some (.int .i64 (rd l0_0 x7_1)) ∧ w'.cell? (ad195.add (x7_1).toNat) = some (.int .i64 (rd t185 x7_1)) ∧ w'.cell? (ad196.add (x7_1).toNat) = some (.int .i64 (rd t188 x7_1))) (ds := [16, 17]) #[false, false, false, false, false, false, false, false, false, false, false, false, false, false, false, false, false, false, false] (by kernel_rfl) rfl rfl ⟨(blk_cell BK183.out 0).trans rfl, (blk_cell BK183.out 1).trans rfl, (blk_cell BK183.out 2).trans rfl, (blk_cell BK183.out 3).trans rfl, (blk_cell BK183.out 4).trans rfl, (blk_cell BK183.out 5).trans rfl, ((HB.out.cell (World.block_lt_of_cell? w _ hw194_0)).trans hw194_0), hx195_0, hx196_0⟩ (fun hHeld => ?_); refine with_tabW spec_l10Start.tab7 spec_l10Start.bits7 (fun HT_ HW_ => ?_)
    generalize wr.drew = w19 at HO_3 HO_4 HO_6 BK183 BK184 HB hx194_0 hx195_0 hx196_0 hHeld ⊢
    refine pI 0 (some 23) #[true, false, false, false, false, false, false, false, false, false, false, false, false, false, false, false, false, false, false] HT_.out ?_
    refine pI 1 (some 24) #[true, true, false, false, false, false, false, false, false, false, false, false, false, false, false, false, false, false, false] HT_.out ?_
    refine pI 3 (some 26) #[true, true, false, true, false, false, false, false, false, false, false, false, false, false, false, false, false, false, false] HT_.out ?_
    refine pI 6 (some 29) #[true, true, false, true, false, false, true, false, false, false, false, false, false, false, false, false, false, false, false] HT_.out ?_
    refine pI 7 (some 30) #[true, true, false, true, false, false, true, true, false, false, false, false, false, false, false, false, false, false, false] HT_.out ?_
    refine pI 8 (some 31) #[true, true, false, true, false, false, true, true, true, false, false, false, false, false, false, false, false, false, false] HT_.out ?_
    refine pI 11 (some 34) #[true, true, false, true, false, false, true, true, true, false, false, true, false, false, false, false, false, false, false] HT_.out ?_
    refine pI 12 (some 35) #[true, true, false, true, false, false, true, true, true, false, false, true, true, false, false, false, false, false, false] HT_.out ?_
    refine pI 13 (some 36) #[true, true, false, true, false, false, true, true, true, false, false, true, true, true, false, false, false, false, false] HT_.out ?_
    refine tI 2 (some 25) #[true, true, true, true, false, false, true, true, true, false, false, true, true, true, false, false, false, false, false] HT_.out HW_.out hHeld ?_
    refine pI 4 (some 27) #[true, true, true, true, true, false, true, true, true, false, false, true, true, true, false, false, false, false, false] HT_.out ?_
    refine tI 5 (some 28) #[true, true, true, true, true, true, true, true, true, false, false, true, true, true, false, false, false, false, false] HT_.out HW_.out hHeld ?_
    refine tI 9 (some 32) #[true, true, true, true, true, true, true, true, true, true, false, true, true, true, false, false, false, false, false] HT_.out HW_.out hHeld ?_
    refine pI 10 (some 33) #[true, true, true, true, true, true, true, true, true, true, true, true, true, true, false, false, false, false, false] HT_.out ?_
    refine tI 14 (some 37) #[true, true, true, true, true, true, true, true, true, true, true, true, true, true, true, false, false, false, false] HT_.out HW_.out hHeld ?_
    refine pI 15 (some 38) #[true, true, true, true, true, true, true, true, true, true, true, true, true, true, true, true, false, false, false] HT_.out ?_
    refine last_ (i := 16) (N := some 39) #[true, true, true, true, true, true, true, true, true, true, true, true, true, true, true, true, true, false, false] rfl rfl (one_of HT_.out (by kernel_rfl)) (by decide) (fun K hK => ?_)
    refine value_ (w1 := ?_) (v := ?_) (by rfl) rfl ?_ ?_
    rotate_left 2
    ·go_simp
     constructor
     ·rfl
     ·rfl
    refine hK.out _ _ ?_
    clear hK K
    refine nO 39 ?_
    refine last_ (i := 17) (N := some 40) #[true, true, true, true, true, true, true, true, true, true, true, true, true, true, true, true, true, true, false] rfl rfl (one_of HT_.out (by kernel_rfl)) (by decide) (fun K hK => ?_)
    refine Kd.R_append_step (Kd.int .i64) (w0 := w) w.heap.size (by rfl) (.tmp 23) (.tmp 39) 22 2 (.int .i64 0) 8 rfl Try.underlying22 info2 rfl (by decide) (by omega) u6 x6_1 (wrap64 ((wrap64 ((rd l0_0 x7_1) - (rd t185 x7_1))) - (rd t188 x7_1))) [.int .i64 (wrap64 ((wrap64 ((rd l0_0 x7_1) - (rd t185 x7_1))) - (rd t188 x7_1)))] (fun k_ => some k_ ≠ (.slice (some ad195) t185.length co20 : Value).ownBlock ∧ some k_ ≠ (.slice (some ad196) t188.length co21 : Value).ownBlock) (fun _ => False) rfl rfl ?aP (fun _ hk => hk.elim) ?aF ?aO ?aB ?aS ?aL ?_
    (case aP => exact rfl)
    (case aB => exact (bA HB.out))
    (case aF => exact (fun k_ hk => ⟨Kd.fresh' (Kd.R_lt (rA HO_3.out)) k_ hk, Kd.fresh' (Kd.R_lt (rA HO_4.out)) k_ hk⟩))
    (case aO => exact (rA HO_6.out))
    (case aS => exact (below_size (bA HB.out)))
    (case aL => have := LMc18.out; omega)
    intro v198 w22 ho hb hg hat
    rw [← Ny197.out] at ho
    replace HO_3 := Aside0.mk (Kd.R_after (ok := (fun k_ => some k_ ≠ (.slice (some ad196) t188.length co21 : Value).ownBlock)) (rA HO_3.out) hg hat)
    replace HO_4 := Aside0.mk (Kd.R_after (ok := (fun k_ => some k_ ≠ (.slice (some ad195) t185.length co20 : Value).ownBlock)) (rA HO_4.out) hg hat)
    replace BK183 := Aside0.mk (blk_grown (g := gb183) (o := .cells #[.slice (some ad194) l0_0.length c0_0, .int .i64 a0_1, .int .i64 a0_2, .int .i64 a0_3, .int .i64 a0_4, .int .i64 a0_5] 59 (0, 0)) (kA BK183.out) hg (Kd.R_ne HO_6.out BK183.out (by decide)))
    replace BK184 := Aside0.mk (blk_grown (g := gb184) (o := .cells #[.slice none 0 0, .slice none 0 0, .slice none 0 0, .slice none 0 0, .slice none 0 0, .int .i64 0, .int .i64 0, .int .i64 0, .int .i64 0] 28 (0, 0)) (kA BK184.out) hg (Kd.R_ne HO_6.out BK184.out (by decide)))
    replace HB := Aside0.mk (hb)
    have HO199 := Aside0.mk (ho)
    clear HO_6
    clear ho hb hg hat
    refine hK.out _ _ ?_
    clear hK K
    refine nO 40 ?_
    refine pI 18 (some 6) #[true, true, true, true, true, true, true, true, true, true, true, true, true, true, true, true, true, true, true] HT_.out ?_
    refine done_ (done_of HT_.out (by kernel_rfl)) ?_
    try go_wp2
    go_roundg k1
    case measure => have := HK1.out; omega
    case rel => exact ⟨(y197), (wrap64 (x7_1 + 1)), (by first | rfl | (simp; done) | (simp [*]; done)), H', ⟨by have := HK1.out; omega⟩, ⟨by (with_reducible repeat (first | apply Kd.R_alloc | apply Kd.R_drewN | apply Kd.R_drew)); exact HO_3.out⟩, ⟨by (with_reducible repeat (first | apply Kd.R_alloc | apply Kd.R_drewN | apply Kd.R_drew)); exact HO_4.out⟩, ⟨by (with_reducible repeat (first | apply Kd.R_alloc | apply Kd.R_drewN | apply Kd.R_drew)); exact HO199.out⟩, ⟨by (with_reducible repeat (first | refine blk_drewN ?_ _ | refine blk_drew ?_ | refine blk_alloc ?_ _)); exact BK183.out⟩, ⟨by (with_reducible repeat (first | refine blk_drewN ?_ _ | refine blk_drew ?_ | refine blk_alloc ?_ _)); exact BK184.out⟩, ⟨bA HB.out⟩⟩
   ·rw [if_neg c13] at H
    have c13b0 : decide (x7_1 < (l0_0.length : Int)) = false := decide_eq_false c13
    clear c13
    by_cases c23 : 0 ≤ (l0_0.length : Int)
    ·rw [if_pos c23] at H
     have c23b0 := eq_true c23
     have c23b1 : decide (0 ≤ (l0_0.length : Int)) = true := decide_eq_true c23
     clear c23
     by_cases c24 : ((l0_0.length : Int) : Int).toNat ≤ 281474976710656
     rotate_left
     ·rw [if_neg c24] at H
      exact absurd H (by simp)
     rw [if_pos c24] at H
     have c24b0 := eq_true c24
     have c24b1 : decide (((l0_0.length : Int) : Int).toNat ≤ 281474976710656) = true := decide_eq_true c24
     clear c24
     obtain ⟨y200, hy200⟩ : ∃ y_ : List Bool, y_ = (List.replicate ((l0_0.length : Int) : Int).toNat false) := ⟨_, rfl⟩
     replace H : ((some (List.replicate ((l0_0.length : Int) : Int).toNat false : List Bool)).bind fun y203 => ((spec_l09First.f l0_0 a0_1 a0_2 a0_3 a0_4 a0_5 0).bind fun t207 => (if (l0_0.length : Int) = 0 then (none) else ((spec_l10Next.f k1 x6_1 t188 t185 y200 y203 t207 a0_3 0 a0_5 (Int.tmod (wrap64 ((wrap64 (t207 + (l0_0.length : Int))) - 1)) (l0_0.length : Int))).bind fun t208 => (some (x6_1, t188, t185, y200, y203, t208, a0_3, 0, a0_5)))))) = some (r1, r2, r3, r4, r5, r6, r7, r8, r9) := by first | (rw [hy200]; with_reducible exact H) | (have H2_ := (Option.bind_some _ _).symm.trans H; rw [hy200]; with_reducible exact H2_) | (have H2_ := (Option.bind_some _ _).symm.trans H; with_reducible exact H2_) | with_reducible exact H | (rw [hy200]; exact H) | exact H
     have Ny200 := Aside0.mk hy200
     clear hy200
     obtain ⟨y203, hy203⟩ : ∃ y_ : List Bool, y_ = (List.replicate ((l0_0.length : Int) : Int).toNat false) := ⟨_, rfl⟩
     replace H : ((spec_l09First.f l0_0 a0_1 a0_2 a0_3 a0_4 a0_5 0).bind fun t207 => (if (l0_0.length : Int) = 0 then (none) else ((spec_l10Next.f k1 x6_1 t188 t185 y200 y203 t207 a0_3 0 a0_5 (Int.tmod (wrap64 ((wrap64 (t207 + (l0_0.length : Int))) - 1)) (l0_0.length : Int))).bind fun t208 => (some (x6_1, t188, t185, y200, y203, t208, a0_3, 0, a0_5))))) = some (r1, r2, r3, r4, r5, r6, r7, r8, r9) := by first | (rw [hy203]; with_reducible exact H) | (have H2_ := (Option.bind_some _ _).symm.trans H; rw [hy203]; with_reducible exact H2_) | (have H2_ := (Option.bind_some _ _).symm.trans H; with_reducible exact H2_) | with_reducible exact H | (rw [hy203]; exact H) | exact H
     have Ny203 := Aside0.mk hy203
     clear hy203
     obtain ⟨t207, A250, H⟩ := Option.bind_eq_some_iff.mp H
     try dsimp only at H
     have A25 := Aside0.mk A250
     clear A250
     by_cases c26 : (l0_0.length : Int) = 0
     ·rw [if_pos c26] at H
      exact absurd H (by simp)
     rw [if_neg c26] at H
     have c26b0 : ((l0_0.length : Int) == 0) = false := beq_eq_false_iff_ne.mpr c26
     have c26b1 : ((l0_0.length : Int) != 0) = true := bne_iff_ne.mpr c26
     have c26b2 : ¬ (l0_0 = []) := fun h_ => c26 (by rw [h_]; rfl)
     obtain ⟨t208, A270, H⟩ := Option.bind_eq_some_iff.mp H
     try dsimp only at H
     have A27 := Aside0.mk A270
     clear A270
     simp only [Option.some.injEq, Prod.mk.injEq] at H
     obtain ⟨rfl, rfl, rfl, rfl, rfl, rfl, rfl, rfl, rfl⟩ := H
     try go_wp2
     replace HO_3 := Aside0.mk (Kd.R_drew HO_3.out)
     replace HO_4 := Aside0.mk (Kd.R_drew HO_4.out)
     replace HO_6 := Aside0.mk (Kd.R_drew HO_6.out)
     replace BK183 := Aside0.mk (blk_drew BK183.out)
     replace BK184 := Aside0.mk (blk_drew BK184.out)
     replace HB := Aside0.mk (below_drew1 HB.out)
     refine start_ (n := 14) (S := fun w' => w'.cell? ⟨gb183, 0, none⟩ = some (.slice A0_0 l0_0.length c0_0) ∧ w'.cell? ⟨gb183, 1, none⟩ = some (.int .i64 a0_1) ∧ w'.cell? ⟨gb183, 2, none⟩ = some (.int .i64 a0_2) ∧ w'.cell? ⟨gb183, 3, none⟩ = some (.int .i64 a0_3) ∧ w'.cell? ⟨gb183, 4, none⟩ = some (.int .i64 a0_4) ∧ w'.cell? ⟨gb183, 5, none⟩ = some (.int .i64 a0_5)) (ds := []) #[false, false, false, false, false, false, false, false, false, false, false, false, false, false] (by kernel_rfl) rfl rfl (cy6 BK183.out) (fun hHeld => ?_); refine with_tabW spec_l10Start.tab8 spec_l10Start.bits8 (fun HT_ HW_ => ?_)
     generalize wr.drew = w28 at HO_3 HO_4 HO_6 BK183 BK184 HB hHeld ⊢
     refine pI 0 (some 41) #[true, false, false, false, false, false, false, false, false, false, false, false, false, false] HT_.out ?_
     refine pI 1 (some 42) #[true, true, false, false, false, false, false, false, false, false, false, false, false, false] HT_.out ?_
     refine pI 2 (some 43) #[true, true, true, false, false, false, false, false, false, false, false, false, false, false] HT_.out ?_
     refine pI 3 (some 44) #[true, true, true, true, false, false, false, false, false, false, false, false, false, false] HT_.out ?_
     refine pI 5 (some 46) #[true, true, true, true, false, true, false, false, false, false, false, false, false, false] HT_.out ?_
     refine pI 7 (some 48) #[true, true, true, true, false, true, false, true, false, false, false, false, false, false] HT_.out ?_
     refine pI 9 (some 50) #[true, true, true, true, false, true, false, true, false, true, false, false, false, false] HT_.out ?_
     refine tI 8 (some 49) #[true, true, true, true, false, true, false, true, true, true, false, false, false, false] HT_.out HW_.out hHeld ?_
     refine tI 10 (some 51) #[true, true, true, true, false, true, false, true, true, true, true, false, false, false] HT_.out HW_.out hHeld ?_
     refine join_ (σ := Value × Value × Nat) 1 #[true, true, true, true, true, true, true, true, true, true, true, true, true, false] (fun s_ => [(45, s_.1), (47, s_.2.1), (8, .pointer (some ⟨s_.2.2, 0, none⟩)), (52, .agg #[u6, v189, v186, s_.1, s_.2.1, .int .i64 0, .int .i64 a0_3, .int .i64 0, .int .i64 a0_5])]) (fun s_ w' => (w'.cell? ⟨gb183, 0, none⟩ = some (.slice A0_0 l0_0.length c0_0) ∧ w'.cell? ⟨gb183, 1, none⟩ = some (.int .i64 a0_1) ∧ w'.cell? ⟨gb183, 2, none⟩ = some (.int .i64 a0_2) ∧ w'.cell? ⟨gb183, 3, none⟩ = some (.int .i64 a0_3) ∧ w'.cell? ⟨gb183, 4, none⟩ = some (.int .i64 a0_4) ∧ w'.cell? ⟨gb183, 5, none⟩ = some (.int .i64 a0_5)) ∧ (Kd.R Kd.bool 4 w' w.heap.size (fun k_ => some k_ ≠ (s_.2.1 : Value).ownBlock) s_.1 y200) ∧ (Kd.R Kd.bool 4 w' w.heap.size (fun k_ => some k_ ≠ (s_.1 : Value).ownBlock) s_.2.1 y203) ∧ (Kd.R (Kd.int .i64) 2 w' w.heap.size (fun k_ => some k_ ≠ (v189 : Value).ownBlock ∧ some k_ ≠ (u6 : Value).ownBlock) v186 t185) ∧ (Kd.R (Kd.int .i64) 2 w' w.heap.size (fun k_ => some k_ ≠ (v186 : Value).ownBlock ∧ some k_ ≠ (u6 : Value).ownBlock) v189 t188) ∧ (Kd.R (Kd.int .i64) 2 w' w.heap.size (fun k_ => some k_ ≠ (v186 : Value).ownBlock ∧ some k_ ≠ (v189 : Value).ownBlock) u6 x6_1) ∧ (w'.heap[gb183]? = some (.cells #[.slice A0_0 l0_0.length c0_0, .int .i64 a0_1, .int .i64 a0_2, .int .i64 a0_3, .int .i64 a0_4, .int .i64 a0_5] 59 (0, 0))) ∧ (w'.heap[gb184]? = some (.cells #[.slice none 0 0, .slice none 0 0, .slice none 0 0, .slice none 0 0, .slice none 0 0, .int .i64 0, .int .i64 0, .int .i64 0, .int .i64 0] 28 (0, 0))) ∧ (w'.heap[s_.2.2]? = some (.cells #[.slice none 0 0, .slice none 0 0, .slice none 0 0, .slice none 0 0, .slice none 0 0, .int .i64 0, .int .i64 0, .int .i64 0, .int .i64 0] 28 (0, 0))) ∧ (w.heap.size ≤ s_.2.2) ∧ (w.heap.size ≤ s_.2.2) ∧ (gb183 ≠ s_.2.2) ∧ (s_.2.2 ≠ gb183) ∧ (gb184 ≠ s_.2.2) ∧ (s_.2.2 ≠ gb184) ∧ (Below w.heap.size w w')) ?_ ?_
     rotate_left
     ·intro hJ4_6_12
      refine join_ (σ := Value × Value) 2 #[true, true, true, true, true, true, true, true, true, true, true, true, false, false] (fun s_ => [(45, s_.1), (47, s_.2), (52, .agg #[u6, v189, v186, s_.1, s_.2, .int .i64 0, .int .i64 a0_3, .int .i64 0, .int .i64 a0_5])]) (fun s_ w' => (w'.cell? ⟨gb183, 0, none⟩ = some (.slice A0_0 l0_0.length c0_0) ∧ w'.cell? ⟨gb183, 1, none⟩ = some (.int .i64 a0_1) ∧ w'.cell? ⟨gb183, 2, none⟩ = some (.int .i64 a0_2) ∧ w'.cell? ⟨gb183, 3, none⟩ = some (.int .i64 a0_3) ∧ w'.cell? ⟨gb183, 4, none⟩ = some (.int .i64 a0_4) ∧ w'.cell? ⟨gb183, 5, none⟩ = some (.int .i64 a0_5)) ∧ (Kd.R Kd.bool 4 w' w.heap.size (fun k_ => some k_ ≠ (s_.2 : Value).ownBlock) s_.1 y200) ∧ (Kd.R Kd.bool 4 w' w.heap.size (fun k_ => some k_ ≠ (s_.1 : Value).ownBlock) s_.2 y203) ∧ (Kd.R (Kd.int .i64) 2 w' w.heap.size (fun k_ => some k_ ≠ (v189 : Value).ownBlock ∧ some k_ ≠ (u6 : Value).ownBlock) v186 t185) ∧ (Kd.R (Kd.int .i64) 2 w' w.heap.size (fun k_ => some k_ ≠ (v186 : Value).ownBlock ∧ some k_ ≠ (u6 : Value).ownBlock) v189 t188) ∧ (Kd.R (Kd.int .i64) 2 w' w.heap.size (fun k_ => some k_ ≠ (v186 : Value).ownBlock ∧ some k_ ≠ (v189 : Value).ownBlock) u6 x6_1) ∧ (w'.heap[gb183]? = some (.cells #[.slice A0_0 l0_0.length c0_0, .int .i64 a0_1, .int .i64 a0_2, .int .i64 a0_3, .int .i64 a0_4, .int .i64 a0_5] 59 (0, 0))) ∧ (w'.heap[gb184]? = some (.cells #[.slice none 0 0, .slice none 0 0, .slice none 0 0, .slice none 0 0, .slice none 0 0, .int .i64 0, .int .i64 0, .int .i64 0, .int .i64 0] 28 (0, 0))) ∧ (Below w.heap.size w w')) ?_ ?_
      rotate_left
      ·intro hJ4_6
       refine join_ (σ := Value × Nat) 3 #[true, true, true, true, true, true, false, true, true, true, true, false, true, false] (fun s_ => [(45, s_.1), (8, .pointer (some ⟨s_.2, 0, none⟩))]) (fun s_ w' => (w'.cell? ⟨gb183, 0, none⟩ = some (.slice A0_0 l0_0.length c0_0) ∧ w'.cell? ⟨gb183, 1, none⟩ = some (.int .i64 a0_1) ∧ w'.cell? ⟨gb183, 2, none⟩ = some (.int .i64 a0_2) ∧ w'.cell? ⟨gb183, 3, none⟩ = some (.int .i64 a0_3) ∧ w'.cell? ⟨gb183, 4, none⟩ = some (.int .i64 a0_4) ∧ w'.cell? ⟨gb183, 5, none⟩ = some (.int .i64 a0_5)) ∧ (Kd.R Kd.bool 4 w' w.heap.size (fun _ => True) s_.1 y200) ∧ (Kd.R (Kd.int .i64) 2 w' w.heap.size (fun k_ => some k_ ≠ (v189 : Value).ownBlock ∧ some k_ ≠ (u6 : Value).ownBlock) v186 t185) ∧ (Kd.R (Kd.int .i64) 2 w' w.heap.size (fun k_ => some k_ ≠ (v186 : Value).ownBlock ∧ some k_ ≠ (u6 : Value).ownBlock) v189 t188) ∧ (Kd.R (Kd.int .i64) 2 w' w.heap.size (fun k_ => some k_ ≠ (v186 : Value).ownBlock ∧ some k_ ≠ (v189 : Value).ownBlock) u6 x6_1) ∧ (w'.heap[gb183]? = some (.cells #[.slice A0_0 l0_0.length c0_0, .int .i64 a0_1, .int .i64 a0_2, .int .i64 a0_3, .int .i64 a0_4, .int .i64 a0_5] 59 (0, 0))) ∧ (w'.heap[gb184]? = some (.cells #[.slice none 0 0, .slice none 0 0, .slice none 0 0, .slice none 0 0, .slice none 0 0, .int .i64 0, .int .i64 0, .int .i64 0, .int .i64 0] 28 (0, 0))) ∧ (w'.heap[s_.2]? = some (.cells #[.slice none 0 0, .slice none 0 0, .slice none 0 0, .slice none 0 0, .slice none 0 0, .int .i64 0, .int .i64 0, .int .i64 0, .int .i64 0] 28 (0, 0))) ∧ (w.heap.size ≤ s_.2) ∧ (w.heap.size ≤ s_.2) ∧ (gb183 ≠ s_.2) ∧ (s_.2 ≠ gb183) ∧ (gb184 ≠ s_.2) ∧ (s_.2 ≠ gb184) ∧ (Below w.heap.size w w')) ?_ ?_
       rotate_left
       ·intro hJ4_12
        refine join_ (σ := Value × Nat) 3 #[true, true, true, true, false, true, true, true, true, true, true, false, true, false] (fun s_ => [(47, s_.1), (8, .pointer (some ⟨s_.2, 0, none⟩))]) (fun s_ w' => (w'.cell? ⟨gb183, 0, none⟩ = some (.slice A0_0 l0_0.length c0_0) ∧ w'.cell? ⟨gb183, 1, none⟩ = some (.int .i64 a0_1) ∧ w'.cell? ⟨gb183, 2, none⟩ = some (.int .i64 a0_2) ∧ w'.cell? ⟨gb183, 3, none⟩ = some (.int .i64 a0_3) ∧ w'.cell? ⟨gb183, 4, none⟩ = some (.int .i64 a0_4) ∧ w'.cell? ⟨gb183, 5, none⟩ = some (.int .i64 a0_5)) ∧ (Kd.R Kd.bool 4 w' w.heap.size (fun _ => True) s_.1 y203) ∧ (Kd.R (Kd.int .i64) 2 w' w.heap.size (fun k_ => some k_ ≠ (v189 : Value).ownBlock ∧ some k_ ≠ (u6 : Value).ownBlock) v186 t185) ∧ (Kd.R (Kd.int .i64) 2 w' w.heap.size (fun k_ => some k_ ≠ (v186 : Value).ownBlock ∧ some k_ ≠ (u6 : Value).ownBlock) v189 t188) ∧ (Kd.R (Kd.int .i64) 2 w' w.heap.size (fun k_ => some k_ ≠ (v186 : Value).ownBlock ∧ some k_ ≠ (v189 : Value).ownBlock) u6 x6_1) ∧ (w'.heap[gb183]? = some (.cells #[.slice A0_0 l0_0.length c0_0, .int .i64 a0_1, .int .i64 a0_2, .int .i64 a0_3, .int .i64 a0_4, .int .i64 a0_5] 59 (0, 0))) ∧ (w'.heap[gb184]? = some (.cells #[.slice none 0 0, .slice none 0 0, .slice none 0 0, .slice none 0 0, .slice none 0 0, .int .i64 0, .int .i64 0, .int .i64 0, .int .i64 0] 28 (0, 0))) ∧ (w'.heap[s_.2]? = some (.cells #[.slice none 0 0, .slice none 0 0, .slice none 0 0, .slice none 0 0, .slice none 0 0, .int .i64 0, .int .i64 0, .int .i64 0, .int .i64 0] 28 (0, 0))) ∧ (w.heap.size ≤ s_.2) ∧ (w.heap.size ≤ s_.2) ∧ (gb183 ≠ s_.2) ∧ (s_.2 ≠ gb183) ∧ (gb184 ≠ s_.2) ∧ (s_.2 ≠ gb184) ∧ (Below w.heap.size w w')) ?_ ?_
        rotate_left
        ·intro hJ6_12
         refine join_ (σ := Value) 4 #[true, true, true, true, true, true, false, true, true, true, true, false, false, false] (fun s_ => [(45, s_)]) (fun s_ w' => (w'.cell? ⟨gb183, 0, none⟩ = some (.slice A0_0 l0_0.length c0_0) ∧ w'.cell? ⟨gb183, 1, none⟩ = some (.int .i64 a0_1) ∧ w'.cell? ⟨gb183, 2, none⟩ = some (.int .i64 a0_2) ∧ w'.cell? ⟨gb183, 3, none⟩ = some (.int .i64 a0_3) ∧ w'.cell? ⟨gb183, 4, none⟩ = some (.int .i64 a0_4) ∧ w'.cell? ⟨gb183, 5, none⟩ = some (.int .i64 a0_5)) ∧ (Kd.R Kd.bool 4 w' w.heap.size (fun _ => True) s_ y200) ∧ (Kd.R (Kd.int .i64) 2 w' w.heap.size (fun k_ => some k_ ≠ (v189 : Value).ownBlock ∧ some k_ ≠ (u6 : Value).ownBlock) v186 t185) ∧ (Kd.R (Kd.int .i64) 2 w' w.heap.size (fun k_ => some k_ ≠ (v186 : Value).ownBlock ∧ some k_ ≠ (u6 : Value).ownBlock) v189 t188) ∧ (Kd.R (Kd.int .i64) 2 w' w.heap.size (fun k_ => some k_ ≠ (v186 : Value).ownBlock ∧ some k_ ≠ (v189 : Value).ownBlock) u6 x6_1) ∧ (w'.heap[gb183]? = some (.cells #[.slice A0_0 l0_0.length c0_0, .int .i64 a0_1, .int .i64 a0_2, .int .i64 a0_3, .int .i64 a0_4, .int .i64 a0_5] 59 (0, 0))) ∧ (w'.heap[gb184]? = some (.cells #[.slice none 0 0, .slice none 0 0, .slice none 0 0, .slice none 0 0, .slice none 0 0, .int .i64 0, .int .i64 0, .int .i64 0, .int .i64 0] 28 (0, 0))) ∧ (Below w.heap.size w w')) ?_ ?_
         rotate_left
         ·intro hJ4
          refine join_ (σ := Value) 4 #[true, true, true, true, false, true, true, true, true, true, true, false, false, false] (fun s_ => [(47, s_)]) (fun s_ w' => (w'.cell? ⟨gb183, 0, none⟩ = some (.slice A0_0 l0_0.length c0_0) ∧ w'.cell? ⟨gb183, 1, none⟩ = some (.int .i64 a0_1) ∧ w'.cell? ⟨gb183, 2, none⟩ = some (.int .i64 a0_2) ∧ w'.cell? ⟨gb183, 3, none⟩ = some (.int .i64 a0_3) ∧ w'.cell? ⟨gb183, 4, none⟩ = some (.int .i64 a0_4) ∧ w'.cell? ⟨gb183, 5, none⟩ = some (.int .i64 a0_5)) ∧ (Kd.R Kd.bool 4 w' w.heap.size (fun _ => True) s_ y203) ∧ (Kd.R (Kd.int .i64) 2 w' w.heap.size (fun k_ => some k_ ≠ (v189 : Value).ownBlock ∧ some k_ ≠ (u6 : Value).ownBlock) v186 t185) ∧ (Kd.R (Kd.int .i64) 2 w' w.heap.size (fun k_ => some k_ ≠ (v186 : Value).ownBlock ∧ some k_ ≠ (u6 : Value).ownBlock) v189 t188) ∧ (Kd.R (Kd.int .i64) 2 w' w.heap.size (fun k_ => some k_ ≠ (v186 : Value).ownBlock ∧ some k_ ≠ (v189 : Value).ownBlock) u6 x6_1) ∧ (w'.heap[gb183]? = some (.cells #[.slice A0_0 l0_0.length c0_0, .int .i64 a0_1, .int .i64 a0_2, .int .i64 a0_3, .int .i64 a0_4, .int .i64 a0_5] 59 (0, 0))) ∧ (w'.heap[gb184]? = some (.cells #[.slice none 0 0, .slice none 0 0, .slice none 0 0, .slice none 0 0, .slice none 0 0, .int .i64 0, .int .i64 0, .int .i64 0, .int .i64 0] 28 (0, 0))) ∧ (Below w.heap.size w w')) ?_ ?_
          rotate_left
          ·intro hJ6
           refine join_ (σ := Nat) 4 #[true, true, true, true, false, true, false, true, true, true, true, false, true, false] (fun s_ => [(8, .pointer (some ⟨s_, 0, none⟩))]) (fun s_ w' => (w'.cell? ⟨gb183, 0, none⟩ = some (.slice A0_0 l0_0.length c0_0) ∧ w'.cell? ⟨gb183, 1, none⟩ = some (.int .i64 a0_1) ∧ w'.cell? ⟨gb183, 2, none⟩ = some (.int .i64 a0_2) ∧ w'.cell? ⟨gb183, 3, none⟩ = some (.int .i64 a0_3) ∧ w'.cell? ⟨gb183, 4, none⟩ = some (.int .i64 a0_4) ∧ w'.cell? ⟨gb183, 5, none⟩ = some (.int .i64 a0_5)) ∧ (Kd.R (Kd.int .i64) 2 w' w.heap.size (fun k_ => some k_ ≠ (v189 : Value).ownBlock ∧ some k_ ≠ (u6 : Value).ownBlock) v186 t185) ∧ (Kd.R (Kd.int .i64) 2 w' w.heap.size (fun k_ => some k_ ≠ (v186 : Value).ownBlock ∧ some k_ ≠ (u6 : Value).ownBlock) v189 t188) ∧ (Kd.R (Kd.int .i64) 2 w' w.heap.size (fun k_ => some k_ ≠ (v186 : Value).ownBlock ∧ some k_ ≠ (v189 : Value).ownBlock) u6 x6_1) ∧ (w'.heap[gb183]? = some (.cells #[.slice A0_0 l0_0.length c0_0, .int .i64 a0_1, .int .i64 a0_2, .int .i64 a0_3, .int .i64 a0_4, .int .i64 a0_5] 59 (0, 0))) ∧ (w'.heap[gb184]? = some (.cells #[.slice none 0 0, .slice none 0 0, .slice none 0 0, .slice none 0 0, .slice none 0 0, .int .i64 0, .int .i64 0, .int .i64 0, .int .i64 0] 28 (0, 0))) ∧ (w'.heap[s_]? = some (.cells #[.slice none 0 0, .slice none 0 0, .slice none 0 0, .slice none 0 0, .slice none 0 0, .int .i64 0, .int .i64 0, .int .i64 0, .int .i64 0] 28 (0, 0))) ∧ (w.heap.size ≤ s_) ∧ (w.heap.size ≤ s_) ∧ (gb183 ≠ s_) ∧ (s_ ≠ gb183) ∧ (gb184 ≠ s_) ∧ (s_ ≠ gb184) ∧ (Below w.heap.size w w')) ?_ ?_
           rotate_left
           ·intro hJ12
            refine three_ (i := 4) (j := 6) (k := 12) (Ni := some 45) (Nj := some 47) (Nk := some 8) #[true, true, true, true, true, true, false, true, true, true, true, false, false, false] #[true, true, true, true, false, true, true, true, true, true, true, false, false, false] #[true, true, true, true, false, true, false, true, true, true, true, false, true, false] rfl rfl rfl rfl rfl rfl (three_of HT_.out (by kernel_rfl)) (by decide) (by decide) (by decide) (fun K hK => ?_) (fun K hK => ?_) (fun K hK => ?_)
            ·skip
             refine Kd.R_make_step Kd.bool _ 4 (by rfl) (N := 45) rfl 23 _ _ rfl (l0_0.length : Int) rfl rfl Try.underlying23 (.bool false) 1 info4 rfl (by decide) (by omega) false (ok := fun _ => True) (okp := fun _ => True) rfl (fun _ hk => hk) trivial (dA) (Nat.le_trans (Nat.mul_le_mul_right _ (dA : (l0_0.length : Int).toNat ≤ 281474976710656)) (by omega)) (Below.refl _ _) (Nat.le_refl _) ?_
             intro v201 w29 ho30 hb hg_ hnew_
             clear hg_ hnew_
             (first | rw [← Ny200.out] at ho30 | (simp only [Int.reduceToNat] at ho30; rw [← Ny200.out] at ho30))
             replace HO_3 := Aside0.mk (Kd.R_below (rA HO_3.out) hb)
             replace HO_4 := Aside0.mk (Kd.R_below (rA HO_4.out) hb)
             replace HO_6 := Aside0.mk (Kd.R_below (rA HO_6.out) hb)
             have HO202 := Aside0.mk (Kd.R_lower ho30 (below_size (bA HB.out)))
             replace BK183 := Aside0.mk (blk_below (kA BK183.out) hb)
             replace BK184 := Aside0.mk (blk_below (kA BK184.out) hb)
             replace HB := Aside0.mk (below_step (bA HB.out) hb)
             clear hb ho30
             refine hK.out _ _ (cy6 BK183.out) (fun hHeld => ?_)
             clear hK K
             refine nO 45 ?_
             exact nP (hJ4 (v201) _ ⟨hHeld, (rA HO202.out), (rA HO_3.out), (rA HO_4.out), (rA HO_6.out), (kA BK183.out), (kA BK184.out), (bA HB.out)⟩)
            ·skip
             refine Kd.R_make_step Kd.bool _ 4 (by rfl) (N := 47) rfl 23 _ _ rfl (l0_0.length : Int) rfl rfl Try.underlying23 (.bool false) 1 info4 rfl (by decide) (by omega) false (ok := fun _ => True) (okp := fun _ => True) rfl (fun _ hk => hk) trivial (dA) (Nat.le_trans (Nat.mul_le_mul_right _ (dA : (l0_0.length : Int).toNat ≤ 281474976710656)) (by omega)) (Below.refl _ _) (Nat.le_refl _) ?_
             intro v204 w29 ho30 hb hg_ hnew_
             clear hg_ hnew_
             (first | rw [← Ny203.out] at ho30 | (simp only [Int.reduceToNat] at ho30; rw [← Ny203.out] at ho30))
             replace HO_3 := Aside0.mk (Kd.R_below (rA HO_3.out) hb)
             replace HO_4 := Aside0.mk (Kd.R_below (rA HO_4.out) hb)
             replace HO_6 := Aside0.mk (Kd.R_below (rA HO_6.out) hb)
             have HO205 := Aside0.mk (Kd.R_lower ho30 (below_size (bA HB.out)))
             replace BK183 := Aside0.mk (blk_below (kA BK183.out) hb)
             replace BK184 := Aside0.mk (blk_below (kA BK184.out) hb)
             replace HB := Aside0.mk (below_step (bA HB.out) hb)
             clear hb ho30
             refine hK.out _ _ (cy6 BK183.out) (fun hHeld => ?_)
             clear hK K
             refine nO 47 ?_
             exact nP (hJ6 (v204) _ ⟨hHeld, (rA HO205.out), (rA HO_3.out), (rA HO_4.out), (rA HO_6.out), (kA BK183.out), (kA BK184.out), (bA HB.out)⟩)
            ·skip
             refine box_step ?hg (N := 8) ?hd (cs := #[.slice none 0 0, .slice none 0 0, .slice none 0 0, .slice none 0 0, .slice none 0 0, .int .i64 0, .int .i64 0, .int .i64 0, .int .i64 0]) (t := 28) ?hr ?_; (case hd => rfl); (case hg => rfl); (case hr => first | (go_simp; done) | (go_simp; rfl))
             intro gb206 hg w29 hbox hb
             replace HO_3 := Aside0.mk (Kd.R_below (rA HO_3.out) hb)
             replace HO_4 := Aside0.mk (Kd.R_below (rA HO_4.out) hb)
             replace HO_6 := Aside0.mk (Kd.R_below (rA HO_6.out) hb)
             have BK206 := Aside0.mk (hbox)
             have GW206 := Aside0.mk (gE hg (bA HB.out))
             have GE206 := Aside0.mk (gE hg (bA HB.out))
             replace HB := Aside0.mk (below_step (bA HB.out) hb)
             have NB183_206 := Aside0.mk ((by rw [hg]; exact Nat.ne_of_lt (blk_lt (kA BK183.out)) : gb183 ≠ gb206))
             have NB206_183 := Aside0.mk ((by rw [hg]; exact Nat.ne_of_gt (blk_lt (kA BK183.out)) : gb206 ≠ gb183))
             replace BK183 := Aside0.mk (blk_below (kA BK183.out) hb)
             have NB184_206 := Aside0.mk ((by rw [hg]; exact Nat.ne_of_lt (blk_lt (kA BK184.out)) : gb184 ≠ gb206))
             have NB206_184 := Aside0.mk ((by rw [hg]; exact Nat.ne_of_gt (blk_lt (kA BK184.out)) : gb206 ≠ gb184))
             replace BK184 := Aside0.mk (blk_below (kA BK184.out) hb)
             clear hb hbox hg
             refine hK.out _ _ (cy6 BK183.out) (fun hHeld => ?_)
             clear hK K
             refine nO 8 ?_
             exact nP (hJ12 (gb206) _ ⟨hHeld, (rA HO_3.out), (rA HO_4.out), (rA HO_6.out), (kA BK183.out), (kA BK184.out), (kA BK206.out), GW206.out, GE206.out, NB183_206.out, NB206_183.out, NB184_206.out, NB206_184.out, (bA HB.out)⟩)
           ·skip
            rintro gb206 w30 ⟨hS_, h0_, h1_, h2_, h3_, h4_, h5_, h6_, h7_, h8_, h9_, h10_, h11_, h12_⟩
            try dsimp only at hS_ h0_ h1_ h2_ h3_ h4_ h5_ h6_ h7_ h8_ h9_ h10_ h11_ h12_
            clear HO_3 HO_4 HO_6 BK183 BK184 HB
            have HO_3 := Aside0.mk h0_
            have HO_4 := Aside0.mk h1_
            have HO_6 := Aside0.mk h2_
            have BK183 := Aside0.mk h3_
            have BK184 := Aside0.mk h4_
            have BK206 := Aside0.mk h5_
            have GW206 := Aside0.mk h6_
            have GE206 := Aside0.mk h7_
            have NB183_206 := Aside0.mk h8_
            have NB206_183 := Aside0.mk h9_
            have NB184_206 := Aside0.mk h10_
            have NB206_184 := Aside0.mk h11_
            have HB := Aside0.mk h12_
            clear h0_ h1_ h2_ h3_ h4_ h5_ h6_ h7_ h8_ h9_ h10_ h11_ h12_
            have hHeld := hS_
            refine nQ ?_
            refine two_ (i := 4) (j := 6) (Ni := some 45) (Nj := some 47) #[true, true, true, true, true, true, false, true, true, true, true, false, true, false] #[true, true, true, true, false, true, true, true, true, true, true, false, true, false] rfl rfl rfl rfl (two_of HT_.out (by kernel_rfl)) (by decide) (by decide) (fun K hK => ?_) (fun K hK => ?_)
            ·skip
             refine Kd.R_make_step Kd.bool _ 4 (by rfl) (N := 45) rfl 23 _ _ rfl (l0_0.length : Int) rfl rfl Try.underlying23 (.bool false) 1 info4 rfl (by decide) (by omega) false (ok := fun _ => True) (okp := fun _ => True) rfl (fun _ hk => hk) trivial (dA) (Nat.le_trans (Nat.mul_le_mul_right _ (dA : (l0_0.length : Int).toNat ≤ 281474976710656)) (by omega)) (Below.refl _ _) (Nat.le_refl _) ?_
             intro v201 w31 ho32 hb hg_ hnew_
             clear hg_ hnew_
             (first | rw [← Ny200.out] at ho32 | (simp only [Int.reduceToNat] at ho32; rw [← Ny200.out] at ho32))
             replace HO_3 := Aside0.mk (Kd.R_below (rA HO_3.out) hb)
             replace HO_4 := Aside0.mk (Kd.R_below (rA HO_4.out) hb)
             replace HO_6 := Aside0.mk (Kd.R_below (rA HO_6.out) hb)
             have HO202 := Aside0.mk (Kd.R_lower ho32 (below_size (bA HB.out)))
             replace BK183 := Aside0.mk (blk_below (kA BK183.out) hb)
             replace BK184 := Aside0.mk (blk_below (kA BK184.out) hb)
             replace BK206 := Aside0.mk (blk_below (kA BK206.out) hb)
             replace HB := Aside0.mk (below_step (bA HB.out) hb)
             clear hb ho32
             refine hK.out _ _ (cy6 BK183.out) (fun hHeld => ?_)
             clear hK K
             refine nO 45 ?_
             exact nP (hJ4_12 (v201, gb206) _ ⟨hHeld, (rA HO202.out), (rA HO_3.out), (rA HO_4.out), (rA HO_6.out), (kA BK183.out), (kA BK184.out), (kA BK206.out), GW206.out, GE206.out, NB183_206.out, NB206_183.out, NB184_206.out, NB206_184.out, (bA HB.out)⟩)
            ·skip
             refine Kd.R_make_step Kd.bool _ 4 (by rfl) (N := 47) rfl 23 _ _ rfl (l0_0.length : Int) rfl rfl Try.underlying23 (.bool false) 1 info4 rfl (by decide) (by omega) false (ok := fun _ => True) (okp := fun _ => True) rfl (fun _ hk => hk) trivial (dA) (Nat.le_trans (Nat.mul_le_mul_right _ (dA : (l0_0.length : Int).toNat ≤ 281474976710656)) (by omega)) (Below.refl _ _) (Nat.le_refl _) ?_
             intro v204 w31 ho32 hb hg_ hnew_
             clear hg_ hnew_
             (first | rw [← Ny203.out] at ho32 | (simp only [Int.reduceToNat] at ho32; rw [← Ny203.out] at ho32))
             replace HO_3 := Aside0.mk (Kd.R_below (rA HO_3.out) hb)
             replace HO_4 := Aside0.mk (Kd.R_below (rA HO_4.out) hb)
             replace HO_6 := Aside0.mk (Kd.R_below (rA HO_6.out) hb)
             have HO205 := Aside0.mk (Kd.R_lower ho32 (below_size (bA HB.out)))
             replace BK183 := Aside0.mk (blk_below (kA BK183.out) hb)
             replace BK184 := Aside0.mk (blk_below (kA BK184.out) hb)
             replace BK206 := Aside0.mk (blk_below (kA BK206.out) hb)
             replace HB := Aside0.mk (below_step (bA HB.out) hb)
             clear hb ho32
             refine hK.out _ _ (cy6 BK183.out) (fun hHeld => ?_)
             clear hK K
             refine nO 47 ?_
             exact nP (hJ6_12 (v204, gb206) _ ⟨hHeld, (rA HO205.out), (rA HO_3.out), (rA HO_4.out), (rA HO_6.out), (kA BK183.out), (kA BK184.out), (kA BK206.out), GW206.out, GE206.out, NB183_206.out, NB206_183.out, NB184_206.out, NB206_184.out, (bA HB.out)⟩)
          ·skip
           rintro v204 w31 ⟨hS_, h0_, h1_, h2_, h3_, h4_, h5_, h6_⟩
           try dsimp only at hS_ h0_ h1_ h2_ h3_ h4_ h5_ h6_
           clear HO_3 HO_4 HO_6 BK183 BK184 HB
           have HO205 := Aside0.mk h0_
           have HO_3 := Aside0.mk h1_
           have HO_4 := Aside0.mk h2_
           have HO_6 := Aside0.mk h3_
           have BK183 := Aside0.mk h4_
           have BK184 := Aside0.mk h5_
           have HB := Aside0.mk h6_
           clear h0_ h1_ h2_ h3_ h4_ h5_ h6_
           have hHeld := hS_
           refine nQ ?_
           refine two_ (i := 4) (j := 12) (Ni := some 45) (Nj := some 8) #[true, true, true, true, true, true, true, true, true, true, true, false, false, false] #[true, true, true, true, false, true, true, true, true, true, true, false, true, false] rfl rfl rfl rfl (two_of HT_.out (by kernel_rfl)) (by decide) (by decide) (fun K hK => ?_) (fun K hK => ?_)
           ·skip
            refine Kd.R_make_step Kd.bool _ 4 (by rfl) (N := 45) rfl 23 _ _ rfl (l0_0.length : Int) rfl rfl Try.underlying23 (.bool false) 1 info4 rfl (by decide) (by omega) false (ok := fun _ => True) (okp := fun _ => True) rfl (fun _ hk => hk) trivial (dA) (Nat.le_trans (Nat.mul_le_mul_right _ (dA : (l0_0.length : Int).toNat ≤ 281474976710656)) (by omega)) (Below.refl _ _) (Nat.le_refl _) ?_
            intro v201 w32 ho33 hb hg_ hnew_
            clear hg_ hnew_
            (first | rw [← Ny200.out] at ho33 | (simp only [Int.reduceToNat] at ho33; rw [← Ny200.out] at ho33))
            replace HO_3 := Aside0.mk (Kd.R_below (rA HO_3.out) hb)
            replace HO_4 := Aside0.mk (Kd.R_below (rA HO_4.out) hb)
            replace HO_6 := Aside0.mk (Kd.R_below (rA HO_6.out) hb)
            have HO202 := Aside0.mk (Kd.R_lower (Kd.R_new' ho33 (Kd.R_lt (rA HO205.out))) (below_size (bA HB.out)))
            replace HO205 := Aside0.mk (Kd.R_elder' (rA HO205.out) (Kd.R_base ho33) hb)
            replace BK183 := Aside0.mk (blk_below (kA BK183.out) hb)
            replace BK184 := Aside0.mk (blk_below (kA BK184.out) hb)
            replace HB := Aside0.mk (below_step (bA HB.out) hb)
            clear hb ho33
            obtain ⟨Ao34, co34, eo34⟩ := Kd.R_slice HO205.out
            (first | subst eo34 | (injection eo34 with f1_ f2_ f3_; have f4_ := f1_.symm; have f5_ := f3_.symm; clear f1_ f2_ f3_; subst f4_; subst f5_))
            obtain ⟨Ao35, co35, eo35⟩ := Kd.R_slice HO202.out
            (first | subst eo35 | (injection eo35 with f1_ f2_ f3_; have f4_ := f1_.symm; have f5_ := f3_.symm; clear f1_ f2_ f3_; subst f4_; subst f5_))
            obtain ⟨Ao36, co36, eo36⟩ := Kd.R_slice HO_3.out
            (first | subst eo36 | (injection eo36 with f1_ f2_ f3_; have f4_ := f1_.symm; have f5_ := f3_.symm; clear f1_ f2_ f3_; subst f4_; subst f5_))
            obtain ⟨Ao37, co37, eo37⟩ := Kd.R_slice HO_4.out
            (first | subst eo37 | (injection eo37 with f1_ f2_ f3_; have f4_ := f1_.symm; have f5_ := f3_.symm; clear f1_ f2_ f3_; subst f4_; subst f5_))
            obtain ⟨Ao38, co38, eo38⟩ := Kd.R_slice HO_6.out
            (first | subst eo38 | (injection eo38 with f1_ f2_ f3_; have f4_ := f1_.symm; have f5_ := f3_.symm; clear f1_ f2_ f3_; subst f4_; subst f5_))
            refine hK.out _ _ (cy6 BK183.out) (fun hHeld => ?_)
            clear hK K
            refine nO 45 ?_
            refine pI 11 (some 52) #[true, true, true, true, true, true, true, true, true, true, true, true, false, false] HT_.out ?_
            exact nP (hJ4_6 (.slice Ao35 y200.length co35, .slice Ao34 y203.length co34) _ ⟨hHeld, (by (with_reducible repeat (first | apply Kd.R_alloc | apply Kd.R_drewN | apply Kd.R_drew)); exact Kd.R_mono HO202.out (fun _ hk => hk.2)), (by (with_reducible repeat (first | apply Kd.R_alloc | apply Kd.R_drewN | apply Kd.R_drew)); exact Kd.R_mono HO205.out (fun _ hk => hk.2)), (rA HO_3.out), (rA HO_4.out), (rA HO_6.out), (kA BK183.out), (kA BK184.out), (bA HB.out)⟩)
           ·skip
            refine box_step ?hg (N := 8) ?hd (cs := #[.slice none 0 0, .slice none 0 0, .slice none 0 0, .slice none 0 0, .slice none 0 0, .int .i64 0, .int .i64 0, .int .i64 0, .int .i64 0]) (t := 28) ?hr ?_; (case hd => rfl); (case hg => rfl); (case hr => first | (go_simp; done) | (go_simp; rfl))
            intro gb206 hg w32 hbox hb
            replace HO_3 := Aside0.mk (Kd.R_below (rA HO_3.out) hb)
            replace HO_4 := Aside0.mk (Kd.R_below (rA HO_4.out) hb)
            replace HO_6 := Aside0.mk (Kd.R_below (rA HO_6.out) hb)
            replace HO205 := Aside0.mk (Kd.R_below (rA HO205.out) hb)
            have BK206 := Aside0.mk (hbox)
            have GW206 := Aside0.mk (gE hg (bA HB.out))
            have GE206 := Aside0.mk (gE hg (bA HB.out))
            replace HB := Aside0.mk (below_step (bA HB.out) hb)
            have NB183_206 := Aside0.mk ((by rw [hg]; exact Nat.ne_of_lt (blk_lt (kA BK183.out)) : gb183 ≠ gb206))
            have NB206_183 := Aside0.mk ((by rw [hg]; exact Nat.ne_of_gt (blk_lt (kA BK183.out)) : gb206 ≠ gb183))
            replace BK183 := Aside0.mk (blk_below (kA BK183.out) hb)
            have NB184_206 := Aside0.mk ((by rw [hg]; exact Nat.ne_of_lt (blk_lt (kA BK184.out)) : gb184 ≠ gb206))
            have NB206_184 := Aside0.mk ((by rw [hg]; exact Nat.ne_of_gt (blk_lt (kA BK184.out)) : gb206 ≠ gb184))
            replace BK184 := Aside0.mk (blk_below (kA BK184.out) hb)
            clear hb hbox hg
            refine hK.out _ _ (cy6 BK183.out) (fun hHeld => ?_)
            clear hK K
            refine nO 8 ?_
            exact nP (hJ6_12 (v204, gb206) _ ⟨hHeld, (rA HO205.out), (rA HO_3.out), (rA HO_4.out), (rA HO_6.out), (kA BK183.out), (kA BK184.out), (kA BK206.out), GW206.out, GE206.out, NB183_206.out, NB206_183.out, NB184_206.out, NB206_184.out, (bA HB.out)⟩)
         ·skip
          rintro v201 w31 ⟨hS_, h0_, h1_, h2_, h3_, h4_, h5_, h6_⟩
          try dsimp only at hS_ h0_ h1_ h2_ h3_ h4_ h5_ h6_
          clear HO_3 HO_4 HO_6 BK183 BK184 HB
          have HO202 := Aside0.mk h0_
          have HO_3 := Aside0.mk h1_
          have HO_4 := Aside0.mk h2_
          have HO_6 := Aside0.mk h3_
          have BK183 := Aside0.mk h4_
          have BK184 := Aside0.mk h5_
          have HB := Aside0.mk h6_
          clear h0_ h1_ h2_ h3_ h4_ h5_ h6_
          have hHeld := hS_
          refine nQ ?_
          refine two_ (i := 6) (j := 12) (Ni := some 47) (Nj := some 8) #[true, true, true, true, true, true, true, true, true, true, true, false, false, false] #[true, true, true, true, true, true, false, true, true, true, true, false, true, false] rfl rfl rfl rfl (two_of HT_.out (by kernel_rfl)) (by decide) (by decide) (fun K hK => ?_) (fun K hK => ?_)
          ·skip
           refine Kd.R_make_step Kd.bool _ 4 (by rfl) (N := 47) rfl 23 _ _ rfl (l0_0.length : Int) rfl rfl Try.underlying23 (.bool false) 1 info4 rfl (by decide) (by omega) false (ok := fun _ => True) (okp := fun _ => True) rfl (fun _ hk => hk) trivial (dA) (Nat.le_trans (Nat.mul_le_mul_right _ (dA : (l0_0.length : Int).toNat ≤ 281474976710656)) (by omega)) (Below.refl _ _) (Nat.le_refl _) ?_
           intro v204 w32 ho33 hb hg_ hnew_
           clear hg_ hnew_
           (first | rw [← Ny203.out] at ho33 | (simp only [Int.reduceToNat] at ho33; rw [← Ny203.out] at ho33))
           replace HO_3 := Aside0.mk (Kd.R_below (rA HO_3.out) hb)
           replace HO_4 := Aside0.mk (Kd.R_below (rA HO_4.out) hb)
           replace HO_6 := Aside0.mk (Kd.R_below (rA HO_6.out) hb)
           have HO205 := Aside0.mk (Kd.R_lower (Kd.R_new' ho33 (Kd.R_lt (rA HO202.out))) (below_size (bA HB.out)))
           replace HO202 := Aside0.mk (Kd.R_elder' (rA HO202.out) (Kd.R_base ho33) hb)
           replace BK183 := Aside0.mk (blk_below (kA BK183.out) hb)
           replace BK184 := Aside0.mk (blk_below (kA BK184.out) hb)
           replace HB := Aside0.mk (below_step (bA HB.out) hb)
           clear hb ho33
           obtain ⟨Ao34, co34, eo34⟩ := Kd.R_slice HO205.out
           (first | subst eo34 | (injection eo34 with f1_ f2_ f3_; have f4_ := f1_.symm; have f5_ := f3_.symm; clear f1_ f2_ f3_; subst f4_; subst f5_))
           obtain ⟨Ao35, co35, eo35⟩ := Kd.R_slice HO202.out
           (first | subst eo35 | (injection eo35 with f1_ f2_ f3_; have f4_ := f1_.symm; have f5_ := f3_.symm; clear f1_ f2_ f3_; subst f4_; subst f5_))
           obtain ⟨Ao36, co36, eo36⟩ := Kd.R_slice HO_3.out
           (first | subst eo36 | (injection eo36 with f1_ f2_ f3_; have f4_ := f1_.symm; have f5_ := f3_.symm; clear f1_ f2_ f3_; subst f4_; subst f5_))
           obtain ⟨Ao37, co37, eo37⟩ := Kd.R_slice HO_4.out
           (first | subst eo37 | (injection eo37 with f1_ f2_ f3_; have f4_ := f1_.symm; have f5_ := f3_.symm; clear f1_ f2_ f3_; subst f4_; subst f5_))
           obtain ⟨Ao38, co38, eo38⟩ := Kd.R_slice HO_6.out
           (first | subst eo38 | (injection eo38 with f1_ f2_ f3_; have f4_ := f1_.symm; have f5_ := f3_.symm; clear f1_ f2_ f3_; subst f4_; subst f5_))
           refine hK.out _ _ (cy6 BK183.out) (fun hHeld => ?_)
           clear hK K
           refine nO 47 ?_
           refine pI 11 (some 52) #[true, true, true, true, true, true, true, true, true, true, true, true, false, false] HT_.out ?_
           exact nP (hJ4_6 (.slice Ao35 y200.length co35, .slice Ao34 y203.length co34) _ ⟨hHeld, (by (with_reducible repeat (first | apply Kd.R_alloc | apply Kd.R_drewN | apply Kd.R_drew)); exact Kd.R_mono HO202.out (fun _ hk => hk.2)), (by (with_reducible repeat (first | apply Kd.R_alloc | apply Kd.R_drewN | apply Kd.R_drew)); exact Kd.R_mono HO205.out (fun _ hk => hk.2)), (rA HO_3.out), (rA HO_4.out), (rA HO_6.out), (kA BK183.out), (kA BK184.out), (bA HB.out)⟩)
          ·skip
           refine box_step ?hg (N := 8) ?hd (cs := #[.slice none 0 0, .slice none 0 0, .slice none 0 0, .slice none 0 0, .slice none 0 0, .int .i64 0, .int .i64 0, .int .i64 0, .int .i64 0]) (t := 28) ?hr ?_; (case hd => rfl); (case hg => rfl); (case hr => first | (go_simp; done) | (go_simp; rfl))
           intro gb206 hg w32 hbox hb
           replace HO_3 := Aside0.mk (Kd.R_below (rA HO_3.out) hb)
           replace HO_4 := Aside0.mk (Kd.R_below (rA HO_4.out) hb)
           replace HO_6 := Aside0.mk (Kd.R_below (rA HO_6.out) hb)
           replace HO202 := Aside0.mk (Kd.R_below (rA HO202.out) hb)
           have BK206 := Aside0.mk (hbox)
           have GW206 := Aside0.mk (gE hg (bA HB.out))
           have GE206 := Aside0.mk (gE hg (bA HB.out))
           replace HB := Aside0.mk (below_step (bA HB.out) hb)
           have NB183_206 := Aside0.mk ((by rw [hg]; exact Nat.ne_of_lt (blk_lt (kA BK183.out)) : gb183 ≠ gb206))
           have NB206_183 := Aside0.mk ((by rw [hg]; exact Nat.ne_of_gt (blk_lt (kA BK183.out)) : gb206 ≠ gb183))
           replace BK183 := Aside0.mk (blk_below (kA BK183.out) hb)
           have NB184_206 := Aside0.mk ((by rw [hg]; exact Nat.ne_of_lt (blk_lt (kA BK184.out)) : gb184 ≠ gb206))
           have NB206_184 := Aside0.mk ((by rw [hg]; exact Nat.ne_of_gt (blk_lt (kA BK184.out)) : gb206 ≠ gb184))
           replace BK184 := Aside0.mk (blk_below (kA BK184.out) hb)
           clear hb hbox hg
           refine hK.out _ _ (cy6 BK183.out) (fun hHeld => ?_)
           clear hK K
           refine nO 8 ?_
           exact nP (hJ4_12 (v201, gb206) _ ⟨hHeld, (rA HO202.out), (rA HO_3.out), (rA HO_4.out), (rA HO_6.out), (kA BK183.out), (kA BK184.out), (kA BK206.out), GW206.out, GE206.out, NB183_206.out, NB206_183.out, NB184_206.out, NB206_184.out, (bA HB.out)⟩)
        ·skip
         rintro ⟨v204, gb206⟩ w32 ⟨hS_, h0_, h1_, h2_, h3_, h4_, h5_, h6_, h7_, h8_, h9_, h10_, h11_, h12_, h13_⟩
         try dsimp only at hS_ h0_ h1_ h2_ h3_ h4_ h5_ h6_ h7_ h8_ h9_ h10_ h11_ h12_ h13_
         clear HO_3 HO_4 HO_6 BK183 BK184 HB
         have HO205 := Aside0.mk h0_
         have HO_3 := Aside0.mk h1_
         have HO_4 := Aside0.mk h2_
         have HO_6 := Aside0.mk h3_
         have BK183 := Aside0.mk h4_
         have BK184 := Aside0.mk h5_
         have BK206 := Aside0.mk h6_
         have GW206 := Aside0.mk h7_
         have GE206 := Aside0.mk h8_
         have NB183_206 := Aside0.mk h9_
         have NB206_183 := Aside0.mk h10_
         have NB184_206 := Aside0.mk h11_
         have NB206_184 := Aside0.mk h12_
         have HB := Aside0.mk h13_
         clear h0_ h1_ h2_ h3_ h4_ h5_ h6_ h7_ h8_ h9_ h10_ h11_ h12_ h13_
         have hHeld := hS_
         refine nQ ?_
         refine one_ (i := 4) (N := some 45) #[true, true, true, true, true, true, true, true, true, true, true, false, true, false] rfl rfl (one_of HT_.out (by kernel_rfl)) (by decide) (fun K hK => ?_)
         refine Kd.R_make_step Kd.bool _ 4 (by rfl) (N := 45) rfl 23 _ _ rfl (l0_0.length : Int) rfl rfl Try.underlying23 (.bool false) 1 info4 rfl (by decide) (by omega) false (ok := fun _ => True) (okp := fun _ => True) rfl (fun _ hk => hk) trivial (dA) (Nat.le_trans (Nat.mul_le_mul_right _ (dA : (l0_0.length : Int).toNat ≤ 281474976710656)) (by omega)) (Below.refl _ _) (Nat.le_refl _) ?_
         intro v201 w33 ho34 hb hg_ hnew_
         clear hg_ hnew_
         (first | rw [← Ny200.out] at ho34 | (simp only [Int.reduceToNat] at ho34; rw [← Ny200.out] at ho34))
         replace HO_3 := Aside0.mk (Kd.R_below (rA HO_3.out) hb)
         replace HO_4 := Aside0.mk (Kd.R_below (rA HO_4.out) hb)
         replace HO_6 := Aside0.mk (Kd.R_below (rA HO_6.out) hb)
         have HO202 := Aside0.mk (Kd.R_lower (Kd.R_new' ho34 (Kd.R_lt (rA HO205.out))) (below_size (bA HB.out)))
         replace HO205 := Aside0.mk (Kd.R_elder' (rA HO205.out) (Kd.R_base ho34) hb)
         replace BK183 := Aside0.mk (blk_below (kA BK183.out) hb)
         replace BK184 := Aside0.mk (blk_below (kA BK184.out) hb)
         replace BK206 := Aside0.mk (blk_below (kA BK206.out) hb)
         replace HB := Aside0.mk (below_step (bA HB.out) hb)
         clear hb ho34
         obtain ⟨Ao35, co35, eo35⟩ := Kd.R_slice HO205.out
         (first | subst eo35 | (injection eo35 with f1_ f2_ f3_; have f4_ := f1_.symm; have f5_ := f3_.symm; clear f1_ f2_ f3_; subst f4_; subst f5_))
         obtain ⟨Ao36, co36, eo36⟩ := Kd.R_slice HO202.out
         (first | subst eo36 | (injection eo36 with f1_ f2_ f3_; have f4_ := f1_.symm; have f5_ := f3_.symm; clear f1_ f2_ f3_; subst f4_; subst f5_))
         obtain ⟨Ao37, co37, eo37⟩ := Kd.R_slice HO_3.out
         (first | subst eo37 | (injection eo37 with f1_ f2_ f3_; have f4_ := f1_.symm; have f5_ := f3_.symm; clear f1_ f2_ f3_; subst f4_; subst f5_))
         obtain ⟨Ao38, co38, eo38⟩ := Kd.R_slice HO_4.out
         (first | subst eo38 | (injection eo38 with f1_ f2_ f3_; have f4_ := f1_.symm; have f5_ := f3_.symm; clear f1_ f2_ f3_; subst f4_; subst f5_))
         obtain ⟨Ao39, co39, eo39⟩ := Kd.R_slice HO_6.out
         (first | subst eo39 | (injection eo39 with f1_ f2_ f3_; have f4_ := f1_.symm; have f5_ := f3_.symm; clear f1_ f2_ f3_; subst f4_; subst f5_))
         refine hK.out _ _ (cy6 BK183.out) (fun hHeld => ?_)
         clear hK K
         refine nO 45 ?_
         refine pI 11 (some 52) #[true, true, true, true, true, true, true, true, true, true, true, true, true, false] HT_.out ?_
         exact nP (hJ4_6_12 (.slice Ao36 y200.length co36, .slice Ao35 y203.length co35, gb206) _ ⟨hHeld, (by (with_reducible repeat (first | apply Kd.R_alloc | apply Kd.R_drewN | apply Kd.R_drew)); exact Kd.R_mono HO202.out (fun _ hk => hk.2)), (by (with_reducible repeat (first | apply Kd.R_alloc | apply Kd.R_drewN | apply Kd.R_drew)); exact Kd.R_mono HO205.out (fun _ hk => hk.2)), (rA HO_3.out), (rA HO_4.out), (rA HO_6.out), (kA BK183.out), (kA BK184.out), (kA BK206.out), GW206.out, GE206.out, NB183_206.out, NB206_183.out, NB184_206.out, NB206_184.out, (bA HB.out)⟩)
       ·skip
        rintro ⟨v201, gb206⟩ w32 ⟨hS_, h0_, h1_, h2_, h3_, h4_, h5_, h6_, h7_, h8_, h9_, h10_, h11_, h12_, h13_⟩
        try dsimp only at hS_ h0_ h1_ h2_ h3_ h4_ h5_ h6_ h7_ h8_ h9_ h10_ h11_ h12_ h13_
        clear HO_3 HO_4 HO_6 BK183 BK184 HB
        have HO202 := Aside0.mk h0_
        have HO_3 := Aside0.mk h1_
        have HO_4 := Aside0.mk h2_
        have HO_6 := Aside0.mk h3_
        have BK183 := Aside0.mk h4_
        have BK184 := Aside0.mk h5_
        have BK206 := Aside0.mk h6_
        have GW206 := Aside0.mk h7_
        have GE206 := Aside0.mk h8_
        have NB183_206 := Aside0.mk h9_
        have NB206_183 := Aside0.mk h10_
        have NB184_206 := Aside0.mk h11_
        have NB206_184 := Aside0.mk h12_
        have HB := Aside0.mk h13_
        clear h0_ h1_ h2_ h3_ h4_ h5_ h6_ h7_ h8_ h9_ h10_ h11_ h12_ h13_
        have hHeld := hS_
        refine nQ ?_
        refine one_ (i := 6) (N := some 47) #[true, true, true, true, true, true, true, true, true, true, true, false, true, false] rfl rfl (one_of HT_.out (by kernel_rfl)) (by decide) (fun K hK => ?_)
        refine Kd.R_make_step Kd.bool _ 4 (by rfl) (N := 47) rfl 23 _ _ rfl (l0_0.length : Int) rfl rfl Try.underlying23 (.bool false) 1 info4 rfl (by decide) (by omega) false (ok := fun _ => True) (okp := fun _ => True) rfl (fun _ hk => hk) trivial (dA) (Nat.le_trans (Nat.mul_le_mul_right _ (dA : (l0_0.length : Int).toNat ≤ 281474976710656)) (by omega)) (Below.refl _ _) (Nat.le_refl _) ?_
        intro v204 w33 ho34 hb hg_ hnew_
        clear hg_ hnew_
        (first | rw [← Ny203.out] at ho34 | (simp only [Int.reduceToNat] at ho34; rw [← Ny203.out] at ho34))
        replace HO_3 := Aside0.mk (Kd.R_below (rA HO_3.out) hb)
        replace HO_4 := Aside0.mk (Kd.R_below (rA HO_4.out) hb)
        replace HO_6 := Aside0.mk (Kd.R_below (rA HO_6.out) hb)
        have HO205 := Aside0.mk (Kd.R_lower (Kd.R_new' ho34 (Kd.R_lt (rA HO202.out))) (below_size (bA HB.out)))
        replace HO202 := Aside0.mk (Kd.R_elder' (rA HO202.out) (Kd.R_base ho34) hb)
        replace BK183 := Aside0.mk (blk_below (kA BK183.out) hb)
        replace BK184 := Aside0.mk (blk_below (kA BK184.out) hb)
        replace BK206 := Aside0.mk (blk_below (kA BK206.out) hb)
        replace HB := Aside0.mk (below_step (bA HB.out) hb)
        clear hb ho34
        obtain ⟨Ao35, co35, eo35⟩ := Kd.R_slice HO205.out
        (first | subst eo35 | (injection eo35 with f1_ f2_ f3_; have f4_ := f1_.symm; have f5_ := f3_.symm; clear f1_ f2_ f3_; subst f4_; subst f5_))
        obtain ⟨Ao36, co36, eo36⟩ := Kd.R_slice HO202.out
        (first | subst eo36 | (injection eo36 with f1_ f2_ f3_; have f4_ := f1_.symm; have f5_ := f3_.symm; clear f1_ f2_ f3_; subst f4_; subst f5_))
        obtain ⟨Ao37, co37, eo37⟩ := Kd.R_slice HO_3.out
        (first | subst eo37 | (injection eo37 with f1_ f2_ f3_; have f4_ := f1_.symm; have f5_ := f3_.symm; clear f1_ f2_ f3_; subst f4_; subst f5_))
        obtain ⟨Ao38, co38, eo38⟩ := Kd.R_slice HO_4.out
        (first | subst eo38 | (injection eo38 with f1_ f2_ f3_; have f4_ := f1_.symm; have f5_ := f3_.symm; clear f1_ f2_ f3_; subst f4_; subst f5_))
        obtain ⟨Ao39, co39, eo39⟩ := Kd.R_slice HO_6.out
        (first | subst eo39 | (injection eo39 with f1_ f2_ f3_; have f4_ := f1_.symm; have f5_ := f3_.symm; clear f1_ f2_ f3_; subst f4_; subst f5_))
        refine hK.out _ _ (cy6 BK183.out) (fun hHeld => ?_)
        clear hK K
        refine nO 47 ?_
        refine pI 11 (some 52) #[true, true, true, true, true, true, true, true, true, true, true, true, true, false] HT_.out ?_
        exact nP (hJ4_6_12 (.slice Ao36 y200.length co36, .slice Ao35 y203.length co35, gb206) _ ⟨hHeld, (by (with_reducible repeat (first | apply Kd.R_alloc | apply Kd.R_drewN | apply Kd.R_drew)); exact Kd.R_mono HO202.out (fun _ hk => hk.2)), (by (with_reducible repeat (first | apply Kd.R_alloc | apply Kd.R_drewN | apply Kd.R_drew)); exact Kd.R_mono HO205.out (fun _ hk => hk.2)), (rA HO_3.out), (rA HO_4.out), (rA HO_6.out), (kA BK183.out), (kA BK184.out), (kA BK206.out), GW206.out, GE206.out, NB183_206.out, NB206_183.out, NB184_206.out, NB206_184.out, (bA HB.out)⟩)
      ·skip
       rintro ⟨v201, v204⟩ w38 ⟨hS_, h0_, h1_, h2_, h3_, h4_, h5_, h6_, h7_⟩
       try dsimp only at hS_ h0_ h1_ h2_ h3_ h4_ h5_ h6_ h7_
       clear HO_3 HO_4 HO_6 BK183 BK184 HB
       have HO202 := Aside0.mk h0_
       have HO205 := Aside0.mk h1_
       have HO_3 := Aside0.mk h2_
       have HO_4 := Aside0.mk h3_
       have HO_6 := Aside0.mk h4_
       have BK183 := Aside0.mk h5_
       have BK184 := Aside0.mk h6_
       have HB := Aside0.mk h7_
       clear h0_ h1_ h2_ h3_ h4_ h5_ h6_ h7_
       have hHeld := hS_
       obtain ⟨Ao39, co39, eo39⟩ := Kd.R_slice HO205.out
       (first | subst eo39 | (injection eo39 with f1_ f2_ f3_; have f4_ := f1_.symm; have f5_ := f3_.symm; clear f1_ f2_ f3_; subst f4_; subst f5_))
       obtain ⟨Ao40, co40, eo40⟩ := Kd.R_slice HO202.out
       (first | subst eo40 | (injection eo40 with f1_ f2_ f3_; have f4_ := f1_.symm; have f5_ := f3_.symm; clear f1_ f2_ f3_; subst f4_; subst f5_))
       refine nQ ?_
       refine one_ (i := 12) (N := some 8) #[true, true, true, true, true, true, true, true, true, true, true, true, true, false] rfl rfl (one_of HT_.out (by kernel_rfl)) (by decide) (fun K hK => ?_)
       refine box_step ?hg (N := 8) ?hd (cs := #[.slice none 0 0, .slice none 0 0, .slice none 0 0, .slice none 0 0, .slice none 0 0, .int .i64 0, .int .i64 0, .int .i64 0, .int .i64 0]) (t := 28) ?hr ?_; (case hd => rfl); (case hg => rfl); (case hr => first | (go_simp; done) | (go_simp; rfl))
       intro gb206 hg w41 hbox hb
       replace HO_3 := Aside0.mk (Kd.R_below (rA HO_3.out) hb)
       replace HO_4 := Aside0.mk (Kd.R_below (rA HO_4.out) hb)
       replace HO_6 := Aside0.mk (Kd.R_below (rA HO_6.out) hb)
       replace HO202 := Aside0.mk (Kd.R_below (rA HO202.out) hb)
       replace HO205 := Aside0.mk (Kd.R_below (rA HO205.out) hb)
       have BK206 := Aside0.mk (hbox)
       have GW206 := Aside0.mk (gE hg (bA HB.out))
       have GE206 := Aside0.mk (gE hg (bA HB.out))
       replace HB := Aside0.mk (below_step (bA HB.out) hb)
       have NB183_206 := Aside0.mk ((by rw [hg]; exact Nat.ne_of_lt (blk_lt (kA BK183.out)) : gb183 ≠ gb206))
       have NB206_183 := Aside0.mk ((by rw [hg]; exact Nat.ne_of_gt (blk_lt (kA BK183.out)) : gb206 ≠ gb183))
       replace BK183 := Aside0.mk (blk_below (kA BK183.out) hb)
       have NB184_206 := Aside0.mk ((by rw [hg]; exact Nat.ne_of_lt (blk_lt (kA BK184.out)) : gb184 ≠ gb206))
       have NB206_184 := Aside0.mk ((by rw [hg]; exact Nat.ne_of_gt (blk_lt (kA BK184.out)) : gb206 ≠ gb184))
       replace BK184 := Aside0.mk (blk_below (kA BK184.out) hb)
       clear hb hbox hg
       refine hK.out _ _ (cy6 BK183.out) (fun hHeld => ?_)
       clear hK K
       refine nO 8 ?_
       exact nP (hJ4_6_12 (.slice Ao40 y200.length co40, .slice Ao39 y203.length co39, gb206) _ ⟨hHeld, (rA HO202.out), (rA HO205.out), (rA HO_3.out), (rA HO_4.out), (rA HO_6.out), (kA BK183.out), (kA BK184.out), (kA BK206.out), GW206.out, GE206.out, NB183_206.out, NB206_183.out, NB184_206.out, NB206_184.out, (bA HB.out)⟩)
     rintro ⟨v201, v204, gb206⟩ w39 ⟨hS_, h0_, h1_, h2_, h3_, h4_, h5_, h6_, h7_, h8_, h9_, h10_, h11_, h12_, h13_, h14_⟩
     try dsimp only at hS_ h0_ h1_ h2_ h3_ h4_ h5_ h6_ h7_ h8_ h9_ h10_ h11_ h12_ h13_ h14_
     clear HO_3 HO_4 HO_6 BK183 BK184 HB
     have HO202 := Aside0.mk h0_
     have HO205 := Aside0.mk h1_
     have HO_3 := Aside0.mk h2_
     have HO_4 := Aside0.mk h3_
     have HO_6 := Aside0.mk h4_
     have BK183 := Aside0.mk h5_
     have BK184 := Aside0.mk h6_
     have BK206 := Aside0.mk h7_
     have GW206 := Aside0.mk h8_
     have GE206 := Aside0.mk h9_
     have NB183_206 := Aside0.mk h10_
     have NB206_183 := Aside0.mk h11_
     have NB184_206 := Aside0.mk h12_
     have NB206_184 := Aside0.mk h13_
     have HB := Aside0.mk h14_
     clear h0_ h1_ h2_ h3_ h4_ h5_ h6_ h7_ h8_ h9_ h10_ h11_ h12_ h13_ h14_
     have hHeld := hS_
     obtain ⟨Ao36, co36, eo36⟩ := Kd.R_slice HO_4.out
     subst eo36
     obtain ⟨Ao37, co37, eo37⟩ := Kd.R_slice HO_6.out
     subst eo37
     obtain ⟨Ao35, co35, eo35⟩ := Kd.R_slice HO_3.out
     subst eo35
     obtain ⟨Ao40, co40, eo40⟩ := Kd.R_slice HO205.out
     (first | subst eo40 | (injection eo40 with f1_ f2_ f3_; have f4_ := f1_.symm; have f5_ := f3_.symm; clear f1_ f2_ f3_; subst f4_; subst f5_))
     obtain ⟨Ao41, co41, eo41⟩ := Kd.R_slice HO202.out
     (first | subst eo41 | (injection eo41 with f1_ f2_ f3_; have f4_ := f1_.symm; have f5_ := f3_.symm; clear f1_ f2_ f3_; subst f4_; subst f5_))
     refine nQ ?_
     refine one_ (i := 13) (N := none) #[true, true, true, true, true, true, true, true, true, true, true, true, true, true] rfl rfl (one_of HT_.out (by kernel_rfl)) (by decide) (fun K hK => ?_)
     have hs42 : w39.cell? ⟨gb206, 0, none⟩ = some (.slice none 0 0) := (blk_cell BK206.out 0).trans rfl
     have hfs42 := blk_frozen BK206.out 0
     have hns42_0 := NB183_206.out
     have hns42_1 := NB184_206.out
     have hms42_0 := NB206_183.out
     have hms42_1 := NB206_184.out
     have hs43 : w39.cell? ⟨gb206, 1, none⟩ = some (.slice none 0 0) := (blk_cell BK206.out 1).trans rfl
     have hfs43 := blk_frozen BK206.out 1
     have hns43_0 := NB183_206.out
     have hns43_1 := NB184_206.out
     have hms43_0 := NB206_183.out
     have hms43_1 := NB206_184.out
     have hs44 : w39.cell? ⟨gb206, 2, none⟩ = some (.slice none 0 0) := (blk_cell BK206.out 2).trans rfl
     have hfs44 := blk_frozen BK206.out 2
     have hns44_0 := NB183_206.out
     have hns44_1 := NB184_206.out
     have hms44_0 := NB206_183.out
     have hms44_1 := NB206_184.out
     have hs45 : w39.cell? ⟨gb206, 3, none⟩ = some (.slice none 0 0) := (blk_cell BK206.out 3).trans rfl
     have hfs45 := blk_frozen BK206.out 3
     have hns45_0 := NB183_206.out
     have hns45_1 := NB184_206.out
     have hms45_0 := NB206_183.out
     have hms45_1 := NB206_184.out
     have hs46 : w39.cell? ⟨gb206, 4, none⟩ = some (.slice none 0 0) := (blk_cell BK206.out 4).trans rfl
     have hfs46 := blk_frozen BK206.out 4
     have hns46_0 := NB183_206.out
     have hns46_1 := NB184_206.out
     have hms46_0 := NB206_183.out
     have hms46_1 := NB206_184.out
     have hs47 : w39.cell? ⟨gb206, 5, none⟩ = some (.int .i64 0) := (blk_cell BK206.out 5).trans rfl
     have hfs47 := blk_frozen BK206.out 5
     have hns47_0 := NB183_206.out
     have hns47_1 := NB184_206.out
     have hms47_0 := NB206_183.out
     have hms47_1 := NB206_184.out
     have hs48 : w39.cell? ⟨gb206, 6, none⟩ = some (.int .i64 0) := (blk_cell BK206.out 6).trans rfl
     have hfs48 := blk_frozen BK206.out 6
     have hns48_0 := NB183_206.out
     have hns48_1 := NB184_206.out
     have hms48_0 := NB206_183.out
     have hms48_1 := NB206_184.out
     have hs49 : w39.cell? ⟨gb206, 7, none⟩ = some (.int .i64 0) := (blk_cell BK206.out 7).trans rfl
     have hfs49 := blk_frozen BK206.out 7
     have hns49_0 := NB183_206.out
     have hns49_1 := NB184_206.out
     have hms49_0 := NB206_183.out
     have hms49_1 := NB206_184.out
     have hs50 : w39.cell? ⟨gb206, 8, none⟩ = some (.int .i64 0) := (blk_cell BK206.out 8).trans rfl
     have hfs50 := blk_frozen BK206.out 8
     have hns50_0 := NB183_206.out
     have hns50_1 := NB184_206.out
     have hms50_0 := NB206_183.out
     have hms50_1 := NB206_184.out
     refine skip_ (w1 := ?_) (by rfl) rfl ?_ ?_
     rotate_left
     ·go_simp
      rfl
     refine hK.out _ _ ⟨((cell_far (p := ⟨gb206, _, none⟩) NB183_206.out _).trans (((cell_far (p := ⟨gb206, _, none⟩) NB183_206.out _).trans (((cell_far (p := ⟨gb206, _, none⟩) NB183_206.out _).trans (((cell_far (p := ⟨gb206, _, none⟩) NB183_206.out _).trans (((cell_far (p := ⟨gb206, _, none⟩) NB183_206.out _).trans (((cell_far (p := ⟨gb206, _, none⟩) NB183_206.out _).trans (((cell_far (p := ⟨gb206, _, none⟩) NB183_206.out _).trans (((cell_far (p := ⟨gb206, _, none⟩) NB183_206.out _).trans (((cell_far (p := ⟨gb206, _, none⟩) NB183_206.out _).trans (hHeld.1)))))))))))))))))), ((cell_far (p := ⟨gb206, _, none⟩) NB183_206.out _).trans (((cell_far (p := ⟨gb206, _, none⟩) NB183_206.out _).trans (((cell_far (p := ⟨gb206, _, none⟩) NB183_206.out _).trans (((cell_far (p := ⟨gb206, _, none⟩) NB183_206.out _).trans (((cell_far (p := ⟨gb206, _, none⟩) NB183_206.out _).trans (((cell_far (p := ⟨gb206, _, none⟩) NB183_206.out _).trans (((cell_far (p := ⟨gb206, _, none⟩) NB183_206.out _).trans (((cell_far (p := ⟨gb206, _, none⟩) NB183_206.out _).trans (((cell_far (p := ⟨gb206, _, none⟩) NB183_206.out _).trans (hHeld.2.1)))))))))))))))))), ((cell_far (p := ⟨gb206, _, none⟩) NB183_206.out _).trans (((cell_far (p := ⟨gb206, _, none⟩) NB183_206.out _).trans (((cell_far (p := ⟨gb206, _, none⟩) NB183_206.out _).trans (((cell_far (p := ⟨gb206, _, none⟩) NB183_206.out _).trans (((cell_far (p := ⟨gb206, _, none⟩) NB183_206.out _).trans (((cell_far (p := ⟨gb206, _, none⟩) NB183_206.out _).trans (((cell_far (p := ⟨gb206, _, none⟩) NB183_206.out _).trans (((cell_far (p := ⟨gb206, _, none⟩) NB183_206.out _).trans (((cell_far (p := ⟨gb206, _, none⟩) NB183_206.out _).trans (hHeld.2.2.1)))))))))))))))))), ((cell_far (p := ⟨gb206, _, none⟩) NB183_206.out _).trans (((cell_far (p := ⟨gb206, _, none⟩) NB183_206.out _).trans (((cell_far (p := ⟨gb206, _, none⟩) NB183_206.out _).trans (((cell_far (p := ⟨gb206, _, none⟩) NB183_206.out _).trans (((cell_far (p := ⟨gb206, _, none⟩) NB183_206.out _).trans (((cell_far (p := ⟨gb206, _, none⟩) NB183_206.out _).trans (((cell_far (p := ⟨gb206, _, none⟩) NB183_206.out _).trans (((cell_far (p := ⟨gb206, _, none⟩) NB183_206.out _).trans (((cell_far (p := ⟨gb206, _, none⟩) NB183_206.out _).trans (hHeld.2.2.2.1)))))))))))))))))), ((cell_far (p := ⟨gb206, _, none⟩) NB183_206.out _).trans (((cell_far (p := ⟨gb206, _, none⟩) NB183_206.out _).trans (((cell_far (p := ⟨gb206, _, none⟩) NB183_206.out _).trans (((cell_far (p := ⟨gb206, _, none⟩) NB183_206.out _).trans (((cell_far (p := ⟨gb206, _, none⟩) NB183_206.out _).trans (((cell_far (p := ⟨gb206, _, none⟩) NB183_206.out _).trans (((cell_far (p := ⟨gb206, _, none⟩) NB183_206.out _).trans (((cell_far (p := ⟨gb206, _, none⟩) NB183_206.out _).trans (((cell_far (p := ⟨gb206, _, none⟩) NB183_206.out _).trans (hHeld.2.2.2.2.1)))))))))))))))))), ((cell_far (p := ⟨gb206, _, none⟩) NB183_206.out _).trans (((cell_far (p := ⟨gb206, _, none⟩) NB183_206.out _).trans (((cell_far (p := ⟨gb206, _, none⟩) NB183_206.out _).trans (((cell_far (p := ⟨gb206, _, none⟩) NB183_206.out _).trans (((cell_far (p := ⟨gb206, _, none⟩) NB183_206.out _).trans (((cell_far (p := ⟨gb206, _, none⟩) NB183_206.out _).trans (((cell_far (p := ⟨gb206, _, none⟩) NB183_206.out _).trans (((cell_far (p := ⟨gb206, _, none⟩) NB183_206.out _).trans (((cell_far (p := ⟨gb206, _, none⟩) NB183_206.out _).trans (hHeld.2.2.2.2.2))))))))))))))))))⟩ (fun hHeld => ?_)
     clear hK K
     refine done_ (done_of HT_.out (by kernel_rfl)) ?_
     have hnb51 := NB183_184.out
     have hnc51 := NB184_183.out
     have hnb52 := NB183_206.out
     have hnc52 := NB206_183.out
     obtain ⟨hcz53_0, hcz53_1, hcz53_2, hcz53_3, hcz53_4, hcz53_5, hfz53_0, hfz53_1, hfz53_2, hfz53_3, hfz53_4, hfz53_5⟩ := cz6 BK183.out
     try go_wp2_with (first | ((with_reducible refine gate_callee (f := 106) rfl ?_); refine gL (some 54) Try.func106 #[.agg #[.slice A0_0 l0_0.length c0_0, .int .i64 a0_1, .int .i64 a0_2, .int .i64 a0_3, .int .i64 a0_4, .int .i64 a0_5], .int .i64 0] ?_; (with_reducible refine (spec_l09First.calls _ _ l0_0 a0_1 a0_2 a0_3 a0_4 a0_5 0 t207 _ ?side1 ?side2 A25.out).mono ?_); (case side1 => exact Kd.C_below HR0_0.out (bA HB.out)); (case side2 => exact HC0_0.out); rintro e w54 ⟨rfl, hb⟩; refine ⟨_, rfl, ?_⟩; replace HO_3 := Aside0.mk (Kd.R_below (rA (rF9 HO_3.out BK206.out)) hb); replace HO_4 := Aside0.mk (Kd.R_below (rA (rF9 HO_4.out BK206.out)) hb); replace HO_6 := Aside0.mk (Kd.R_below (rA (rF9 HO_6.out BK206.out)) hb); replace HO202 := Aside0.mk (Kd.R_below (rA (rF9 HO202.out BK206.out)) hb); replace HO205 := Aside0.mk (Kd.R_below (rA (rF9 HO205.out BK206.out)) hb); replace BK183 := Aside0.mk (blk_below (g := gb183) (o := .cells #[.slice A0_0 l0_0.length c0_0, .int .i64 a0_1, .int .i64 a0_2, .int .i64 a0_3, .int .i64 a0_4, .int .i64 a0_5] 59 (0, 0)) (by (with_reducible repeat (first | refine blk_drewN ?_ _ | refine blk_drew ?_ | refine blk_alloc ?_ _)); refine blk_far ?_ NB183_206.out _; (with_reducible repeat (first | refine blk_drewN ?_ _ | refine blk_drew ?_ | refine blk_alloc ?_ _)); refine blk_far ?_ NB183_206.out _; (with_reducible repeat (first | refine blk_drewN ?_ _ | refine blk_drew ?_ | refine blk_alloc ?_ _)); refine blk_far ?_ NB183_206.out _; (with_reducible repeat (first | refine blk_drewN ?_ _ | refine blk_drew ?_ | refine blk_alloc ?_ _)); refine blk_far ?_ NB183_206.out _; (with_reducible repeat (first | refine blk_drewN ?_ _ | refine blk_drew ?_ | refine blk_alloc ?_ _)); refine blk_far ?_ NB183_206.out _; (with_reducible repeat (first | refine blk_drewN ?_ _ | refine blk_drew ?_ | refine blk_alloc ?_ _)); refine blk_far ?_ NB183_206.out _; (with_reducible repeat (first | refine blk_drewN ?_ _ | refine blk_drew ?_ | refine blk_alloc ?_ _)); refine blk_far ?_ NB183_206.out _; (with_reducible repeat (first | refine blk_drewN ?_ _ | refine blk_drew ?_ | refine blk_alloc ?_ _)); refine blk_far ?_ NB183_206.out _; (with_reducible repeat (first | refine blk_drewN ?_ _ | refine blk_drew ?_ | refine blk_alloc ?_ _)); refine blk_far ?_ NB183_206.out _; (with_reducible repeat (first | refine blk_drewN ?_ _ | refine blk_drew ?_ | refine blk_alloc ?_ _)); exact BK183.out) hb); replace BK184 := Aside0.mk (blk_below (g := gb184) (o := .cells #[.slice none 0 0, .slice none 0 0, .slice none 0 0, .slice none 0 0, .slice none 0 0, .int .i64 0, .int .i64 0, .int .i64 0, .int .i64 0] 28 (0, 0)) (by (with_reducible repeat (first | refine blk_drewN ?_ _ | refine blk_drew ?_ | refine blk_alloc ?_ _)); refine blk_far ?_ NB184_206.out _; (with_reducible repeat (first | refine blk_drewN ?_ _ | refine blk_drew ?_ | refine blk_alloc ?_ _)); refine blk_far ?_ NB184_206.out _; (with_reducible repeat (first | refine blk_drewN ?_ _ | refine blk_drew ?_ | refine blk_alloc ?_ _)); refine blk_far ?_ NB184_206.out _; (with_reducible repeat (first | refine blk_drewN ?_ _ | refine blk_drew ?_ | refine blk_alloc ?_ _)); refine blk_far ?_ NB184_206.out _; (with_reducible repeat (first | refine blk_drewN ?_ _ | refine blk_drew ?_ | refine blk_alloc ?_ _)); refine blk_far ?_ NB184_206.out _; (with_reducible repeat (first | refine blk_drewN ?_ _ | refine blk_drew ?_ | refine blk_alloc ?_ _)); refine blk_far ?_ NB184_206.out _; (with_reducible repeat (first | refine blk_drewN ?_ _ | refine blk_drew ?_ | refine blk_alloc ?_ _)); refine blk_far ?_ NB184_206.out _; (with_reducible repeat (first | refine blk_drewN ?_ _ | refine blk_drew ?_ | refine blk_alloc ?_ _)); refine blk_far ?_ NB184_206.out _; (with_reducible repeat (first | refine blk_drewN ?_ _ | refine blk_drew ?_ | refine blk_alloc ?_ _)); refine blk_far ?_ NB184_206.out _; (with_reducible repeat (first | refine blk_drewN ?_ _ | refine blk_drew ?_ | refine blk_alloc ?_ _)); exact BK184.out) hb); replace BK206 := Aside0.mk (blk_below (g := gb206) (o := .cells #[.slice Ao37 x6_1.length co37, .slice Ao36 t188.length co36, .slice Ao35 t185.length co35, .slice Ao41 y200.length co41, .slice Ao40 y203.length co40, .int .i64 0, .int .i64 a0_3, .int .i64 0, .int .i64 a0_5] 28 (0, 0)) (by (with_reducible repeat (first | refine blk_drewN ?_ _ | refine blk_drew ?_ | refine blk_alloc ?_ _)); refine blk_put (cs := #[.slice Ao37 x6_1.length co37, .slice Ao36 t188.length co36, .slice Ao35 t185.length co35, .slice Ao41 y200.length co41, .slice Ao40 y203.length co40, .int .i64 0, .int .i64 a0_3, .int .i64 0, .int .i64 0]) ?_ 8 _ rfl; (with_reducible repeat (first | refine blk_drewN ?_ _ | refine blk_drew ?_ | refine blk_alloc ?_ _)); refine blk_put (cs := #[.slice Ao37 x6_1.length co37, .slice Ao36 t188.length co36, .slice Ao35 t185.length co35, .slice Ao41 y200.length co41, .slice Ao40 y203.length co40, .int .i64 0, .int .i64 a0_3, .int .i64 0, .int .i64 0]) ?_ 7 _ rfl; (with_reducible repeat (first | refine blk_drewN ?_ _ | refine blk_drew ?_ | refine blk_alloc ?_ _)); refine blk_put (cs := #[.slice Ao37 x6_1.length co37, .slice Ao36 t188.length co36, .slice Ao35 t185.length co35, .slice Ao41 y200.length co41, .slice Ao40 y203.length co40, .int .i64 0, .int .i64 0, .int .i64 0, .int .i64 0]) ?_ 6 _ rfl; (with_reducible repeat (first | refine blk_drewN ?_ _ | refine blk_drew ?_ | refine blk_alloc ?_ _)); refine blk_put (cs := #[.slice Ao37 x6_1.length co37, .slice Ao36 t188.length co36, .slice Ao35 t185.length co35, .slice Ao41 y200.length co41, .slice Ao40 y203.length co40, .int .i64 0, .int .i64 0, .int .i64 0, .int .i64 0]) ?_ 5 _ rfl; (with_reducible repeat (first | refine blk_drewN ?_ _ | refine blk_drew ?_ | refine blk_alloc ?_ _)); refine blk_put (cs := #[.slice Ao37 x6_1.length co37, .slice Ao36 t188.length co36, .slice Ao35 t185.length co35, .slice Ao41 y200.length co41, .slice none 0 0, .int .i64 0, .int .i64 0, .int .i64 0, .int .i64 0]) ?_ 4 _ rfl; (with_reducible repeat (first | refine blk_drewN ?_ _ | refine blk_drew ?_ | refine blk_alloc ?_ _)); refine blk_put (cs := #[.slice Ao37 x6_1.length co37, .slice Ao36 t188.length co36, .slice Ao35 t185.length co35, .slice none 0 0, .slice none 0 0, .int .i64 0, .int .i64 0, .int .i64 0, .int .i64 0]) ?_ 3 _ rfl; (with_reducible repeat (first | refine blk_drewN ?_ _ | refine blk_drew ?_ | refine blk_alloc ?_ _)); refine blk_put (cs := #[.slice Ao37 x6_1.length co37, .slice Ao36 t188.length co36, .slice none 0 0, .slice none 0 0, .slice none 0 0, .int .i64 0, .int .i64 0, .int .i64 0, .int .i64 0]) ?_ 2 _ rfl; (with_reducible repeat (first | refine blk_drewN ?_ _ | refine blk_drew ?_ | refine blk_alloc ?_ _)); refine blk_put (cs := #[.slice Ao37 x6_1.length co37, .slice none 0 0, .slice none 0 0, .slice none 0 0, .slice none 0 0, .int .i64 0, .int .i64 0, .int .i64 0, .int .i64 0]) ?_ 1 _ rfl; (with_reducible repeat (first | refine blk_drewN ?_ _ | refine blk_drew ?_ | refine blk_alloc ?_ _)); refine blk_put (cs := #[.slice none 0 0, .slice none 0 0, .slice none 0 0, .slice none 0 0, .slice none 0 0, .int .i64 0, .int .i64 0, .int .i64 0, .int .i64 0]) ?_ 0 _ rfl; (with_reducible repeat (first | refine blk_drewN ?_ _ | refine blk_drew ?_ | refine blk_alloc ?_ _)); exact BK206.out) hb); replace HB := Aside0.mk (below_step (bA HB.out) hb); (try clear hb); have hnb55 := NB206_184.out; have hnc55 := NB184_206.out; obtain ⟨hcz56_0, hcz56_1, hcz56_2, hcz56_3, hcz56_4, hcz56_5, hcz56_6, hcz56_7, hcz56_8, hfz56_0, hfz56_1, hfz56_2, hfz56_3, hfz56_4, hfz56_5, hfz56_6, hfz56_7, hfz56_8⟩ := cz9 BK206.out))
     have n0_ : Aside0 (Kd.R (Kd.int .i64) 2 (w54.setCell ⟨gb206, 5, none⟩ (.int .i64 t207)) w.heap.size (fun k_ => some k_ ≠ (.slice Ao36 t188.length co36 : Value).ownBlock ∧ some k_ ≠ (.slice Ao37 x6_1.length co37 : Value).ownBlock) (.slice Ao35 t185.length co35) t185) := ⟨by (with_reducible repeat (first | apply Kd.R_alloc | apply Kd.R_drewN | apply Kd.R_drew)); exact Kd.R_mono (Kd.R_far (p := ⟨gb206, 5, none⟩) (Kd.R_types HO_3.out BK206.out (by decide)) (fun _ hk => hk.2) (.int .i64 t207)) (fun _ hk => ⟨hk.1.1, hk.1.2⟩)⟩
     have n1_ : Aside0 (Kd.R (Kd.int .i64) 2 (w54.setCell ⟨gb206, 5, none⟩ (.int .i64 t207)) w.heap.size (fun k_ => some k_ ≠ (.slice Ao35 t185.length co35 : Value).ownBlock ∧ some k_ ≠ (.slice Ao37 x6_1.length co37 : Value).ownBlock) (.slice Ao36 t188.length co36) t188) := ⟨by (with_reducible repeat (first | apply Kd.R_alloc | apply Kd.R_drewN | apply Kd.R_drew)); exact Kd.R_mono (Kd.R_far (p := ⟨gb206, 5, none⟩) (Kd.R_types HO_4.out BK206.out (by decide)) (fun _ hk => hk.2) (.int .i64 t207)) (fun _ hk => ⟨hk.1.1, hk.1.2⟩)⟩
     have n2_ : Aside0 (Kd.R (Kd.int .i64) 2 (w54.setCell ⟨gb206, 5, none⟩ (.int .i64 t207)) w.heap.size (fun k_ => some k_ ≠ (.slice Ao35 t185.length co35 : Value).ownBlock ∧ some k_ ≠ (.slice Ao36 t188.length co36 : Value).ownBlock) (.slice Ao37 x6_1.length co37) x6_1) := ⟨by (with_reducible repeat (first | apply Kd.R_alloc | apply Kd.R_drewN | apply Kd.R_drew)); exact Kd.R_mono (Kd.R_far (p := ⟨gb206, 5, none⟩) (Kd.R_types HO_6.out BK206.out (by decide)) (fun _ hk => hk.2) (.int .i64 t207)) (fun _ hk => ⟨hk.1.1, hk.1.2⟩)⟩
     have n3_ : Aside0 (Kd.R Kd.bool 4 (w54.setCell ⟨gb206, 5, none⟩ (.int .i64 t207)) w.heap.size (fun k_ => some k_ ≠ (.slice Ao40 y203.length co40 : Value).ownBlock) (.slice Ao41 y200.length co41) y200) := ⟨by (with_reducible repeat (first | apply Kd.R_alloc | apply Kd.R_drewN | apply Kd.R_drew)); exact Kd.R_mono (Kd.R_far (p := ⟨gb206, 5, none⟩) (Kd.R_types HO202.out BK206.out (by decide)) (fun _ hk => hk.2) (.int .i64 t207)) (fun _ hk => hk.1)⟩
     have n4_ : Aside0 (Kd.R Kd.bool 4 (w54.setCell ⟨gb206, 5, none⟩ (.int .i64 t207)) w.heap.size (fun k_ => some k_ ≠ (.slice Ao41 y200.length co41 : Value).ownBlock) (.slice Ao40 y203.length co40) y203) := ⟨by (with_reducible repeat (first | apply Kd.R_alloc | apply Kd.R_drewN | apply Kd.R_drew)); exact Kd.R_mono (Kd.R_far (p := ⟨gb206, 5, none⟩) (Kd.R_types HO205.out BK206.out (by decide)) (fun _ hk => hk.2) (.int .i64 t207)) (fun _ hk => hk.1)⟩
     have n5_ : Aside0 ((w54.setCell ⟨gb206, 5, none⟩ (.int .i64 t207)).heap[gb183]? = some (.cells #[.slice A0_0 l0_0.length c0_0, .int .i64 a0_1, .int .i64 a0_2, .int .i64 a0_3, .int .i64 a0_4, .int .i64 a0_5] 59 (0, 0))) := ⟨by (with_reducible repeat (first | refine blk_drewN ?_ _ | refine blk_drew ?_ | refine blk_alloc ?_ _)); refine blk_far ?_ NB183_206.out _; (with_reducible repeat (first | refine blk_drewN ?_ _ | refine blk_drew ?_ | refine blk_alloc ?_ _)); exact BK183.out⟩
     have n6_ : Aside0 ((w54.setCell ⟨gb206, 5, none⟩ (.int .i64 t207)).heap[gb184]? = some (.cells #[.slice none 0 0, .slice none 0 0, .slice none 0 0, .slice none 0 0, .slice none 0 0, .int .i64 0, .int .i64 0, .int .i64 0, .int .i64 0] 28 (0, 0))) := ⟨by (with_reducible repeat (first | refine blk_drewN ?_ _ | refine blk_drew ?_ | refine blk_alloc ?_ _)); refine blk_far ?_ NB184_206.out _; (with_reducible repeat (first | refine blk_drewN ?_ _ | refine blk_drew ?_ | refine blk_alloc ?_ _)); exact BK184.out⟩
     have n7_ : Aside0 ((w54.setCell ⟨gb206, 5, none⟩ (.int .i64 t207)).heap[gb206]? = some (.cells #[.slice Ao37 x6_1.length co37, .slice Ao36 t188.length co36, .slice Ao35 t185.length co35, .slice Ao41 y200.length co41, .slice Ao40 y203.length co40, .int .i64 t207, .int .i64 a0_3, .int .i64 0, .int .i64 a0_5] 28 (0, 0))) := ⟨by (with_reducible repeat (first | refine blk_drewN ?_ _ | refine blk_drew ?_ | refine blk_alloc ?_ _)); refine blk_put (cs := #[.slice Ao37 x6_1.length co37, .slice Ao36 t188.length co36, .slice Ao35 t185.length co35, .slice Ao41 y200.length co41, .slice Ao40 y203.length co40, .int .i64 0, .int .i64 a0_3, .int .i64 0, .int .i64 a0_5]) ?_ 5 _ rfl; (with_reducible repeat (first | refine blk_drewN ?_ _ | refine blk_drew ?_ | refine blk_alloc ?_ _)); exact BK206.out⟩
     have n8_ : Aside0 (Below w.heap.size w (w54.setCell ⟨gb206, 5, none⟩ (.int .i64 t207))) := ⟨bA HB.out⟩
     (try clear HO_3)
     (try clear HO_4)
     (try clear HO_6)
     (try clear HO202)
     (try clear HO205)
     (try clear BK183)
     (try clear BK184)
     (try clear BK206)
     (try clear HB)
     generalize (w54.setCell ⟨gb206, 5, none⟩ (.int .i64 t207)) = w57 at n0_ n1_ n2_ n3_ n4_ n5_ n6_ n7_ n8_ ⊢
     have HO_3 := n0_
     have HO_4 := n1_
     have HO_6 := n2_
     have HO202 := n3_
     have HO205 := n4_
     have BK183 := n5_
     have BK184 := n6_
     have BK206 := n7_
     have HB := n8_
     clear n0_ n1_ n2_ n3_ n4_ n5_ n6_ n7_ n8_
     replace HO_3 := Aside0.mk (Kd.R_drew HO_3.out)
     replace HO_4 := Aside0.mk (Kd.R_drew HO_4.out)
     replace HO_6 := Aside0.mk (Kd.R_drew HO_6.out)
     replace HO202 := Aside0.mk (Kd.R_drew HO202.out)
     replace HO205 := Aside0.mk (Kd.R_drew HO205.out)
     replace BK183 := Aside0.mk (blk_drew BK183.out)
     replace BK184 := Aside0.mk (blk_drew BK184.out)
     replace BK206 := Aside0.mk (blk_drew BK206.out)
     replace HB := Aside0.mk (below_drew1 HB.out)
     refine start_ (n := 10) (S := fun w' => w'.cell? ⟨gb206, 0, none⟩ = some (.slice Ao37 x6_1.length co37) ∧ w'.cell? ⟨gb206, 1, none⟩ = some (.slice Ao36 t188.length co36) ∧ w'.cell? ⟨gb206, 2, none⟩ = some (.slice Ao35 t185.length co35) ∧ w'.cell? ⟨gb206, 3, none⟩ = some (.slice Ao41 y200.length co41) ∧ w'.cell? ⟨gb206, 4, none⟩ = some (.slice Ao40 y203.length co40) ∧ w'.cell? ⟨gb206, 5, none⟩ = some (.int .i64 t207) ∧ w'.cell? ⟨gb206, 6, none⟩ = some (.int .i64 a0_3) ∧ w'.cell? ⟨gb206, 7, none⟩ = some (.int .i64 0) ∧ w'.cell? ⟨gb206, 8, none⟩ = some (.int .i64 a0_5)) (ds := [9]) #[false, false, false, false, false, false, false, false, false, false] (by kernel_rfl) rfl rfl (cy9 BK206.out) (fun hHeld => ?_); refine with_tabW spec_l10Start.tab11 spec_l10Start.bits11 (fun HT_ HW_ => ?_)
     generalize w57.drew = w58 at HO_3 HO_4 HO_6 HO202 HO205 BK183 BK184 BK206 HB hHeld ⊢
     refine pI 1 (some 58) #[false, true, false, false, false, false, false, false, false, false] HT_.out ?_
     refine pI 2 (some 59) #[false, true, true, false, false, false, false, false, false, false] HT_.out ?_
     refine pI 3 (some 60) #[false, true, true, true, false, false, false, false, false, false] HT_.out ?_
     refine pI 4 (some 61) #[false, true, true, true, true, false, false, false, false, false] HT_.out ?_
     refine pI 5 (some 62) #[false, true, true, true, true, true, false, false, false, false] HT_.out ?_
     refine pI 6 (some 63) #[false, true, true, true, true, true, true, false, false, false] HT_.out ?_
     refine tI 0 (some 57) #[true, true, true, true, true, true, true, false, false, false] HT_.out HW_.out hHeld ?_
     refine one_ (i := 7) (N := some 64) #[true, true, true, true, true, true, true, true, false, false] rfl rfl (one_of HT_.out (by kernel_rfl)) (by decide) (fun K hK => ?_)
     refine gO Try.func107 #[.agg #[.slice Ao37 x6_1.length co37, .slice Ao36 t188.length co36, .slice Ao35 t185.length co35, .slice Ao41 y200.length co41, .slice Ao40 y203.length co40, .int .i64 t207, .int .i64 a0_3, .int .i64 0, .int .i64 a0_5], .int .i64 (Int.tmod (wrap64 ((wrap64 (t207 + (l0_0.length : Int))) - 1)) (l0_0.length : Int))] ?_
     with_reducible refine (spec_l10Next.calls k1 _ _ x6_1 _ _ t188 _ _ t185 _ _ y200 _ _ y203 t207 a0_3 0 a0_5 (Int.tmod (wrap64 ((wrap64 (t207 + (l0_0.length : Int))) - 1)) (l0_0.length : Int)) t208 _ ?side1 ?side2 ?side3 ?side4 ?side5 ?side6 ?side7 ?side8 ?side9 ?side10 A27.out).mono ?_
     (case side1 => exact cA ((Kd.R_reads' HO_6.out).2.2))
     (case side2 => exact (Kd.R_reads' HO_6.out).2.1)
     (case side3 => exact cA ((Kd.R_reads' HO_4.out).2.2))
     (case side4 => exact (Kd.R_reads' HO_4.out).2.1)
     (case side5 => exact cA ((Kd.R_reads' HO_3.out).2.2))
     (case side6 => exact (Kd.R_reads' HO_3.out).2.1)
     (case side7 => exact cA ((Kd.R_reads' HO202.out).2.2))
     (case side8 => exact (Kd.R_reads' HO202.out).2.1)
     (case side9 => exact cA ((Kd.R_reads' HO205.out).2.2))
     (case side10 => exact (Kd.R_reads' HO205.out).2.1)
     rintro e w59 ⟨rfl, hb⟩
     refine ⟨_, rfl, ?_⟩
     replace HO_3 := Aside0.mk (Kd.R_below (rA HO_3.out) hb)
     replace HO_4 := Aside0.mk (Kd.R_below (rA HO_4.out) hb)
     replace HO_6 := Aside0.mk (Kd.R_below (rA HO_6.out) hb)
     replace HO202 := Aside0.mk (Kd.R_below (rA HO202.out) hb)
     replace HO205 := Aside0.mk (Kd.R_below (rA HO205.out) hb)
     replace BK183 := Aside0.mk (blk_below (kA BK183.out) hb)
     replace BK184 := Aside0.mk (blk_below (kA BK184.out) hb)
     replace BK206 := Aside0.mk (blk_below (kA BK206.out) hb)
     replace HB := Aside0.mk (below_step (bA HB.out) hb)
     (try clear hb)
     refine hK.out _ _ (cy9 BK206.out) (fun hHeld => ?_)
     clear hK K
     refine nO 64 ?_
     refine pI 8 (some 65) #[true, true, true, true, true, true, true, true, true, false] HT_.out ?_
     refine last_ (i := 9) (N := none) #[true, true, true, true, true, true, true, true, true, true] rfl rfl (one_of HT_.out (by kernel_rfl)) (by decide) (fun K hK => ?_)
     have hs60 : w59.cell? ⟨gb206, 5, none⟩ = some (.int .i64 t207) := (blk_cell BK206.out 5).trans rfl
     have hfs60 := blk_frozen BK206.out 5
     have hns60_0 := NB183_206.out
     have hns60_1 := NB184_206.out
     have hms60_0 := NB206_183.out
     have hms60_1 := NB206_184.out
     refine skip_ (w1 := ?_) (by rfl) rfl ?_ ?_
     rotate_left
     ·go_simp
      rfl
     refine hK.out _ _ ?_
     clear hK K
     refine done_ (done_of HT_.out (by kernel_rfl)) ?_
     obtain ⟨hcz61_0, hcz61_1, hcz61_2, hcz61_3, hcz61_4, hcz61_5, hcz61_6, hcz61_7, hcz61_8, hfz61_0, hfz61_1, hfz61_2, hfz61_3, hfz61_4, hfz61_5, hfz61_6, hfz61_7, hfz61_8⟩ := cz9 BK206.out
     obtain ⟨hcz62_0, hcz62_1, hcz62_2, hcz62_3, hcz62_4, hcz62_5, hcz62_6, hcz62_7, hcz62_8, hfz62_0, hfz62_1, hfz62_2, hfz62_3, hfz62_4, hfz62_5, hfz62_6, hfz62_7, hfz62_8⟩ := cz9 BK184.out
     try go_wp2
     refine bodyPost_ret (results_cell_row rfl _ _ gb184 28 #[.slice Ao37 x6_1.length co37, .slice Ao36 t188.length co36, .slice Ao35 t185.length co35, .slice Ao41 y200.length co41, .slice Ao40 y203.length co40, .int .i64 t208, .int .i64 a0_3, .int .i64 0, .int .i64 a0_5] (0, 0) _ rfl (by (with_reducible repeat (first | refine blk_drewN ?_ _ | refine blk_drew ?_ | refine blk_alloc ?_ _)); refine blk_put (cs := #[.slice Ao37 x6_1.length co37, .slice Ao36 t188.length co36, .slice Ao35 t185.length co35, .slice Ao41 y200.length co41, .slice Ao40 y203.length co40, .int .i64 t208, .int .i64 a0_3, .int .i64 0, .int .i64 0]) ?_ 8 _ rfl; (with_reducible repeat (first | refine blk_drewN ?_ _ | refine blk_drew ?_ | refine blk_alloc ?_ _)); refine blk_put (cs := #[.slice Ao37 x6_1.length co37, .slice Ao36 t188.length co36, .slice Ao35 t185.length co35, .slice Ao41 y200.length co41, .slice Ao40 y203.length co40, .int .i64 t208, .int .i64 a0_3, .int .i64 0, .int .i64 0]) ?_ 7 _ rfl; (with_reducible repeat (first | refine blk_drewN ?_ _ | refine blk_drew ?_ | refine blk_alloc ?_ _)); refine blk_put (cs := #[.slice Ao37 x6_1.length co37, .slice Ao36 t188.length co36, .slice Ao35 t185.length co35, .slice Ao41 y200.length co41, .slice Ao40 y203.length co40, .int .i64 t208, .int .i64 0, .int .i64 0, .int .i64 0]) ?_ 6 _ rfl; (with_reducible repeat (first | refine blk_drewN ?_ _ | refine blk_drew ?_ | refine blk_alloc ?_ _)); refine blk_put (cs := #[.slice Ao37 x6_1.length co37, .slice Ao36 t188.length co36, .slice Ao35 t185.length co35, .slice Ao41 y200.length co41, .slice Ao40 y203.length co40, .int .i64 0, .int .i64 0, .int .i64 0, .int .i64 0]) ?_ 5 _ rfl; (with_reducible repeat (first | refine blk_drewN ?_ _ | refine blk_drew ?_ | refine blk_alloc ?_ _)); refine blk_put (cs := #[.slice Ao37 x6_1.length co37, .slice Ao36 t188.length co36, .slice Ao35 t185.length co35, .slice Ao41 y200.length co41, .slice none 0 0, .int .i64 0, .int .i64 0, .int .i64 0, .int .i64 0]) ?_ 4 _ rfl; (with_reducible repeat (first | refine blk_drewN ?_ _ | refine blk_drew ?_ | refine blk_alloc ?_ _)); refine blk_put (cs := #[.slice Ao37 x6_1.length co37, .slice Ao36 t188.length co36, .slice Ao35 t185.length co35, .slice none 0 0, .slice none 0 0, .int .i64 0, .int .i64 0, .int .i64 0, .int .i64 0]) ?_ 3 _ rfl; (with_reducible repeat (first | refine blk_drewN ?_ _ | refine blk_drew ?_ | refine blk_alloc ?_ _)); refine blk_put (cs := #[.slice Ao37 x6_1.length co37, .slice Ao36 t188.length co36, .slice none 0 0, .slice none 0 0, .slice none 0 0, .int .i64 0, .int .i64 0, .int .i64 0, .int .i64 0]) ?_ 2 _ rfl; (with_reducible repeat (first | refine blk_drewN ?_ _ | refine blk_drew ?_ | refine blk_alloc ?_ _)); refine blk_put (cs := #[.slice Ao37 x6_1.length co37, .slice none 0 0, .slice none 0 0, .slice none 0 0, .slice none 0 0, .int .i64 0, .int .i64 0, .int .i64 0, .int .i64 0]) ?_ 1 _ rfl; (with_reducible repeat (first | refine blk_drewN ?_ _ | refine blk_drew ?_ | refine blk_alloc ?_ _)); refine blk_put (cs := #[.slice none 0 0, .slice none 0 0, .slice none 0 0, .slice none 0 0, .slice none 0 0, .int .i64 0, .int .i64 0, .int .i64 0, .int .i64 0]) ?_ 0 _ rfl; (with_reducible repeat (first | refine blk_drewN ?_ _ | refine blk_drew ?_ | refine blk_alloc ?_ _)); refine blk_far ?_ NB184_206.out _; (with_reducible repeat (first | refine blk_drewN ?_ _ | refine blk_drew ?_ | refine blk_alloc ?_ _)); exact BK184.out) Try.underlying28 rfl (by kernel_rfl)) rfl ?_
     exact ⟨_, _, _, _, _, by first | rfl | (simp [errW_none, errW_some] <;> rfl) | (simp [*, errW_none, errW_some] <;> rfl), by (with_reducible repeat (first | apply Kd.R_alloc | apply Kd.R_drewN | apply Kd.R_drew)); exact Kd.R_mono (Kd.R_far (p := ⟨gb184, 8, none⟩) (Kd.R_far (p := ⟨gb184, 7, none⟩) (Kd.R_far (p := ⟨gb184, 6, none⟩) (Kd.R_far (p := ⟨gb184, 5, none⟩) (Kd.R_far (p := ⟨gb184, 4, none⟩) (Kd.R_far (p := ⟨gb184, 3, none⟩) (Kd.R_far (p := ⟨gb184, 2, none⟩) (Kd.R_far (p := ⟨gb184, 1, none⟩) (Kd.R_far (p := ⟨gb184, 0, none⟩) (Kd.R_far (p := ⟨gb206, 5, none⟩) (Kd.R_types (Kd.R_types HO_6.out BK206.out (by decide)) BK184.out (by decide)) (fun _ hk => hk.1.2) (.int .i64 t208)) (fun _ hk => hk.2) (.slice Ao37 x6_1.length co37)) (fun _ hk => hk.2) (.slice Ao36 t188.length co36)) (fun _ hk => hk.2) (.slice Ao35 t185.length co35)) (fun _ hk => hk.2) (.slice Ao41 y200.length co41)) (fun _ hk => hk.2) (.slice Ao40 y203.length co40)) (fun _ hk => hk.2) (.int .i64 t208)) (fun _ hk => hk.2) (.int .i64 a0_3)) (fun _ hk => hk.2) (.int .i64 0)) (fun _ hk => hk.2) (.int .i64 a0_5)) (fun _ hk => ⟨hk.1.1.2, hk.1.1.1⟩), by (with_reducible repeat (first | apply Kd.R_alloc | apply Kd.R_drewN | apply Kd.R_drew)); exact Kd.R_mono (Kd.R_far (p := ⟨gb184, 8, none⟩) (Kd.R_far (p := ⟨gb184, 7, none⟩) (Kd.R_far (p := ⟨gb184, 6, none⟩) (Kd.R_far (p := ⟨gb184, 5, none⟩) (Kd.R_far (p := ⟨gb184, 4, none⟩) (Kd.R_far (p := ⟨gb184, 3, none⟩) (Kd.R_far (p := ⟨gb184, 2, none⟩) (Kd.R_far (p := ⟨gb184, 1, none⟩) (Kd.R_far (p := ⟨gb184, 0, none⟩) (Kd.R_far (p := ⟨gb206, 5, none⟩) (Kd.R_types (Kd.R_types HO_4.out BK206.out (by decide)) BK184.out (by decide)) (fun _ hk => hk.1.2) (.int .i64 t208)) (fun _ hk => hk.2) (.slice Ao37 x6_1.length co37)) (fun _ hk => hk.2) (.slice Ao36 t188.length co36)) (fun _ hk => hk.2) (.slice Ao35 t185.length co35)) (fun _ hk => hk.2) (.slice Ao41 y200.length co41)) (fun _ hk => hk.2) (.slice Ao40 y203.length co40)) (fun _ hk => hk.2) (.int .i64 t208)) (fun _ hk => hk.2) (.int .i64 a0_3)) (fun _ hk => hk.2) (.int .i64 0)) (fun _ hk => hk.2) (.int .i64 a0_5)) (fun _ hk => ⟨hk.1.1.2, hk.1.1.1⟩), by (with_reducible repeat (first | apply Kd.R_alloc | apply Kd.R_drewN | apply Kd.R_drew)); exact Kd.R_mono (Kd.R_far (p := ⟨gb184, 8, none⟩) (Kd.R_far (p := ⟨gb184, 7, none⟩) (Kd.R_far (p := ⟨gb184, 6, none⟩) (Kd.R_far (p := ⟨gb184, 5, none⟩) (Kd.R_far (p := ⟨gb184, 4, none⟩) (Kd.R_far (p := ⟨gb184, 3, none⟩) (Kd.R_far (p := ⟨gb184, 2, none⟩) (Kd.R_far (p := ⟨gb184, 1, none⟩) (Kd.R_far (p := ⟨gb184, 0, none⟩) (Kd.R_far (p := ⟨gb206, 5, none⟩) (Kd.R_types (Kd.R_types HO_3.out BK206.out (by decide)) BK184.out (by decide)) (fun _ hk => hk.1.2) (.int .i64 t208)) (fun _ hk => hk.2) (.slice Ao37 x6_1.length co37)) (fun _ hk => hk.2) (.slice Ao36 t188.length co36)) (fun _ hk => hk.2) (.slice Ao35 t185.length co35)) (fun _ hk => hk.2) (.slice Ao41 y200.length co41)) (fun _ hk => hk.2) (.slice Ao40 y203.length co40)) (fun _ hk => hk.2) (.int .i64 t208)) (fun _ hk => hk.2) (.int .i64 a0_3)) (fun _ hk => hk.2) (.int .i64 0)) (fun _ hk => hk.2) (.int .i64 a0_5)) (fun _ hk => ⟨hk.1.1.2, hk.1.1.1⟩), by (with_reducible repeat (first | apply Kd.R_alloc | apply Kd.R_drewN | apply Kd.R_drew)); exact Kd.R_mono (Kd.R_far (p := ⟨gb184, 8, none⟩) (Kd.R_far (p := ⟨gb184, 7, none⟩) (Kd.R_far (p := ⟨gb184, 6, none⟩) (Kd.R_far (p := ⟨gb184, 5, none⟩) (Kd.R_far (p := ⟨gb184, 4, none⟩) (Kd.R_far (p := ⟨gb184, 3, none⟩) (Kd.R_far (p := ⟨gb184, 2, none⟩) (Kd.R_far (p := ⟨gb184, 1, none⟩) (Kd.R_far (p := ⟨gb184, 0, none⟩) (Kd.R_far (p := ⟨gb206, 5, none⟩) (Kd.R_types (Kd.R_types HO202.out BK206.out (by decide)) BK184.out (by decide)) (fun _ hk => hk.1.2) (.int .i64 t208)) (fun _ hk => hk.2) (.slice Ao37 x6_1.length co37)) (fun _ hk => hk.2) (.slice Ao36 t188.length co36)) (fun _ hk => hk.2) (.slice Ao35 t185.length co35)) (fun _ hk => hk.2) (.slice Ao41 y200.length co41)) (fun _ hk => hk.2) (.slice Ao40 y203.length co40)) (fun _ hk => hk.2) (.int .i64 t208)) (fun _ hk => hk.2) (.int .i64 a0_3)) (fun _ hk => hk.2) (.int .i64 0)) (fun _ hk => hk.2) (.int .i64 a0_5)) (fun _ hk => hk.1.1), by (with_reducible repeat (first | apply Kd.R_alloc | apply Kd.R_drewN | apply Kd.R_drew)); exact Kd.R_mono (Kd.R_far (p := ⟨gb184, 8, none⟩) (Kd.R_far (p := ⟨gb184, 7, none⟩) (Kd.R_far (p := ⟨gb184, 6, none⟩) (Kd.R_far (p := ⟨gb184, 5, none⟩) (Kd.R_far (p := ⟨gb184, 4, none⟩) (Kd.R_far (p := ⟨gb184, 3, none⟩) (Kd.R_far (p := ⟨gb184, 2, none⟩) (Kd.R_far (p := ⟨gb184, 1, none⟩) (Kd.R_far (p := ⟨gb184, 0, none⟩) (Kd.R_far (p := ⟨gb206, 5, none⟩) (Kd.R_types (Kd.R_types HO205.out BK206.out (by decide)) BK184.out (by decide)) (fun _ hk => hk.1.2) (.int .i64 t208)) (fun _ hk => hk.2) (.slice Ao37 x6_1.length co37)) (fun _ hk => hk.2) (.slice Ao36 t188.length co36)) (fun _ hk => hk.2) (.slice Ao35 t185.length co35)) (fun _ hk => hk.2) (.slice Ao41 y200.length co41)) (fun _ hk => hk.2) (.slice Ao40 y203.length co40)) (fun _ hk => hk.2) (.int .i64 t208)) (fun _ hk => hk.2) (.int .i64 a0_3)) (fun _ hk => hk.2) (.int .i64 0)) (fun _ hk => hk.2) (.int .i64 a0_5)) (fun _ hk => hk.1.1), bA HB.out⟩
    ·rw [if_neg c23] at H
     exact absurd H (by simp)
end Go.Proofs.Ytmcobmphmmgdmaa.QFnExactFirstRound
