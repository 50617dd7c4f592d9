import Derived.Test.YtmcobmphmmgdmaaZFnExactIsLegalx0
import Derived.Test.YtmcobmphmmgdmaaZFnExactIsLegalx7
namespace Go.Proofs.Ytmcobmphmmgdmaa.QFnExactIsLegal
open Go.RowKit Go.Proofs.YtmcobmphmmgdmaaW.PrintWords Go.Proofs.YtmcobmphmmgdmaaW.PrintLast Go.Proofs.YtmcobmphmmgdmaaW.PrintMore
attribute [local go_sem] max2_int min2_int max_two min_two max_three min_three max_four min_four
set_option linter.unusedVariables false
set_option linter.unusedSimpArgs false
def impl_IsBetting.j0 : Nat → Int → Bool → List Int → List Int → List Int → List Bool → List Bool → Int → Int → Int → Int → Option (Bool)
 | 0, _, _, _, _, _, _, _, _, _, _, _ => none
 | k + 1, x3, x39, x214000, x214001, x214002, x214003, x214004, x214005, x214006, x214007, x214008 => if x39 = true then (some false) else ((impl_allWithin.f k x214000 0 600000).bind fun t215 => (if t215 = true then ((impl_allWithin.f k x214001 0 600000).bind fun t216 => (if t216 = true then ((impl_allWithin.f k x214002 0 600000).bind fun t217 => (if t217 = true then ((impl_chipsIn.f k x214000 x214001 x214002 x214003 x214004 x214005 x214006 x214007 x214008).bind fun t218 => (if t218 ≤ 600000 then ((slices_Contains_bool_bool.f k x214003 false).bind fun t219 => (if t219 = true then ((impl_within.f x214005 0 (wrap64 (x3 - 1))).bind fun t220 => (if t220 = true then ((impl_within.f x214006 1 100000).bind fun t221 => (if t221 = true then ((impl_within.f x214007 0 4).bind fun t222 => (if t222 = true then ((impl_within.f x214008 0 2).bind fun t223 => (some t223)) else (some false))) else (some false))) else (some false))) else (some false))) else (some false))) else (some false))) else (some false))) else (some false)))
def impl_IsBetting.f (k : Nat) (l0_0 : List Int) (l0_1 : List Int) (l0_2 : List Int) (l0_3 : List Bool) (l0_4 : List Bool) (a0_5 : Int) (a0_6 : Int) (a0_7 : Int) (a0_8 : Int) : Option (Bool) := (impl_within.f (l0_0.length : Int) 2 6).bind fun t214 => (if t214 = true then (if (l0_1.length : Int) = (l0_0.length : Int) then (if (l0_2.length : Int) = (l0_0.length : Int) then (if (l0_3.length : Int) = (l0_0.length : Int) then (impl_IsBetting.j0 k (l0_0.length : Int) ((l0_4.length : Int) != (l0_0.length : Int)) l0_0 l0_1 l0_2 l0_3 l0_4 a0_5 a0_6 a0_7 a0_8) else (impl_IsBetting.j0 k (l0_0.length : Int) true l0_0 l0_1 l0_2 l0_3 l0_4 a0_5 a0_6 a0_7 a0_8)) else (impl_IsBetting.j0 k (l0_0.length : Int) true l0_0 l0_1 l0_2 l0_3 l0_4 a0_5 a0_6 a0_7 a0_8)) else (impl_IsBetting.j0 k (l0_0.length : Int) true l0_0 l0_1 l0_2 l0_3 l0_4 a0_5 a0_6 a0_7 a0_8)) else (impl_IsBetting.j0 k (l0_0.length : Int) true l0_0 l0_1 l0_2 l0_3 l0_4 a0_5 a0_6 a0_7 a0_8))
theorem impl_IsBetting.mono_l : ∀ k, (∀ y0 y1 y2 y3 y4 y5 y6 y7 y8 y9 y10, LeO (impl_IsBetting.j0 k y0 y1 y2 y3 y4 y5 y6 y7 y8 y9 y10) (impl_IsBetting.j0 (k + 1) y0 y1 y2 y3 y4 y5 y6 y7 y8 y9 y10))
 | 0 => fun _ _ _ _ _ _ _ _ _ _ _ r h => by simp [impl_IsBetting.j0] at h
 | k + 1 => by
  have ih0 := impl_IsBetting.mono_l k
  ·intro y0 y1 y2 y3 y4 y5 y6 y7 y8 y9 y10
   unfold impl_IsBetting.j0
   repeat' first
   | (with_reducible exact ih0 _ _ _ _ _ _ _ _ _ _ _)
   | (with_reducible exact impl_allWithin.mono _ _ _ _)
   | (with_reducible exact impl_chipsIn.mono _ _ _ _ _ _ _ _ _ _)
   | (with_reducible exact slices_Contains_bool_bool.mono _ _ _)
   | (with_reducible exact LeO.refl _)
   | (with_reducible exact LeO.none _)
   | (with_reducible refine LeO.ite ?_ ?_)
   | (with_reducible refine LeO.bind ?_ (fun _ => ?_))
   | exact ih0 _ _ _ _ _ _ _ _ _ _ _
   | exact impl_allWithin.mono _ _ _ _
   | exact impl_chipsIn.mono _ _ _ _ _ _ _ _ _ _
   | exact slices_Contains_bool_bool.mono _ _ _
   | exact LeO.none _
   | refine LeO.ite ?_ ?_
   | refine LeO.bind ?_ (fun _ => ?_)
theorem impl_IsBetting.mono : ∀ a0 a1 a2 a3 a4 a5 a6 a7 a8 k, LeO (impl_IsBetting.f k a0 a1 a2 a3 a4 a5 a6 a7 a8) (impl_IsBetting.f (k + 1) a0 a1 a2 a3 a4 a5 a6 a7 a8) := by
 intro a0 a1 a2 a3 a4 a5 a6 a7 a8 k
 have ih0 := impl_IsBetting.mono_l k
 unfold impl_IsBetting.f
 repeat' first
   | (with_reducible exact ih0 _ _ _ _ _ _ _ _ _ _ _)
   | (with_reducible exact impl_allWithin.mono _ _ _ _)
   | (with_reducible exact impl_chipsIn.mono _ _ _ _ _ _ _ _ _ _)
   | (with_reducible exact slices_Contains_bool_bool.mono _ _ _)
   | (with_reducible exact LeO.refl _)
   | (with_reducible exact LeO.none _)
   | (with_reducible refine LeO.ite ?_ ?_)
   | (with_reducible refine LeO.bind ?_ (fun _ => ?_))
   | exact ih0 _ _ _ _ _ _ _ _ _ _ _
   | exact impl_allWithin.mono _ _ _ _
   | exact impl_chipsIn.mono _ _ _ _ _ _ _ _ _ _
   | exact slices_Contains_bool_bool.mono _ _ _
   | exact LeO.none _
   | refine LeO.ite ?_ ?_
   | refine LeO.bind ?_ (fun _ => ?_)
theorem impl_IsBetting.ix0 (w : World) (B0 B1 B2 : Option Addr) (n0 n1 n2 c0 c1 c2 : Nat) : (Instr.index 70 (.agg #[Value.slice B0 n0 c0, Value.slice B1 n1 c1, Value.slice B2 n2 c2]) (.int .i64 0)).run Try.prog w = .ok (.slice B0 n0 c0) w := by rfl
theorem impl_IsBetting.ix1 (w : World) (B0 B1 B2 : Option Addr) (n0 n1 n2 c0 c1 c2 : Nat) : (Instr.index 70 (.agg #[Value.slice B0 n0 c0, Value.slice B1 n1 c1, Value.slice B2 n2 c2]) (.int .i64 1)).run Try.prog w = .ok (.slice B1 n1 c1) w := by rfl
theorem impl_IsBetting.ix2 (w : World) (B0 B1 B2 : Option Addr) (n0 n1 n2 c0 c1 c2 : Nat) : (Instr.index 70 (.agg #[Value.slice B0 n0 c0, Value.slice B1 n1 c1, Value.slice B2 n2 c2]) (.int .i64 2)).run Try.prog w = .ok (.slice B2 n2 c2) w := by rfl
attribute [local go_sem] impl_IsBetting.ix0 impl_IsBetting.ix1 impl_IsBetting.ix2
set_option maxHeartbeats 8000000 in
set_option maxRecDepth 100000 in
theorem impl_IsBetting.calls (k : Nat) (A0_0 : Option Addr) (c0_0 : Nat) (l0_0 : List Int) (A0_1 : Option Addr) (c0_1 : Nat) (l0_1 : List Int) (A0_2 : Option Addr) (c0_2 : Nat) (l0_2 : List Int) (A0_3 : Option Addr) (c0_3 : Nat) (l0_3 : List Bool) (A0_4 : Option Addr) (c0_4 : Nat) (l0_4 : List Bool) (a0_5 : Int) (a0_6 : Int) (a0_7 : Int) (a0_8 : Int) (r : Bool) (w : World) (hr0_0 : Kd.C (Kd.int .i64) w A0_0 l0_0.length l0_0) (hc0_0 : l0_0.length ≤ c0_0) (hr0_1 : Kd.C (Kd.int .i64) w A0_1 l0_1.length l0_1) (hc0_1 : l0_1.length ≤ c0_1) (hr0_2 : Kd.C (Kd.int .i64) w A0_2 l0_2.length l0_2) (hc0_2 : l0_2.length ≤ c0_2) (hr0_3 : Kd.C Kd.bool w A0_3 l0_3.length l0_3) (hc0_3 : l0_3.length ≤ c0_3) (hr0_4 : Kd.C Kd.bool w A0_4 l0_4.length l0_4) (hc0_4 : l0_4.length ≤ c0_4) (h : impl_IsBetting.f k l0_0 l0_1 l0_2 l0_3 l0_4 a0_5 a0_6 a0_7 a0_8 = some r) :
  Calls Try.prog 18 #[.agg #[.slice A0_0 l0_0.length c0_0, .slice A0_1 l0_1.length c0_1, .slice A0_2 l0_2.length c0_2, .slice A0_3 l0_3.length c0_3, .slice A0_4 l0_4.length c0_4, .int .i64 a0_5, .int .i64 a0_6, .int .i64 a0_7, .int .i64 a0_8]] w fun e w' => e = .returned (.bool r) ∧ Below w.heap.size w w' := by
 have hu28 := Try.underlying28
 have HR0_0 := Aside0.mk hr0_0
 have HC0_0 := Aside0.mk hc0_0
 clear hr0_0 hc0_0
 have HR0_1 := Aside0.mk hr0_1
 have HC0_1 := Aside0.mk hc0_1
 clear hr0_1 hc0_1
 have HR0_2 := Aside0.mk hr0_2
 have HC0_2 := Aside0.mk hc0_2
 clear hr0_2 hc0_2
 have HR0_3 := Aside0.mk hr0_3
 have HC0_3 := Aside0.mk hc0_3
 clear hr0_3 hc0_3
 have HR0_4 := Aside0.mk hr0_4
 have HC0_4 := Aside0.mk hc0_4
 clear hr0_4 hc0_4
 have HB := Aside0.mk (Below.refl w.heap.size w)
 have H : ((impl_within.f (l0_0.length : Int) 2 6).bind fun t214 => (if t214 = true then (if (l0_1.length : Int) = (l0_0.length : Int) then (if (l0_2.length : Int) = (l0_0.length : Int) then (if (l0_3.length : Int) = (l0_0.length : Int) then (impl_IsBetting.j0 k (l0_0.length : Int) ((l0_4.length : Int) != (l0_0.length : Int)) l0_0 l0_1 l0_2 l0_3 l0_4 a0_5 a0_6 a0_7 a0_8) else (impl_IsBetting.j0 k (l0_0.length : Int) true l0_0 l0_1 l0_2 l0_3 l0_4 a0_5 a0_6 a0_7 a0_8)) else (impl_IsBetting.j0 k (l0_0.length : Int) true l0_0 l0_1 l0_2 l0_3 l0_4 a0_5 a0_6 a0_7 a0_8)) else (impl_IsBetting.j0 k (l0_0.length : Int) true l0_0 l0_1 l0_2 l0_3 l0_4 a0_5 a0_6 a0_7 a0_8)) else (impl_IsBetting.j0 k (l0_0.length : Int) true l0_0 l0_1 l0_2 l0_3 l0_4 a0_5 a0_6 a0_7 a0_8))) = some r := h
 clear h
 have HC2 := Aside0.mk H
 clear H
 go_enter Try.func18, Try.ntmps18
 go_upto_region 2 with (first | ((with_reducible refine gate_dst (N := 1) rfl ?_); (try (refine gate_guard (by rfl) ?_; dsimp only)); refine bE 1 #[.slice A0_0 l0_0.length c0_0, .slice A0_1 l0_1.length c0_1, .slice A0_2 l0_2.length c0_2, .slice A0_3 l0_3.length c0_3, .slice A0_4 l0_4.length c0_4, .int .i64 a0_5, .int .i64 a0_6, .int .i64 a0_7, .int .i64 a0_8] 28 ?_; intro gb213 hg w3 hbox hb; have BK213 := Aside0.mk (hbox); have GW213 := Aside0.mk (gE hg (bA HB.out)); have GE213 := Aside0.mk (gE hg (bA HB.out)); replace HB := Aside0.mk (below_step (bA HB.out) hb); clear hb hbox hg; obtain ⟨hcz4_0, hcz4_1, hcz4_2, hcz4_3, hcz4_4, hcz4_5, hcz4_6, hcz4_7, hcz4_8, hfz4_0, hfz4_1, hfz4_2, hfz4_3, hfz4_4, hfz4_5, hfz4_6, hfz4_7, hfz4_8⟩ := cz9 BK213.out))
 (try simp only [Act.put, List.setIfInBounds_toArray, List.set_cons_zero, List.set_cons_succ])
 go_cut [39] (fun v39 wc => ∃ (kq : Nat) (x39_1 : Bool), v39 = .bool x39_1 ∧ Aside0 (impl_IsBetting.j0 kq (l0_0.length : Int) x39_1 l0_0 l0_1 l0_2 l0_3 l0_4 a0_5 a0_6 a0_7 a0_8 = some r) ∧ Aside0 (kq ≤ k) ∧ Aside0 (wc.heap[gb213]? = some (.cells #[(.slice A0_0 l0_0.length c0_0), (.slice A0_1 l0_1.length c0_1), (.slice A0_2 l0_2.length c0_2), (.slice A0_3 l0_3.length c0_3), (.slice A0_4 l0_4.length c0_4), .int .i64 a0_5, .int .i64 a0_6, .int .i64 a0_7, .int .i64 a0_8] 28 (0, 0))) ∧ Aside0 (Below w.heap.size w wc))
 case first =>
  have H := HC2.out
  clear HC2
  obtain ⟨t214, A50, H⟩ := Option.bind_eq_some_iff.mp H
  try dsimp only at H
  have A5 := Aside0.mk A50
  clear A50
  by_cases c6 : t214 = true
  ·subst c6
   rw [if_pos rfl] at H
   try dsimp only at H
   by_cases c7 : (l0_1.length : Int) = (l0_0.length : Int)
   ·rw [if_pos c7] at H
    have c7b0 : ((l0_1.length : Int) == (l0_0.length : Int)) = true := beq_iff_eq.mpr c7
    have c7b1 : ((l0_1.length : Int) != (l0_0.length : Int)) = false := bne_eq_false_iff_eq.mpr c7
    have c7b2 : (l0_1.length == l0_0.length) = true := by first | simpa using c7 | (simp at c7 ⊢; omega)
    clear c7
    (first | rw [c7b0] | (simp only [i64_w, i32_w]; rw [c7b0]) | skip)
    by_cases c8 : (l0_2.length : Int) = (l0_0.length : Int)
    ·rw [if_pos c8] at H
     have c8b0 : ((l0_2.length : Int) == (l0_0.length : Int)) = true := beq_iff_eq.mpr c8
     have c8b1 : ((l0_2.length : Int) != (l0_0.length : Int)) = false := bne_eq_false_iff_eq.mpr c8
     have c8b2 : (l0_2.length == l0_0.length) = true := by first | simpa using c8 | (simp at c8 ⊢; omega)
     clear c8
     by_cases c9 : (l0_3.length : Int) = (l0_0.length : Int)
     ·rw [if_pos c9] at H
      have c9b0 : ((l0_3.length : Int) == (l0_0.length : Int)) = true := beq_iff_eq.mpr c9
      have c9b1 : ((l0_3.length : Int) != (l0_0.length : Int)) = false := bne_eq_false_iff_eq.mpr c9
      have c9b2 : (l0_3.length == l0_0.length) = true := by first | simpa using c9 | (simp at c9 ⊢; omega)
      clear c9
      have H' := Aside0.mk H
      clear H
      go_wp2_with (first | ((with_reducible refine gate_callee (f := 63) rfl ?_); refine gL (some 10) Try.func63 #[.int .i64 (l0_0.length : Int), .int .i64 2, .int .i64 6] ?_; (with_reducible refine (impl_within.calls (l0_0.length : Int) 2 6 true _ A5.out).mono ?_); rintro e w' ⟨rfl, ⟨nd, rfl⟩⟩; refine ⟨_, rfl, ?_⟩; obtain ⟨hcz10_0, hcz10_1, hcz10_2, hcz10_3, hcz10_4, hcz10_5, hcz10_6, hcz10_7, hcz10_8, hfz10_0, hfz10_1, hfz10_2, hfz10_3, hfz10_4, hfz10_5, hfz10_6, hfz10_7, hfz10_8⟩ := cz9 BK213.out))
      go_meet
      case rel => exact ⟨_, (((l0_4.length : Int) != (l0_0.length : Int))), (by first | rfl | (simp; done) | (simp [*]; done)), H', ⟨by first | omega | exact Nat.le_refl _⟩, ⟨by (with_reducible repeat (first | refine blk_drewN ?_ _ | refine blk_drew ?_ | refine blk_alloc ?_ _)); exact BK213.out⟩, ⟨bA HB.out⟩⟩
     ·rw [if_neg c9] at H
      have c9b0 : ((l0_3.length : Int) == (l0_0.length : Int)) = false := beq_eq_false_iff_ne.mpr c9
      have c9b1 : ((l0_3.length : Int) != (l0_0.length : Int)) = true := bne_iff_ne.mpr c9
      have c9b2 : (l0_3.length == l0_0.length) = false := by first | simpa using c9 | (simp at c9 ⊢; omega)
      have H' := Aside0.mk H
      clear H
      go_wp2_with (first | ((with_reducible refine gate_callee (f := 63) rfl ?_); refine gL (some 10) Try.func63 #[.int .i64 (l0_0.length : Int), .int .i64 2, .int .i64 6] ?_; (with_reducible refine (impl_within.calls (l0_0.length : Int) 2 6 true _ A5.out).mono ?_); rintro e w' ⟨rfl, ⟨nd, rfl⟩⟩; refine ⟨_, rfl, ?_⟩; obtain ⟨hcz11_0, hcz11_1, hcz11_2, hcz11_3, hcz11_4, hcz11_5, hcz11_6, hcz11_7, hcz11_8, hfz11_0, hfz11_1, hfz11_2, hfz11_3, hfz11_4, hfz11_5, hfz11_6, hfz11_7, hfz11_8⟩ := cz9 BK213.out))
      go_meet
      case rel => exact ⟨_, (true), (by first | rfl | (simp; done) | (simp [*]; done)), H', ⟨by first | omega | exact Nat.le_refl _⟩, ⟨by (with_reducible repeat (first | refine blk_drewN ?_ _ | refine blk_drew ?_ | refine blk_alloc ?_ _)); exact BK213.out⟩, ⟨bA HB.out⟩⟩
    ·rw [if_neg c8] at H
     have c8b0 : ((l0_2.length : Int) == (l0_0.length : Int)) = false := beq_eq_false_iff_ne.mpr c8
     have c8b1 : ((l0_2.length : Int) != (l0_0.length : Int)) = true := bne_iff_ne.mpr c8
     have c8b2 : (l0_2.length == l0_0.length) = false := by first | simpa using c8 | (simp at c8 ⊢; omega)
     have H' := Aside0.mk H
     clear H
     go_wp2_with (first | ((with_reducible refine gate_callee (f := 63) rfl ?_); refine gL (some 10) Try.func63 #[.int .i64 (l0_0.length : Int), .int .i64 2, .int .i64 6] ?_; (with_reducible refine (impl_within.calls (l0_0.length : Int) 2 6 true _ A5.out).mono ?_); rintro e w' ⟨rfl, ⟨nd, rfl⟩⟩; refine ⟨_, rfl, ?_⟩; obtain ⟨hcz12_0, hcz12_1, hcz12_2, hcz12_3, hcz12_4, hcz12_5, hcz12_6, hcz12_7, hcz12_8, hfz12_0, hfz12_1, hfz12_2, hfz12_3, hfz12_4, hfz12_5, hfz12_6, hfz12_7, hfz12_8⟩ := cz9 BK213.out))
     go_meet
     case rel => exact ⟨_, (true), (by first | rfl | (simp; done) | (simp [*]; done)), H', ⟨by first | omega | exact Nat.le_refl _⟩, ⟨by (with_reducible repeat (first | refine blk_drewN ?_ _ | refine blk_drew ?_ | refine blk_alloc ?_ _)); exact BK213.out⟩, ⟨bA HB.out⟩⟩
   ·rw [if_neg c7] at H
    have c7b0 : ((l0_1.length : Int) == (l0_0.length : Int)) = false := beq_eq_false_iff_ne.mpr c7
    have c7b1 : ((l0_1.length : Int) != (l0_0.length : Int)) = true := bne_iff_ne.mpr c7
    have c7b2 : (l0_1.length == l0_0.length) = false := by first | simpa using c7 | (simp at c7 ⊢; omega)
    (first | rw [c7b0] | (simp only [i64_w, i32_w]; rw [c7b0]) | skip)
    have H' := Aside0.mk H
    clear H
    go_wp2_with (first | ((with_reducible refine gate_callee (f := 63) rfl ?_); refine gL (some 10) Try.func63 #[.int .i64 (l0_0.length : Int), .int .i64 2, .int .i64 6] ?_; (with_reducible refine (impl_within.calls (l0_0.length : Int) 2 6 true _ A5.out).mono ?_); rintro e w' ⟨rfl, ⟨nd, rfl⟩⟩; refine ⟨_, rfl, ?_⟩; obtain ⟨hcz13_0, hcz13_1, hcz13_2, hcz13_3, hcz13_4, hcz13_5, hcz13_6, hcz13_7, hcz13_8, hfz13_0, hfz13_1, hfz13_2, hfz13_3, hfz13_4, hfz13_5, hfz13_6, hfz13_7, hfz13_8⟩ := cz9 BK213.out))
    go_meet
    case rel => exact ⟨_, (true), (by first | rfl | (simp; done) | (simp [*]; done)), H', ⟨by first | omega | exact Nat.le_refl _⟩, ⟨by (with_reducible repeat (first | refine blk_drewN ?_ _ | refine blk_drew ?_ | refine blk_alloc ?_ _)); exact BK213.out⟩, ⟨bA HB.out⟩⟩
  ·replace c6 := Bool.eq_false_iff.mpr c6
   subst c6
   rw [if_neg (show ¬ (false = true) by decide)] at H
   try dsimp only at H
   have H' := Aside0.mk H
   clear H
   go_wp2_with (first | ((with_reducible refine gate_callee (f := 63) rfl ?_); refine gL (some 10) Try.func63 #[.int .i64 (l0_0.length : Int), .int .i64 2, .int .i64 6] ?_; (with_reducible refine (impl_within.calls (l0_0.length : Int) 2 6 false _ A5.out).mono ?_); rintro e w' ⟨rfl, ⟨nd, rfl⟩⟩; refine ⟨_, rfl, ?_⟩))
   go_meet
   case rel => exact ⟨_, (true), (by first | rfl | (simp; done) | (simp [*]; done)), H', ⟨by first | omega | exact Nat.le_refl _⟩, ⟨by (with_reducible repeat (first | refine blk_drewN ?_ _ | refine blk_drew ?_ | refine blk_alloc ?_ _)); exact BK213.out⟩, ⟨bA HB.out⟩⟩
 case rest =>
  clear HC2
  try clear c1
  try clear p2
  try clear c6
  try clear c7
  try clear c7b0
  try clear c7b1
  try clear c7b2
  try clear c8
  try clear c8b0
  try clear c8b1
  try clear c8b2
  try clear c9
  try clear c9b0
  try clear c9b1
  try clear c9b2
  try clear hcz10_0 hcz10_1 hcz10_2 hcz10_3 hcz10_4 hcz10_5 hcz10_6 hcz10_7 hcz10_8
  try clear hcz11_0 hcz11_1 hcz11_2 hcz11_3 hcz11_4 hcz11_5 hcz11_6 hcz11_7 hcz11_8
  try clear hcz12_0 hcz12_1 hcz12_2 hcz12_3 hcz12_4 hcz12_5 hcz12_6 hcz12_7 hcz12_8
  try clear hcz13_0 hcz13_1 hcz13_2 hcz13_3 hcz13_4 hcz13_5 hcz13_6 hcz13_7 hcz13_8
  try clear hcz4_0 hcz4_1 hcz4_2 hcz4_3 hcz4_4 hcz4_5 hcz4_6 hcz4_7 hcz4_8
  try clear hfz10_0 hfz10_1 hfz10_2 hfz10_3 hfz10_4 hfz10_5 hfz10_6 hfz10_7 hfz10_8
  try clear hfz11_0 hfz11_1 hfz11_2 hfz11_3 hfz11_4 hfz11_5 hfz11_6 hfz11_7 hfz11_8
  try clear hfz12_0 hfz12_1 hfz12_2 hfz12_3 hfz12_4 hfz12_5 hfz12_6 hfz12_7 hfz12_8
  try clear hfz13_0 hfz13_1 hfz13_2 hfz13_3 hfz13_4 hfz13_5 hfz13_6 hfz13_7 hfz13_8
  try clear hfz4_0 hfz4_1 hfz4_2 hfz4_3 hfz4_4 hfz4_5 hfz4_6 hfz4_7 hfz4_8
  obtain ⟨kq, x39_1, rfl, HA, HJ1, BK213, HB⟩ := hcut
  cases kq with
  | zero => exact absurd HA.out (by simp [impl_IsBetting.j0])
  | succ kj1 =>
   have H := HA.out
   clear HA
   simp only [impl_IsBetting.j0] at H
   by_cases c14 : x39_1 = true
   ·subst c14
    rw [if_pos rfl] at H
    try dsimp only at H
    obtain rfl := Option.some.inj H
    go_wp2
    go_ret
    exact ⟨by first | rfl | (simp [errW_none, errW_some] <;> rfl) | (simp [*, errW_none, errW_some] <;> rfl), bA HB.out⟩
   ·replace c14 := Bool.eq_false_iff.mpr c14
    subst c14
    rw [if_neg (show ¬ (false = true) by decide)] at H
    try dsimp only at H
    obtain ⟨t215, A150, H⟩ := Option.bind_eq_some_iff.mp H
    try dsimp only at H
    have A15 := Aside0.mk A150
    clear A150
    by_cases c16 : t215 = true
    ·subst c16
     rw [if_pos rfl] at H
     try dsimp only at H
     obtain ⟨t216, A170, H⟩ := Option.bind_eq_some_iff.mp H
     try dsimp only at H
     have A17 := Aside0.mk A170
     clear A170
     by_cases c18 : t216 = true
     ·subst c18
      rw [if_pos rfl] at H
      try dsimp only at H
      obtain ⟨t217, A190, H⟩ := Option.bind_eq_some_iff.mp H
      try dsimp only at H
      have A19 := Aside0.mk A190
      clear A190
      by_cases c20 : t217 = true
      ·subst c20
       rw [if_pos rfl] at H
       try dsimp only at H
       obtain ⟨t218, A210, H⟩ := Option.bind_eq_some_iff.mp H
       try dsimp only at H
       have A21 := Aside0.mk A210
       clear A210
       by_cases c22 : t218 ≤ 600000
       ·rw [if_pos c22] at H
        have c22b0 : decide (t218 ≤ 600000) = true := decide_eq_true c22
        clear c22
        obtain ⟨t219, A230, H⟩ := Option.bind_eq_some_iff.mp H
        try dsimp only at H
        have A23 := Aside0.mk A230
        clear A230
        by_cases c24 : t219 = true
        ·subst c24
         rw [if_pos rfl] at H
         try dsimp only at H
         obtain ⟨t220, A250, H⟩ := Option.bind_eq_some_iff.mp H
         try dsimp only at H
         have A25 := Aside0.mk A250
         clear A250
         by_cases c26 : t220 = true
         ·subst c26
          rw [if_pos rfl] at H
          try dsimp only at H
          obtain ⟨t221, A270, H⟩ := Option.bind_eq_some_iff.mp H
          try dsimp only at H
          have A27 := Aside0.mk A270
          clear A270
          by_cases c28 : t221 = true
          ·subst c28
           rw [if_pos rfl] at H
           try dsimp only at H
           obtain ⟨t222, A290, H⟩ := Option.bind_eq_some_iff.mp H
           try dsimp only at H
           have A29 := Aside0.mk A290
           clear A290
           by_cases c30 : t222 = true
           ·subst c30
            rw [if_pos rfl] at H
            try dsimp only at H
            obtain ⟨t223, A310, H⟩ := Option.bind_eq_some_iff.mp H
            try dsimp only at H
            have A31 := Aside0.mk A310
            clear A310
            obtain rfl := Option.some.inj H
            obtain ⟨hcz32_0, hcz32_1, hcz32_2, hcz32_3, hcz32_4, hcz32_5, hcz32_6, hcz32_7, hcz32_8, hfz32_0, hfz32_1, hfz32_2, hfz32_3, hfz32_4, hfz32_5, hfz32_6, hfz32_7, hfz32_8⟩ := cz9 BK213.out
            go_wp2_with (first | ((with_reducible refine gate_callee (f := 64) rfl ?_); refine gL (some 51) Try.func64 #[.slice A0_0 l0_0.length c0_0, .int .i64 0, .int .i64 600000] ?_; (with_reducible refine (impl_allWithin.calls kj1 _ _ l0_0 0 600000 true _ ?side1 ?side2 A15.out).mono ?_); (case side1 => exact cA (Kd.C_below HR0_0.out HB.out)); (case side2 => exact HC0_0.out); rintro e w' ⟨rfl, ⟨nd, rfl⟩⟩; refine ⟨_, rfl, ?_⟩) | ((with_reducible refine gate_callee (f := 64) rfl ?_); refine gL (some 51) Try.func64 #[.slice A0_1 l0_1.length c0_1, .int .i64 0, .int .i64 600000] ?_; (with_reducible refine (impl_allWithin.calls kj1 _ _ l0_1 0 600000 true _ ?side1 ?side2 A17.out).mono ?_); (case side1 => exact cA (Kd.C_below HR0_1.out (bA HB.out))); (case side2 => exact HC0_1.out); rintro e w' ⟨rfl, ⟨nd, rfl⟩⟩; refine ⟨_, rfl, ?_⟩) | ((with_reducible refine gate_callee (f := 64) rfl ?_); refine gL (some 51) Try.func64 #[.slice A0_2 l0_2.length c0_2, .int .i64 0, .int .i64 600000] ?_; (with_reducible refine (impl_allWithin.calls kj1 _ _ l0_2 0 600000 true _ ?side1 ?side2 A19.out).mono ?_); (case side1 => exact cA (Kd.C_below HR0_2.out (bA HB.out))); (case side2 => exact HC0_2.out); rintro e w' ⟨rfl, ⟨nd, rfl⟩⟩; refine ⟨_, rfl, ?_⟩) | ((with_reducible refine gate_callee (f := 65) rfl ?_); refine gL (some 55) Try.func65 #[.agg #[.slice A0_0 l0_0.length c0_0, .slice A0_1 l0_1.length c0_1, .slice A0_2 l0_2.length c0_2, .slice A0_3 l0_3.length c0_3, .slice A0_4 l0_4.length c0_4, .int .i64 a0_5, .int .i64 a0_6, .int .i64 a0_7, .int .i64 a0_8]] ?_; (with_reducible refine (impl_chipsIn.calls kj1 _ _ l0_0 _ _ l0_1 _ _ l0_2 _ _ l0_3 _ _ l0_4 a0_5 a0_6 a0_7 a0_8 t218 _ ?side1 ?side2 ?side3 ?side4 ?side5 ?side6 ?side7 ?side8 ?side9 ?side10 A21.out).mono ?_); (case side1 => exact cA (Kd.C_below HR0_0.out (bA HB.out))); (case side2 => exact HC0_0.out); (case side3 => exact cA (Kd.C_below HR0_1.out (bA HB.out))); (case side4 => exact HC0_1.out); (case side5 => exact cA (Kd.C_below HR0_2.out (bA HB.out))); (case side6 => exact HC0_2.out); (case side7 => exact cA (Kd.C_below HR0_3.out (bA HB.out))); (case side8 => exact HC0_3.out); (case side9 => exact cA (Kd.C_below HR0_4.out (bA HB.out))); (case side10 => exact HC0_4.out); rintro e w33 ⟨rfl, hb⟩; refine ⟨_, rfl, ?_⟩; replace BK213 := Aside0.mk (blk_below (kA BK213.out) hb); replace HB := Aside0.mk (below_step (bA HB.out) hb); (try clear hb); obtain ⟨hcz34_0, hcz34_1, hcz34_2, hcz34_3, hcz34_4, hcz34_5, hcz34_6, hcz34_7, hcz34_8, hfz34_0, hfz34_1, hfz34_2, hfz34_3, hfz34_4, hfz34_5, hfz34_6, hfz34_7, hfz34_8⟩ := cz9 BK213.out) | (go_at_call 66; (with_reducible refine (slices_Contains_bool_bool.calls kj1 _ _ l0_3 false true _ ?side1 ?side2 A23.out).mono ?_); (case side1 => exact cA (Kd.C_below HR0_3.out HB.out)); (case side2 => exact HC0_3.out); rintro e w' ⟨rfl, ⟨nd, rfl⟩⟩) | (go_at_call 63; (with_reducible refine (impl_within.calls a0_5 0 (wrap64 ((l0_0.length : Int) - 1)) true _ A25.out).mono ?_); rintro e w' ⟨rfl, ⟨nd, rfl⟩⟩) | (go_at_call 63; (with_reducible refine (impl_within.calls a0_6 1 100000 true _ A27.out).mono ?_); rintro e w' ⟨rfl, ⟨nd, rfl⟩⟩) | (go_at_call 63; (with_reducible refine (impl_within.calls a0_7 0 4 true _ A29.out).mono ?_); rintro e w' ⟨rfl, ⟨nd, rfl⟩⟩) | (go_at_call 63; (with_reducible refine (impl_within.calls a0_8 0 2 t223 _ A31.out).mono ?_); rintro e w' ⟨rfl, ⟨nd, rfl⟩⟩))
            refine wp_loop_rounds 4 ?_
            repeat (rw [rounds_succ]; go_wp2_with (first | ((with_reducible refine gate_callee (f := 64) rfl ?_); refine gL (some 51) Try.func64 #[.slice A0_0 l0_0.length c0_0, .int .i64 0, .int .i64 600000] ?_; (with_reducible refine (impl_allWithin.calls kj1 _ _ l0_0 0 600000 true _ ?side1 ?side2 A15.out).mono ?_); (case side1 => exact cA (Kd.C_below HR0_0.out HB.out)); (case side2 => exact HC0_0.out); rintro e w' ⟨rfl, ⟨nd, rfl⟩⟩; refine ⟨_, rfl, ?_⟩) | ((with_reducible refine gate_callee (f := 64) rfl ?_); refine gL (some 51) Try.func64 #[.slice A0_1 l0_1.length c0_1, .int .i64 0, .int .i64 600000] ?_; (with_reducible refine (impl_allWithin.calls kj1 _ _ l0_1 0 600000 true _ ?side1 ?side2 A17.out).mono ?_); (case side1 => exact cA (Kd.C_below HR0_1.out (bA HB.out))); (case side2 => exact HC0_1.out); rintro e w' ⟨rfl, ⟨nd, rfl⟩⟩; refine ⟨_, rfl, ?_⟩) | ((with_reducible refine gate_callee (f := 64) rfl ?_); refine gL (some 51) Try.func64 #[.slice A0_2 l0_2.length c0_2, .int .i64 0, .int .i64 600000] ?_; (with_reducible refine (impl_allWithin.calls kj1 _ _ l0_2 0 600000 true _ ?side1 ?side2 A19.out).mono ?_); (case side1 => exact cA (Kd.C_below HR0_2.out (bA HB.out))); (case side2 => exact HC0_2.out); rintro e w' ⟨rfl, ⟨nd, rfl⟩⟩; refine ⟨_, rfl, ?_⟩) | ((with_reducible refine gate_callee (f := 65) rfl ?_); refine gL (some 55) Try.func65 #[.agg #[.slice A0_0 l0_0.length c0_0, .slice A0_1 l0_1.length c0_1, .slice A0_2 l0_2.length c0_2, .slice A0_3 l0_3.length c0_3, .slice A0_4 l0_4.length c0_4, .int .i64 a0_5, .int .i64 a0_6, .int .i64 a0_7, .int .i64 a0_8]] ?_; (with_reducible refine (impl_chipsIn.calls kj1 _ _ l0_0 _ _ l0_1 _ _ l0_2 _ _ l0_3 _ _ l0_4 a0_5 a0_6 a0_7 a0_8 t218 _ ?side1 ?side2 ?side3 ?side4 ?side5 ?side6 ?side7 ?side8 ?side9 ?side10 A21.out).mono ?_); (case side1 => exact cA (Kd.C_below HR0_0.out (bA HB.out))); (case side2 => exact HC0_0.out); (case side3 => exact cA (Kd.C_below HR0_1.out (bA HB.out))); (case side4 => exact HC0_1.out); (case side5 => exact cA (Kd.C_below HR0_2.out (bA HB.out))); (case side6 => exact HC0_2.out); (case side7 => exact cA (Kd.C_below HR0_3.out (bA HB.out))); (case side8 => exact HC0_3.out); (case side9 => exact cA (Kd.C_below HR0_4.out (bA HB.out))); (case side10 => exact HC0_4.out); rintro e w33 ⟨rfl, hb⟩; refine ⟨_, rfl, ?_⟩; replace BK213 := Aside0.mk (blk_below (kA BK213.out) hb); replace HB := Aside0.mk (below_step (bA HB.out) hb); (try clear hb); obtain ⟨hcz34_0, hcz34_1, hcz34_2, hcz34_3, hcz34_4, hcz34_5, hcz34_6, hcz34_7, hcz34_8, hfz34_0, hfz34_1, hfz34_2, hfz34_3, hfz34_4, hfz34_5, hfz34_6, hfz34_7, hfz34_8⟩ := cz9 BK213.out) | (go_at_call 66; (with_reducible refine (slices_Contains_bool_bool.calls kj1 _ _ l0_3 false true _ ?side1 ?side2 A23.out).mono ?_); (case side1 => exact cA (Kd.C_below HR0_3.out HB.out)); (case side2 => exact HC0_3.out); rintro e w' ⟨rfl, ⟨nd, rfl⟩⟩) | (go_at_call 63; (with_reducible refine (impl_within.calls a0_5 0 (wrap64 ((l0_0.length : Int) - 1)) true _ A25.out).mono ?_); rintro e w' ⟨rfl, ⟨nd, rfl⟩⟩) | (go_at_call 63; (with_reducible refine (impl_within.calls a0_6 1 100000 true _ A27.out).mono ?_); rintro e w' ⟨rfl, ⟨nd, rfl⟩⟩) | (go_at_call 63; (with_reducible refine (impl_within.calls a0_7 0 4 true _ A29.out).mono ?_); rintro e w' ⟨rfl, ⟨nd, rfl⟩⟩) | (go_at_call 63; (with_reducible refine (impl_within.calls a0_8 0 2 t223 _ A31.out).mono ?_); rintro e w' ⟨rfl, ⟨nd, rfl⟩⟩)))
            go_ret
            exact ⟨by first | rfl | (simp [errW_none, errW_some] <;> rfl) | (simp [*, errW_none, errW_some] <;> rfl), bA HB.out⟩
           ·replace c30 := Bool.eq_false_iff.mpr c30
            subst c30
            rw [if_neg (show ¬ (false = true) by decide)] at H
            try dsimp only at H
            obtain rfl := Option.some.inj H
            obtain ⟨hcz35_0, hcz35_1, hcz35_2, hcz35_3, hcz35_4, hcz35_5, hcz35_6, hcz35_7, hcz35_8, hfz35_0, hfz35_1, hfz35_2, hfz35_3, hfz35_4, hfz35_5, hfz35_6, hfz35_7, hfz35_8⟩ := cz9 BK213.out
            go_wp2_with (first | ((with_reducible refine gate_callee (f := 64) rfl ?_); refine gL (some 51) Try.func64 #[.slice A0_0 l0_0.length c0_0, .int .i64 0, .int .i64 600000] ?_; (with_reducible refine (impl_allWithin.calls kj1 _ _ l0_0 0 600000 true _ ?side1 ?side2 A15.out).mono ?_); (case side1 => exact cA (Kd.C_below HR0_0.out HB.out)); (case side2 => exact HC0_0.out); rintro e w' ⟨rfl, ⟨nd, rfl⟩⟩; refine ⟨_, rfl, ?_⟩) | ((with_reducible refine gate_callee (f := 64) rfl ?_); refine gL (some 51) Try.func64 #[.slice A0_1 l0_1.length c0_1, .int .i64 0, .int .i64 600000] ?_; (with_reducible refine (impl_allWithin.calls kj1 _ _ l0_1 0 600000 true _ ?side1 ?side2 A17.out).mono ?_); (case side1 => exact cA (Kd.C_below HR0_1.out (bA HB.out))); (case side2 => exact HC0_1.out); rintro e w' ⟨rfl, ⟨nd, rfl⟩⟩; refine ⟨_, rfl, ?_⟩) | ((with_reducible refine gate_callee (f := 64) rfl ?_); refine gL (some 51) Try.func64 #[.slice A0_2 l0_2.length c0_2, .int .i64 0, .int .i64 600000] ?_; (with_reducible refine (impl_allWithin.calls kj1 _ _ l0_2 0 600000 true _ ?side1 ?side2 A19.out).mono ?_); (case side1 => exact cA (Kd.C_below HR0_2.out (bA HB.out))); (case side2 => exact HC0_2.out); rintro e w' ⟨rfl, ⟨nd, rfl⟩⟩; refine ⟨_, rfl, ?_⟩) | ((with_reducible refine gate_callee (f := 65) rfl ?_); refine gL (some 55) Try.func65 #[.agg #[.slice A0_0 l0_0.length c0_0, .slice A0_1 l0_1.length c0_1, .slice A0_2 l0_2.length c0_2, .slice A0_3 l0_3.length c0_3, .slice A0_4 l0_4.length c0_4, .int .i64 a0_5, .int .i64 a0_6, .int .i64 a0_7, .int .i64 a0_8]] ?_; (with_reducible refine (impl_chipsIn.calls kj1 _ _ l0_0 _ _ l0_1 _ _ l0_2 _ _ l0_3 _ _ l0_4 a0_5 a0_6 a0_7 a0_8 t218 _ ?side1 ?side2 ?side3 ?side4 ?side5 ?side6 ?side7 ?side8 ?side9 ?side10 A21.out).mono ?_); (case side1 => exact cA (Kd.C_below HR0_0.out (bA HB.out))); (case side2 => exact HC0_0.out); (case side3 => exact cA (Kd.C_below HR0_1.out (bA HB.out))); (case side4 => exact HC0_1.out); (case side5 => exact cA (Kd.C_below HR0_2.out (bA HB.out))); (case side6 => exact HC0_2.out); (case side7 => exact cA (Kd.C_below HR0_3.out (bA HB.out))); (case side8 => exact HC0_3.out); (case side9 => exact cA (Kd.C_below HR0_4.out (bA HB.out))); (case side10 => exact HC0_4.out); rintro e w36 ⟨rfl, hb⟩; refine ⟨_, rfl, ?_⟩; replace BK213 := Aside0.mk (blk_below (kA BK213.out) hb); replace HB := Aside0.mk (below_step (bA HB.out) hb); (try clear hb); obtain ⟨hcz37_0, hcz37_1, hcz37_2, hcz37_3, hcz37_4, hcz37_5, hcz37_6, hcz37_7, hcz37_8, hfz37_0, hfz37_1, hfz37_2, hfz37_3, hfz37_4, hfz37_5, hfz37_6, hfz37_7, hfz37_8⟩ := cz9 BK213.out) | (go_at_call 66; (with_reducible refine (slices_Contains_bool_bool.calls kj1 _ _ l0_3 false true _ ?side1 ?side2 A23.out).mono ?_); (case side1 => exact cA (Kd.C_below HR0_3.out HB.out)); (case side2 => exact HC0_3.out); rintro e w' ⟨rfl, ⟨nd, rfl⟩⟩) | (go_at_call 63; (with_reducible refine (impl_within.calls a0_5 0 (wrap64 ((l0_0.length : Int) - 1)) true _ A25.out).mono ?_); rintro e w' ⟨rfl, ⟨nd, rfl⟩⟩) | (go_at_call 63; (with_reducible refine (impl_within.calls a0_6 1 100000 true _ A27.out).mono ?_); rintro e w' ⟨rfl, ⟨nd, rfl⟩⟩) | (go_at_call 63; (with_reducible refine (impl_within.calls a0_7 0 4 false _ A29.out).mono ?_); rintro e w' ⟨rfl, ⟨nd, rfl⟩⟩))
            refine wp_loop_rounds 4 ?_
            repeat (rw [rounds_succ]; go_wp2_with (first | ((with_reducible refine gate_callee (f := 64) rfl ?_); refine gL (some 51) Try.func64 #[.slice A0_0 l0_0.length c0_0, .int .i64 0, .int .i64 600000] ?_; (with_reducible refine (impl_allWithin.calls kj1 _ _ l0_0 0 600000 true _ ?side1 ?side2 A15.out).mono ?_); (case side1 => exact cA (Kd.C_below HR0_0.out HB.out)); (case side2 => exact HC0_0.out); rintro e w' ⟨rfl, ⟨nd, rfl⟩⟩; refine ⟨_, rfl, ?_⟩) | ((with_reducible refine gate_callee (f := 64) rfl ?_); refine gL (some 51) Try.func64 #[.slice A0_1 l0_1.length c0_1, .int .i64 0, .int .i64 600000] ?_; (with_reducible refine (impl_allWithin.calls kj1 _ _ l0_1 0 600000 true _ ?side1 ?side2 A17.out).mono ?_); (case side1 => exact cA (Kd.C_below HR0_1.out (bA HB.out))); (case side2 => exact HC0_1.out); rintro e w' ⟨rfl, ⟨nd, rfl⟩⟩; refine ⟨_, rfl, ?_⟩) | ((with_reducible refine gate_callee (f := 64) rfl ?_); refine gL (some 51) Try.func64 #[.slice A0_2 l0_2.length c0_2, .int .i64 0, .int .i64 600000] ?_; (with_reducible refine (impl_allWithin.calls kj1 _ _ l0_2 0 600000 true _ ?side1 ?side2 A19.out).mono ?_); (case side1 => exact cA (Kd.C_below HR0_2.out (bA HB.out))); (case side2 => exact HC0_2.out); rintro e w' ⟨rfl, ⟨nd, rfl⟩⟩; refine ⟨_, rfl, ?_⟩) | ((with_reducible refine gate_callee (f := 65) rfl ?_); refine gL (some 55) Try.func65 #[.agg #[.slice A0_0 l0_0.length c0_0, .slice A0_1 l0_1.length c0_1, .slice A0_2 l0_2.length c0_2, .slice A0_3 l0_3.length c0_3, .slice A0_4 l0_4.length c0_4, .int .i64 a0_5, .int .i64 a0_6, .int .i64 a0_7, .int .i64 a0_8]] ?_; (with_reducible refine (impl_chipsIn.calls kj1 _ _ l0_0 _ _ l0_1 _ _ l0_2 _ _ l0_3 _ _ l0_4 a0_5 a0_6 a0_7 a0_8 t218 _ ?side1 ?side2 ?side3 ?side4 ?side5 ?side6 ?side7 ?side8 ?side9 ?side10 A21.out).mono ?_); (case side1 => exact cA (Kd.C_below HR0_0.out (bA HB.out))); (case side2 => exact HC0_0.out); (case side3 => exact cA (Kd.C_below HR0_1.out (bA HB.out))); (case side4 => exact HC0_1.out); (case side5 => exact cA (Kd.C_below HR0_2.out (bA HB.out))); (case side6 => exact HC0_2.out); (case side7 => exact cA (Kd.C_below HR0_3.out (bA HB.out))); (case side8 => exact HC0_3.out); (case side9 => exact cA (Kd.C_below HR0_4.out (bA HB.out))); (case side10 => exact HC0_4.out); rintro e w36 ⟨rfl, hb⟩; refine ⟨_, rfl, ?_⟩; replace BK213 := Aside0.mk (blk_below (kA BK213.out) hb); replace HB := Aside0.mk (below_step (bA HB.out) hb); (try clear hb); obtain ⟨hcz37_0, hcz37_1, hcz37_2, hcz37_3, hcz37_4, hcz37_5, hcz37_6, hcz37_7, hcz37_8, hfz37_0, hfz37_1, hfz37_2, hfz37_3, hfz37_4, hfz37_5, hfz37_6, hfz37_7, hfz37_8⟩ := cz9 BK213.out) | (go_at_call 66; (with_reducible refine (slices_Contains_bool_bool.calls kj1 _ _ l0_3 false true _ ?side1 ?side2 A23.out).mono ?_); (case side1 => exact cA (Kd.C_below HR0_3.out HB.out)); (case side2 => exact HC0_3.out); rintro e w' ⟨rfl, ⟨nd, rfl⟩⟩) | (go_at_call 63; (with_reducible refine (impl_within.calls a0_5 0 (wrap64 ((l0_0.length : Int) - 1)) true _ A25.out).mono ?_); rintro e w' ⟨rfl, ⟨nd, rfl⟩⟩) | (go_at_call 63; (with_reducible refine (impl_within.calls a0_6 1 100000 true _ A27.out).mono ?_); rintro e w' ⟨rfl, ⟨nd, rfl⟩⟩) | (go_at_call 63; (with_reducible refine (impl_within.calls a0_7 0 4 false _ A29.out).mono ?_); rintro e w' ⟨rfl, ⟨nd, rfl⟩⟩)))
            go_ret
            exact ⟨by first | rfl | (simp [errW_none, errW_some] <;> rfl) | (simp [*, errW_none, errW_some] <;> rfl), bA HB.out⟩
          ·replace c28 := Bool.eq_false_iff.mpr c28
           subst c28
           rw [if_neg (show ¬ (false = true) by decide)] at H
           try dsimp only at H
           obtain rfl := Option.some.inj H
           obtain ⟨hcz38_0, hcz38_1, hcz38_2, hcz38_3, hcz38_4, hcz38_5, hcz38_6, hcz38_7, hcz38_8, hfz38_0, hfz38_1, hfz38_2, hfz38_3, hfz38_4, hfz38_5, hfz38_6, hfz38_7, hfz38_8⟩ := cz9 BK213.out
           go_wp2_with (first | ((with_reducible refine gate_callee (f := 64) rfl ?_); refine gL (some 51) Try.func64 #[.slice A0_0 l0_0.length c0_0, .int .i64 0, .int .i64 600000] ?_; (with_reducible refine (impl_allWithin.calls kj1 _ _ l0_0 0 600000 true _ ?side1 ?side2 A15.out).mono ?_); (case side1 => exact cA (Kd.C_below HR0_0.out HB.out)); (case side2 => exact HC0_0.out); rintro e w' ⟨rfl, ⟨nd, rfl⟩⟩; refine ⟨_, rfl, ?_⟩) | ((with_reducible refine gate_callee (f := 64) rfl ?_); refine gL (some 51) Try.func64 #[.slice A0_1 l0_1.length c0_1, .int .i64 0, .int .i64 600000] ?_; (with_reducible refine (impl_allWithin.calls kj1 _ _ l0_1 0 600000 true _ ?side1 ?side2 A17.out).mono ?_); (case side1 => exact cA (Kd.C_below HR0_1.out (bA HB.out))); (case side2 => exact HC0_1.out); rintro e w' ⟨rfl, ⟨nd, rfl⟩⟩; refine ⟨_, rfl, ?_⟩) | ((with_reducible refine gate_callee (f := 64) rfl ?_); refine gL (some 51) Try.func64 #[.slice A0_2 l0_2.length c0_2, .int .i64 0, .int .i64 600000] ?_; (with_reducible refine (impl_allWithin.calls kj1 _ _ l0_2 0 600000 true _ ?side1 ?side2 A19.out).mono ?_); (case side1 => exact cA (Kd.C_below HR0_2.out (bA HB.out))); (case side2 => exact HC0_2.out); rintro e w' ⟨rfl, ⟨nd, rfl⟩⟩; refine ⟨_, rfl, ?_⟩) | ((with_reducible refine gate_callee (f := 65) rfl ?_); refine gL (some 55) Try.func65 #[.agg #[.slice A0_0 l0_0.length c0_0, .slice A0_1 l0_1.length c0_1, .slice A0_2 l0_2.length c0_2, .slice A0_3 l0_3.length c0_3, .slice A0_4 l0_4.length c0_4, .int .i64 a0_5, .int .i64 a0_6, .int .i64 a0_7, .int .i64 a0_8]] ?_; (with_reducible refine (impl_chipsIn.calls kj1 _ _ l0_0 _ _ l0_1 _ _ l0_2 _ _ l0_3 _ _ l0_4 a0_5 a0_6 a0_7 a0_8 t218 _ ?side1 ?side2 ?side3 ?side4 ?side5 ?side6 ?side7 ?side8 ?side9 ?side10 A21.out).mono ?_); (case side1 => exact cA (Kd.C_below HR0_0.out (bA HB.out))); (case side2 => exact HC0_0.out); (case side3 => exact cA (Kd.C_below HR0_1.out (bA HB.out))); (case side4 => exact HC0_1.out); (case side5 => exact cA (Kd.C_below HR0_2.out (bA HB.out))); (case side6 => exact HC0_2.out); (case side7 => exact cA (Kd.C_below HR0_3.out (bA HB.out))); (case side8 => exact HC0_3.out); (case side9 => exact cA (Kd.C_below HR0_4.out (bA HB.out))); (case side10 => exact HC0_4.out); rintro e w39 ⟨rfl, hb⟩; refine ⟨_, rfl, ?_⟩; replace BK213 := Aside0.mk (blk_below (kA BK213.out) hb); replace HB := Aside0.mk (below_step (bA HB.out) hb); (try clear hb); obtain ⟨hcz40_0, hcz40_1, hcz40_2, hcz40_3, hcz40_4, hcz40_5, hcz40_6, hcz40_7, hcz40_8, hfz40_0, hfz40_1, hfz40_2, hfz40_3, hfz40_4, hfz40_5, hfz40_6, hfz40_7, hfz40_8⟩ := cz9 BK213.out) | (go_at_call 66; (with_reducible refine (slices_Contains_bool_bool.calls kj1 _ _ l0_3 false true _ ?side1 ?side2 A23.out).mono ?_); (case side1 => exact cA (Kd.C_below HR0_3.out HB.out)); (case side2 => exact HC0_3.out); rintro e w' ⟨rfl, ⟨nd, rfl⟩⟩) | (go_at_call 63; (with_reducible refine (impl_within.calls a0_5 0 (wrap64 ((l0_0.length : Int) - 1)) true _ A25.out).mono ?_); rintro e w' ⟨rfl, ⟨nd, rfl⟩⟩) | (go_at_call 63; (with_reducible refine (impl_within.calls a0_6 1 100000 false _ A27.out).mono ?_); rintro e w' ⟨rfl, ⟨nd, rfl⟩⟩))
           refine wp_loop_rounds 4 ?_
           repeat (rw [rounds_succ]; go_wp2_with (first | ((with_reducible refine gate_callee (f := 64) rfl ?_); refine gL (some 51) Try.func64 #[.slice A0_0 l0_0.length c0_0, .int .i64 0, .int .i64 600000] ?_; (with_reducible refine (impl_allWithin.calls kj1 _ _ l0_0 0 600000 true _ ?side1 ?side2 A15.out).mono ?_); (case side1 => exact cA (Kd.C_below HR0_0.out HB.out)); (case side2 => exact HC0_0.out); rintro e w' ⟨rfl, ⟨nd, rfl⟩⟩; refine ⟨_, rfl, ?_⟩) | ((with_reducible refine gate_callee (f := 64) rfl ?_); refine gL (some 51) Try.func64 #[.slice A0_1 l0_1.length c0_1, .int .i64 0, .int .i64 600000] ?_; (with_reducible refine (impl_allWithin.calls kj1 _ _ l0_1 0 600000 true _ ?side1 ?side2 A17.out).mono ?_); (case side1 => exact cA (Kd.C_below HR0_1.out (bA HB.out))); (case side2 => exact HC0_1.out); rintro e w' ⟨rfl, ⟨nd, rfl⟩⟩; refine ⟨_, rfl, ?_⟩) | ((with_reducible refine gate_callee (f := 64) rfl ?_); refine gL (some 51) Try.func64 #[.slice A0_2 l0_2.length c0_2, .int .i64 0, .int .i64 600000] ?_; (with_reducible refine (impl_allWithin.calls kj1 _ _ l0_2 0 600000 true _ ?side1 ?side2 A19.out).mono ?_); (case side1 => exact cA (Kd.C_below HR0_2.out (bA HB.out))); (case side2 => exact HC0_2.out); rintro e w' ⟨rfl, ⟨nd, rfl⟩⟩; refine ⟨_, rfl, ?_⟩) | ((with_reducible refine gate_callee (f := 65) rfl ?_); refine gL (some 55) Try.func65 #[.agg #[.slice A0_0 l0_0.length c0_0, .slice A0_1 l0_1.length c0_1, .slice A0_2 l0_2.length c0_2, .slice A0_3 l0_3.length c0_3, .slice A0_4 l0_4.length c0_4, .int .i64 a0_5, .int .i64 a0_6, .int .i64 a0_7, .int .i64 a0_8]] ?_; (with_reducible refine (impl_chipsIn.calls kj1 _ _ l0_0 _ _ l0_1 _ _ l0_2 _ _ l0_3 _ _ l0_4 a0_5 a0_6 a0_7 a0_8 t218 _ ?side1 ?side2 ?side3 ?side4 ?side5 ?side6 ?side7 ?side8 ?side9 ?side10 A21.out).mono ?_); (case side1 => exact cA (Kd.C_below HR0_0.out (bA HB.out))); (case side2 => exact HC0_0.out); (case side3 => exact cA (Kd.C_below HR0_1.out (bA HB.out))); (case side4 => exact HC0_1.out); (case side5 => exact cA (Kd.C_below HR0_2.out (bA HB.out))); (case side6 => exact HC0_2.out); (case side7 => exact cA (Kd.C_below HR0_3.out (bA HB.out))); (case side8 => exact HC0_3.out); (case side9 => exact cA (Kd.C_below HR0_4.out (bA HB.out))); (case side10 => exact HC0_4.out); rintro e w39 ⟨rfl, hb⟩; refine ⟨_, rfl, ?_⟩; replace BK213 := Aside0.mk (blk_below (kA BK213.out) hb); replace HB := Aside0.mk (below_step (bA HB.out) hb); (try clear hb); obtain ⟨hcz40_0, hcz40_1, hcz40_2, hcz40_3, hcz40_4, hcz40_5, hcz40_6, hcz40_7, hcz40_8, hfz40_0, hfz40_1, hfz40_2, hfz40_3, hfz40_4, hfz40_5, hfz40_6, hfz40_7, hfz40_8⟩ := cz9 BK213.out) | (go_at_call 66; (with_reducible refine (slices_Contains_bool_bool.calls kj1 _ _ l0_3 false true _ ?side1 ?side2 A23.out).mono ?_); (case side1 => exact cA (Kd.C_below HR0_3.out HB.out)); (case side2 => exact HC0_3.out); rintro e w' ⟨rfl, ⟨nd, rfl⟩⟩) | (go_at_call 63; (with_reducible refine (impl_within.calls a0_5 0 (wrap64 ((l0_0.length : Int) - 1)) true _ A25.out).mono ?_); rintro e w' ⟨rfl, ⟨nd, rfl⟩⟩) | (go_at_call 63; (with_reducible refine (impl_within.calls a0_6 1 100000 false _ A27.out).mono ?_); rintro e w' ⟨rfl, ⟨nd, rfl⟩⟩)))
           go_ret
           exact ⟨by first | rfl | (simp [errW_none, errW_some] <;> rfl) | (simp [*, errW_none, errW_some] <;> rfl), bA HB.out⟩
         ·replace c26 := Bool.eq_false_iff.mpr c26
          subst c26
          rw [if_neg (show ¬ (false = true) by decide)] at H
          try dsimp only at H
          obtain rfl := Option.some.inj H
          obtain ⟨hcz41_0, hcz41_1, hcz41_2, hcz41_3, hcz41_4, hcz41_5, hcz41_6, hcz41_7, hcz41_8, hfz41_0, hfz41_1, hfz41_2, hfz41_3, hfz41_4, hfz41_5, hfz41_6, hfz41_7, hfz41_8⟩ := cz9 BK213.out
          go_wp2_with (first | ((with_reducible refine gate_callee (f := 64) rfl ?_); refine gL (some 51) Try.func64 #[.slice A0_0 l0_0.length c0_0, .int .i64 0, .int .i64 600000] ?_; (with_reducible refine (impl_allWithin.calls kj1 _ _ l0_0 0 600000 true _ ?side1 ?side2 A15.out).mono ?_); (case side1 => exact cA (Kd.C_below HR0_0.out HB.out)); (case side2 => exact HC0_0.out); rintro e w' ⟨rfl, ⟨nd, rfl⟩⟩; refine ⟨_, rfl, ?_⟩) | ((with_reducible refine gate_callee (f := 64) rfl ?_); refine gL (some 51) Try.func64 #[.slice A0_1 l0_1.length c0_1, .int .i64 0, .int .i64 600000] ?_; (with_reducible refine (impl_allWithin.calls kj1 _ _ l0_1 0 600000 true _ ?side1 ?side2 A17.out).mono ?_); (case side1 => exact cA (Kd.C_below HR0_1.out (bA HB.out))); (case side2 => exact HC0_1.out); rintro e w' ⟨rfl, ⟨nd, rfl⟩⟩; refine ⟨_, rfl, ?_⟩) | ((with_reducible refine gate_callee (f := 64) rfl ?_); refine gL (some 51) Try.func64 #[.slice A0_2 l0_2.length c0_2, .int .i64 0, .int .i64 600000] ?_; (with_reducible refine (impl_allWithin.calls kj1 _ _ l0_2 0 600000 true _ ?side1 ?side2 A19.out).mono ?_); (case side1 => exact cA (Kd.C_below HR0_2.out (bA HB.out))); (case side2 => exact HC0_2.out); rintro e w' ⟨rfl, ⟨nd, rfl⟩⟩; refine ⟨_, rfl, ?_⟩) | ((with_reducible refine gate_callee (f := 65) rfl ?_); refine gL (some 55) Try.func65 #[.agg #[.slice A0_0 l0_0.length c0_0, .slice A0_1 l0_1.length c0_1, .slice A0_2 l0_2.length c0_2, .slice A0_3 l0_3.length c0_3, .slice A0_4 l0_4.length c0_4, .int .i64 a0_5, .int .i64 a0_6, .int .i64 a0_7, .int .i64 a0_8]] ?_; (with_reducible refine (impl_chipsIn.calls kj1 _ _ l0_0 _ _ l0_1 _ _ l0_2 _ _ l0_3 _ _ l0_4 a0_5 a0_6 a0_7 a0_8 t218 _ ?side1 ?side2 ?side3 ?side4 ?side5 ?side6 ?side7 ?side8 ?side9 ?side10 A21.out).mono ?_); (case side1 => exact cA (Kd.C_below HR0_0.out (bA HB.out))); (case side2 => exact HC0_0.out); (case side3 => exact cA (Kd.C_below HR0_1.out (bA HB.out))); (case side4 => exact HC0_1.out); (case side5 => exact cA (Kd.C_below HR0_2.out (bA HB.out))); (case side6 => exact HC0_2.out); (case side7 => exact cA (Kd.C_below HR0_3.out (bA HB.out))); (case side8 => exact HC0_3.out); (case side9 => exact cA (Kd.C_below HR0_4.out (bA HB.out))); (case side10 => exact HC0_4.out); rintro e w42 ⟨rfl, hb⟩; refine ⟨_, rfl, ?_⟩; replace BK213 := Aside0.mk (blk_below (kA BK213.out) hb); replace HB := Aside0.mk (below_step (bA HB.out) hb); (try clear hb); obtain ⟨hcz43_0, hcz43_1, hcz43_2, hcz43_3, hcz43_4, hcz43_5, hcz43_6, hcz43_7, hcz43_8, hfz43_0, hfz43_1, hfz43_2, hfz43_3, hfz43_4, hfz43_5, hfz43_6, hfz43_7, hfz43_8⟩ := cz9 BK213.out) | (go_at_call 66; (with_reducible refine (slices_Contains_bool_bool.calls kj1 _ _ l0_3 false true _ ?side1 ?side2 A23.out).mono ?_); (case side1 => exact cA (Kd.C_below HR0_3.out HB.out)); (case side2 => exact HC0_3.out); rintro e w' ⟨rfl, ⟨nd, rfl⟩⟩) | (go_at_call 63; (with_reducible refine (impl_within.calls a0_5 0 (wrap64 ((l0_0.length : Int) - 1)) false _ A25.out).mono ?_); rintro e w' ⟨rfl, ⟨nd, rfl⟩⟩))
          refine wp_loop_rounds 4 ?_
          repeat (rw [rounds_succ]; go_wp2_with (first | ((with_reducible refine gate_callee (f := 64) rfl ?_); refine gL (some 51) Try.func64 #[.slice A0_0 l0_0.length c0_0, .int .i64 0, .int .i64 600000] ?_; (with_reducible refine (impl_allWithin.calls kj1 _ _ l0_0 0 600000 true _ ?side1 ?side2 A15.out).mono ?_); (case side1 => exact cA (Kd.C_below HR0_0.out HB.out)); (case side2 => exact HC0_0.out); rintro e w' ⟨rfl, ⟨nd, rfl⟩⟩; refine ⟨_, rfl, ?_⟩) | ((with_reducible refine gate_callee (f := 64) rfl ?_); refine gL (some 51) Try.func64 #[.slice A0_1 l0_1.length c0_1, .int .i64 0, .int .i64 600000] ?_; (with_reducible refine (impl_allWithin.calls kj1 _ _ l0_1 0 600000 true _ ?side1 ?side2 A17.out).mono ?_); (case side1 => exact cA (Kd.C_below HR0_1.out (bA HB.out))); (case side2 => exact HC0_1.out); rintro e w' ⟨rfl, ⟨nd, rfl⟩⟩; refine ⟨_, rfl, ?_⟩) | ((with_reducible refine gate_callee (f := 64) rfl ?_); refine gL (some 51) Try.func64 #[.slice A0_2 l0_2.length c0_2, .int .i64 0, .int .i64 600000] ?_; (with_reducible refine (impl_allWithin.calls kj1 _ _ l0_2 0 600000 true _ ?side1 ?side2 A19.out).mono ?_); (case side1 => exact cA (Kd.C_below HR0_2.out (bA HB.out))); (case side2 => exact HC0_2.out); rintro e w' ⟨rfl, ⟨nd, rfl⟩⟩; refine ⟨_, rfl, ?_⟩) | ((with_reducible refine gate_callee (f := 65) rfl ?_); refine gL (some 55) Try.func65 #[.agg #[.slice A0_0 l0_0.length c0_0, .slice A0_1 l0_1.length c0_1, .slice A0_2 l0_2.length c0_2, .slice A0_3 l0_3.length c0_3, .slice A0_4 l0_4.length c0_4, .int .i64 a0_5, .int .i64 a0_6, .int .i64 a0_7, .int .i64 a0_8]] ?_; (with_reducible refine (impl_chipsIn.calls kj1 _ _ l0_0 _ _ l0_1 _ _ l0_2 _ _ l0_3 _ _ l0_4 a0_5 a0_6 a0_7 a0_8 t218 _ ?side1 ?side2 ?side3 ?side4 ?side5 ?side6 ?side7 ?side8 ?side9 ?side10 A21.out).mono ?_); (case side1 => exact cA (Kd.C_below HR0_0.out (bA HB.out))); (case side2 => exact HC0_0.out); (case side3 => exact cA (Kd.C_below HR0_1.out (bA HB.out))); (case side4 => exact HC0_1.out); (case side5 => exact cA (Kd.C_below HR0_2.out (bA HB.out))); (case side6 => exact HC0_2.out); (case side7 => exact cA (Kd.C_below HR0_3.out (bA HB.out))); (case side8 => exact HC0_3.out); (case side9 => exact cA (Kd.C_below HR0_4.out (bA HB.out))); (case side10 => exact HC0_4.out); rintro e w42 ⟨rfl, hb⟩; refine ⟨_, rfl, ?_⟩; replace BK213 := Aside0.mk (blk_below (kA BK213.out) hb); replace HB := Aside0.mk (below_step (bA HB.out) hb); (try clear hb); obtain ⟨hcz43_0, hcz43_1, hcz43_2, hcz43_3, hcz43_4, hcz43_5, hcz43_6, hcz43_7, hcz43_8, hfz43_0, hfz43_1, hfz43_2, hfz43_3, hfz43_4, hfz43_5, hfz43_6, hfz43_7, hfz43_8⟩ := cz9 BK213.out) | (go_at_call 66; (with_reducible refine (slices_Contains_bool_bool.calls kj1 _ _ l0_3 false true _ ?side1 ?side2 A23.out).mono ?_); (case side1 => exact cA (Kd.C_below HR0_3.out HB.out)); (case side2 => exact HC0_3.out); rintro e w' ⟨rfl, ⟨nd, rfl⟩⟩) | (go_at_call 63; (with_reducible refine (impl_within.calls a0_5 0 (wrap64 ((l0_0.length : Int) - 1)) false _ A25.out).mono ?_); rintro e w' ⟨rfl, ⟨nd, rfl⟩⟩)))
          go_ret
          exact ⟨by first | rfl | (simp [errW_none, errW_some] <;> rfl) | (simp [*, errW_none, errW_some] <;> rfl), bA HB.out⟩
        ·replace c24 := Bool.eq_false_iff.mpr c24
         subst c24
         rw [if_neg (show ¬ (false = true) by decide)] at H
         try dsimp only at H
         obtain rfl := Option.some.inj H
         obtain ⟨hcz44_0, hcz44_1, hcz44_2, hcz44_3, hcz44_4, hcz44_5, hcz44_6, hcz44_7, hcz44_8, hfz44_0, hfz44_1, hfz44_2, hfz44_3, hfz44_4, hfz44_5, hfz44_6, hfz44_7, hfz44_8⟩ := cz9 BK213.out
         go_wp2_with (first | ((with_reducible refine gate_callee (f := 64) rfl ?_); refine gL (some 51) Try.func64 #[.slice A0_0 l0_0.length c0_0, .int .i64 0, .int .i64 600000] ?_; (with_reducible refine (impl_allWithin.calls kj1 _ _ l0_0 0 600000 true _ ?side1 ?side2 A15.out).mono ?_); (case side1 => exact cA (Kd.C_below HR0_0.out HB.out)); (case side2 => exact HC0_0.out); rintro e w' ⟨rfl, ⟨nd, rfl⟩⟩; refine ⟨_, rfl, ?_⟩) | ((with_reducible refine gate_callee (f := 64) rfl ?_); refine gL (some 51) Try.func64 #[.slice A0_1 l0_1.length c0_1, .int .i64 0, .int .i64 600000] ?_; (with_reducible refine (impl_allWithin.calls kj1 _ _ l0_1 0 600000 true _ ?side1 ?side2 A17.out).mono ?_); (case side1 => exact cA (Kd.C_below HR0_1.out (bA HB.out))); (case side2 => exact HC0_1.out); rintro e w' ⟨rfl, ⟨nd, rfl⟩⟩; refine ⟨_, rfl, ?_⟩) | ((with_reducible refine gate_callee (f := 64) rfl ?_); refine gL (some 51) Try.func64 #[.slice A0_2 l0_2.length c0_2, .int .i64 0, .int .i64 600000] ?_; (with_reducible refine (impl_allWithin.calls kj1 _ _ l0_2 0 600000 true _ ?side1 ?side2 A19.out).mono ?_); (case side1 => exact cA (Kd.C_below HR0_2.out (bA HB.out))); (case side2 => exact HC0_2.out); rintro e w' ⟨rfl, ⟨nd, rfl⟩⟩; refine ⟨_, rfl, ?_⟩) | ((with_reducible refine gate_callee (f := 65) rfl ?_); refine gL (some 55) Try.func65 #[.agg #[.slice A0_0 l0_0.length c0_0, .slice A0_1 l0_1.length c0_1, .slice A0_2 l0_2.length c0_2, .slice A0_3 l0_3.length c0_3, .slice A0_4 l0_4.length c0_4, .int .i64 a0_5, .int .i64 a0_6, .int .i64 a0_7, .int .i64 a0_8]] ?_; (with_reducible refine (impl_chipsIn.calls kj1 _ _ l0_0 _ _ l0_1 _ _ l0_2 _ _ l0_3 _ _ l0_4 a0_5 a0_6 a0_7 a0_8 t218 _ ?side1 ?side2 ?side3 ?side4 ?side5 ?side6 ?side7 ?side8 ?side9 ?side10 A21.out).mono ?_); (case side1 => exact cA (Kd.C_below HR0_0.out (bA HB.out))); (case side2 => exact HC0_0.out); (case side3 => exact cA (Kd.C_below HR0_1.out (bA HB.out))); (case side4 => exact HC0_1.out); (case side5 => exact cA (Kd.C_below HR0_2.out (bA HB.out))); (case side6 => exact HC0_2.out); (case side7 => exact cA (Kd.C_below HR0_3.out (bA HB.out))); (case side8 => exact HC0_3.out); (case side9 => exact cA (Kd.C_below HR0_4.out (bA HB.out))); (case side10 => exact HC0_4.out); rintro e w45 ⟨rfl, hb⟩; refine ⟨_, rfl, ?_⟩; replace BK213 := Aside0.mk (blk_below (kA BK213.out) hb); replace HB := Aside0.mk (below_step (bA HB.out) hb); (try clear hb); obtain ⟨hcz46_0, hcz46_1, hcz46_2, hcz46_3, hcz46_4, hcz46_5, hcz46_6, hcz46_7, hcz46_8, hfz46_0, hfz46_1, hfz46_2, hfz46_3, hfz46_4, hfz46_5, hfz46_6, hfz46_7, hfz46_8⟩ := cz9 BK213.out) | (go_at_call 66; (with_reducible refine (slices_Contains_bool_bool.calls kj1 _ _ l0_3 false false _ ?side1 ?side2 A23.out).mono ?_); (case side1 => exact cA (Kd.C_below HR0_3.out HB.out)); (case side2 => exact HC0_3.out); rintro e w' ⟨rfl, ⟨nd, rfl⟩⟩))
         refine wp_loop_rounds 4 ?_
         repeat (rw [rounds_succ]; go_wp2_with (first | ((with_reducible refine gate_callee (f := 64) rfl ?_); refine gL (some 51) Try.func64 #[.slice A0_0 l0_0.length c0_0, .int .i64 0, .int .i64 600000] ?_; (with_reducible refine (impl_allWithin.calls kj1 _ _ l0_0 0 600000 true _ ?side1 ?side2 A15.out).mono ?_); (case side1 => exact cA (Kd.C_below HR0_0.out HB.out)); (case side2 => exact HC0_0.out); rintro e w' ⟨rfl, ⟨nd, rfl⟩⟩; refine ⟨_, rfl, ?_⟩) | ((with_reducible refine gate_callee (f := 64) rfl ?_); refine gL (some 51) Try.func64 #[.slice A0_1 l0_1.length c0_1, .int .i64 0, .int .i64 600000] ?_; (with_reducible refine (impl_allWithin.calls kj1 _ _ l0_1 0 600000 true _ ?side1 ?side2 A17.out).mono ?_); (case side1 => exact cA (Kd.C_below HR0_1.out (bA HB.out))); (case side2 => exact HC0_1.out); rintro e w' ⟨rfl, ⟨nd, rfl⟩⟩; refine ⟨_, rfl, ?_⟩) | ((with_reducible refine gate_callee (f := 64) rfl ?_); refine gL (some 51) Try.func64 #[.slice A0_2 l0_2.length c0_2, .int .i64 0, .int .i64 600000] ?_; (with_reducible refine (impl_allWithin.calls kj1 _ _ l0_2 0 600000 true _ ?side1 ?side2 A19.out).mono ?_); (case side1 => exact cA (Kd.C_below HR0_2.out (bA HB.out))); (case side2 => exact HC0_2.out); rintro e w' ⟨rfl, ⟨nd, rfl⟩⟩; refine ⟨_, rfl, ?_⟩) | ((with_reducible refine gate_callee (f := 65) rfl ?_); refine gL (some 55) Try.func65 #[.agg #[.slice A0_0 l0_0.length c0_0, .slice A0_1 l0_1.length c0_1, .slice A0_2 l0_2.length c0_2, .slice A0_3 l0_3.length c0_3, .slice A0_4 l0_4.length c0_4, .int .i64 a0_5, .int .i64 a0_6, .int .i64 a0_7, .int .i64 a0_8]] ?_; (with_reducible refine (impl_chipsIn.calls kj1 _ _ l0_0 _ _ l0_1 _ _ l0_2 _ _ l0_3 _ _ l0_4 a0_5 a0_6 a0_7 a0_8 t218 _ ?side1 ?side2 ?side3 ?side4 ?side5 ?side6 ?side7 ?side8 ?side9 ?side10 A21.out).mono ?_); (case side1 => exact cA (Kd.C_below HR0_0.out (bA HB.out))); (case side2 => exact HC0_0.out); (case side3 => exact cA (Kd.C_below HR0_1.out (bA HB.out))); (case side4 => exact HC0_1.out); (case side5 => exact cA (Kd.C_below HR0_2.out (bA HB.out))); (case side6 => exact HC0_2.out); (case side7 => exact cA (Kd.C_below HR0_3.out (bA HB.out))); (case side8 => exact HC0_3.out); (case side9 => exact cA (Kd.C_below HR0_4.out (bA HB.out))); (case side10 => exact HC0_4.out); rintro e w45 ⟨rfl, hb⟩; refine ⟨_, rfl, ?_⟩; replace BK213 := Aside0.mk (blk_below (kA BK213.out) hb); replace HB := Aside0.mk (below_step (bA HB.out) hb); (try clear hb); obtain ⟨hcz46_0, hcz46_1, hcz46_2, hcz46_3, hcz46_4, hcz46_5, hcz46_6, hcz46_7, hcz46_8, hfz46_0, hfz46_1, hfz46_2, hfz46_3, hfz46_4, hfz46_5, hfz46_6, hfz46_7, hfz46_8⟩ := cz9 BK213.out) | (go_at_call 66; (with_reducible refine (slices_Contains_bool_bool.calls kj1 _ _ l0_3 false false _ ?side1 ?side2 A23.out).mono ?_); (case side1 => exact cA (Kd.C_below HR0_3.out HB.out)); (case side2 => exact HC0_3.out); rintro e w' ⟨rfl, ⟨nd, rfl⟩⟩)))
         go_ret
         exact ⟨by first | rfl | (simp [errW_none, errW_some] <;> rfl) | (simp [*, errW_none, errW_some] <;> rfl), bA HB.out⟩
       ·rw [if_neg c22] at H
        have c22b0 : decide (t218 ≤ 600000) = false := decide_eq_false c22
        clear c22
        obtain rfl := Option.some.inj H
        obtain ⟨hcz47_0, hcz47_1, hcz47_2, hcz47_3, hcz47_4, hcz47_5, hcz47_6, hcz47_7, hcz47_8, hfz47_0, hfz47_1, hfz47_2, hfz47_3, hfz47_4, hfz47_5, hfz47_6, hfz47_7, hfz47_8⟩ := cz9 BK213.out
        go_wp2_with (first | ((with_reducible refine gate_callee (f := 64) rfl ?_); refine gL (some 51) Try.func64 #[.slice A0_0 l0_0.length c0_0, .int .i64 0, .int .i64 600000] ?_; (with_reducible refine (impl_allWithin.calls kj1 _ _ l0_0 0 600000 true _ ?side1 ?side2 A15.out).mono ?_); (case side1 => exact cA (Kd.C_below HR0_0.out HB.out)); (case side2 => exact HC0_0.out); rintro e w' ⟨rfl, ⟨nd, rfl⟩⟩; refine ⟨_, rfl, ?_⟩) | ((with_reducible refine gate_callee (f := 64) rfl ?_); refine gL (some 51) Try.func64 #[.slice A0_1 l0_1.length c0_1, .int .i64 0, .int .i64 600000] ?_; (with_reducible refine (impl_allWithin.calls kj1 _ _ l0_1 0 600000 true _ ?side1 ?side2 A17.out).mono ?_); (case side1 => exact cA (Kd.C_below HR0_1.out (bA HB.out))); (case side2 => exact HC0_1.out); rintro e w' ⟨rfl, ⟨nd, rfl⟩⟩; refine ⟨_, rfl, ?_⟩) | ((with_reducible refine gate_callee (f := 64) rfl ?_); refine gL (some 51) Try.func64 #[.slice A0_2 l0_2.length c0_2, .int .i64 0, .int .i64 600000] ?_; (with_reducible refine (impl_allWithin.calls kj1 _ _ l0_2 0 600000 true _ ?side1 ?side2 A19.out).mono ?_); (case side1 => exact cA (Kd.C_below HR0_2.out (bA HB.out))); (case side2 => exact HC0_2.out); rintro e w' ⟨rfl, ⟨nd, rfl⟩⟩; refine ⟨_, rfl, ?_⟩) | ((with_reducible refine gate_callee (f := 65) rfl ?_); refine gL (some 55) Try.func65 #[.agg #[.slice A0_0 l0_0.length c0_0, .slice A0_1 l0_1.length c0_1, .slice A0_2 l0_2.length c0_2, .slice A0_3 l0_3.length c0_3, .slice A0_4 l0_4.length c0_4, .int .i64 a0_5, .int .i64 a0_6, .int .i64 a0_7, .int .i64 a0_8]] ?_; (with_reducible refine (impl_chipsIn.calls kj1 _ _ l0_0 _ _ l0_1 _ _ l0_2 _ _ l0_3 _ _ l0_4 a0_5 a0_6 a0_7 a0_8 t218 _ ?side1 ?side2 ?side3 ?side4 ?side5 ?side6 ?side7 ?side8 ?side9 ?side10 A21.out).mono ?_); (case side1 => exact cA (Kd.C_below HR0_0.out (bA HB.out))); (case side2 => exact HC0_0.out); (case side3 => exact cA (Kd.C_below HR0_1.out (bA HB.out))); (case side4 => exact HC0_1.out); (case side5 => exact cA (Kd.C_below HR0_2.out (bA HB.out))); (case side6 => exact HC0_2.out); (case side7 => exact cA (Kd.C_below HR0_3.out (bA HB.out))); (case side8 => exact HC0_3.out); (case side9 => exact cA (Kd.C_below HR0_4.out (bA HB.out))); (case side10 => exact HC0_4.out); rintro e w48 ⟨rfl, hb⟩; refine ⟨_, rfl, ?_⟩; replace BK213 := Aside0.mk (blk_below (kA BK213.out) hb); replace HB := Aside0.mk (below_step (bA HB.out) hb); (try clear hb)))
        refine wp_loop_rounds 4 ?_
        repeat (rw [rounds_succ]; go_wp2_with (first | ((with_reducible refine gate_callee (f := 64) rfl ?_); refine gL (some 51) Try.func64 #[.slice A0_0 l0_0.length c0_0, .int .i64 0, .int .i64 600000] ?_; (with_reducible refine (impl_allWithin.calls kj1 _ _ l0_0 0 600000 true _ ?side1 ?side2 A15.out).mono ?_); (case side1 => exact cA (Kd.C_below HR0_0.out HB.out)); (case side2 => exact HC0_0.out); rintro e w' ⟨rfl, ⟨nd, rfl⟩⟩; refine ⟨_, rfl, ?_⟩) | ((with_reducible refine gate_callee (f := 64) rfl ?_); refine gL (some 51) Try.func64 #[.slice A0_1 l0_1.length c0_1, .int .i64 0, .int .i64 600000] ?_; (with_reducible refine (impl_allWithin.calls kj1 _ _ l0_1 0 600000 true _ ?side1 ?side2 A17.out).mono ?_); (case side1 => exact cA (Kd.C_below HR0_1.out (bA HB.out))); (case side2 => exact HC0_1.out); rintro e w' ⟨rfl, ⟨nd, rfl⟩⟩; refine ⟨_, rfl, ?_⟩) | ((with_reducible refine gate_callee (f := 64) rfl ?_); refine gL (some 51) Try.func64 #[.slice A0_2 l0_2.length c0_2, .int .i64 0, .int .i64 600000] ?_; (with_reducible refine (impl_allWithin.calls kj1 _ _ l0_2 0 600000 true _ ?side1 ?side2 A19.out).mono ?_); (case side1 => exact cA (Kd.C_below HR0_2.out (bA HB.out))); (case side2 => exact HC0_2.out); rintro e w' ⟨rfl, ⟨nd, rfl⟩⟩; refine ⟨_, rfl, ?_⟩) | ((with_reducible refine gate_callee (f := 65) rfl ?_); refine gL (some 55) Try.func65 #[.agg #[.slice A0_0 l0_0.length c0_0, .slice A0_1 l0_1.length c0_1, .slice A0_2 l0_2.length c0_2, .slice A0_3 l0_3.length c0_3, .slice A0_4 l0_4.length c0_4, .int .i64 a0_5, .int .i64 a0_6, .int .i64 a0_7, .int .i64 a0_8]] ?_; (with_reducible refine (impl_chipsIn.calls kj1 _ _ l0_0 _ _ l0_1 _ _ l0_2 _ _ l0_3 _ _ l0_4 a0_5 a0_6 a0_7 a0_8 t218 _ ?side1 ?side2 ?side3 ?side4 ?side5 ?side6 ?side7 ?side8 ?side9 ?side10 A21.out).mono ?_); (case side1 => exact cA (Kd.C_below HR0_0.out (bA HB.out))); (case side2 => exact HC0_0.out); (case side3 => exact cA (Kd.C_below HR0_1.out (bA HB.out))); (case side4 => exact HC0_1.out); (case side5 => exact cA (Kd.C_below HR0_2.out (bA HB.out))); (case side6 => exact HC0_2.out); (case side7 => exact cA (Kd.C_below HR0_3.out (bA HB.out))); (case side8 => exact HC0_3.out); (case side9 => exact cA (Kd.C_below HR0_4.out (bA HB.out))); (case side10 => exact HC0_4.out); rintro e w48 ⟨rfl, hb⟩; refine ⟨_, rfl, ?_⟩; replace BK213 := Aside0.mk (blk_below (kA BK213.out) hb); replace HB := Aside0.mk (below_step (bA HB.out) hb); (try clear hb))))
        go_ret
        exact ⟨by first | rfl | (simp [errW_none, errW_some] <;> rfl) | (simp [*, errW_none, errW_some] <;> rfl), bA HB.out⟩
      ·replace c20 := Bool.eq_false_iff.mpr c20
       subst c20
       rw [if_neg (show ¬ (false = true) by decide)] at H
       try dsimp only at H
       obtain rfl := Option.some.inj H
       obtain ⟨hcz49_0, hcz49_1, hcz49_2, hcz49_3, hcz49_4, hcz49_5, hcz49_6, hcz49_7, hcz49_8, hfz49_0, hfz49_1, hfz49_2, hfz49_3, hfz49_4, hfz49_5, hfz49_6, hfz49_7, hfz49_8⟩ := cz9 BK213.out
       go_wp2_with (first | ((with_reducible refine gate_callee (f := 64) rfl ?_); refine gL (some 51) Try.func64 #[.slice A0_0 l0_0.length c0_0, .int .i64 0, .int .i64 600000] ?_; (with_reducible refine (impl_allWithin.calls kj1 _ _ l0_0 0 600000 true _ ?side1 ?side2 A15.out).mono ?_); (case side1 => exact cA (Kd.C_below HR0_0.out HB.out)); (case side2 => exact HC0_0.out); rintro e w' ⟨rfl, ⟨nd, rfl⟩⟩; refine ⟨_, rfl, ?_⟩) | ((with_reducible refine gate_callee (f := 64) rfl ?_); refine gL (some 51) Try.func64 #[.slice A0_1 l0_1.length c0_1, .int .i64 0, .int .i64 600000] ?_; (with_reducible refine (impl_allWithin.calls kj1 _ _ l0_1 0 600000 true _ ?side1 ?side2 A17.out).mono ?_); (case side1 => exact cA (Kd.C_below HR0_1.out (bA HB.out))); (case side2 => exact HC0_1.out); rintro e w' ⟨rfl, ⟨nd, rfl⟩⟩; refine ⟨_, rfl, ?_⟩) | ((with_reducible refine gate_callee (f := 64) rfl ?_); refine gL (some 51) Try.func64 #[.slice A0_2 l0_2.length c0_2, .int .i64 0, .int .i64 600000] ?_; (with_reducible refine (impl_allWithin.calls kj1 _ _ l0_2 0 600000 false _ ?side1 ?side2 A19.out).mono ?_); (case side1 => exact cA (Kd.C_below HR0_2.out (bA HB.out))); (case side2 => exact HC0_2.out); rintro e w' ⟨rfl, ⟨nd, rfl⟩⟩; refine ⟨_, rfl, ?_⟩))
       refine wp_loop_rounds 4 ?_
       repeat (rw [rounds_succ]; go_wp2_with (first | ((with_reducible refine gate_callee (f := 64) rfl ?_); refine gL (some 51) Try.func64 #[.slice A0_0 l0_0.length c0_0, .int .i64 0, .int .i64 600000] ?_; (with_reducible refine (impl_allWithin.calls kj1 _ _ l0_0 0 600000 true _ ?side1 ?side2 A15.out).mono ?_); (case side1 => exact cA (Kd.C_below HR0_0.out HB.out)); (case side2 => exact HC0_0.out); rintro e w' ⟨rfl, ⟨nd, rfl⟩⟩; refine ⟨_, rfl, ?_⟩) | ((with_reducible refine gate_callee (f := 64) rfl ?_); refine gL (some 51) Try.func64 #[.slice A0_1 l0_1.length c0_1, .int .i64 0, .int .i64 600000] ?_; (with_reducible refine (impl_allWithin.calls kj1 _ _ l0_1 0 600000 true _ ?side1 ?side2 A17.out).mono ?_); (case side1 => exact cA (Kd.C_below HR0_1.out (bA HB.out))); (case side2 => exact HC0_1.out); rintro e w' ⟨rfl, ⟨nd, rfl⟩⟩; refine ⟨_, rfl, ?_⟩) | ((with_reducible refine gate_callee (f := 64) rfl ?_); refine gL (some 51) Try.func64 #[.slice A0_2 l0_2.length c0_2, .int .i64 0, .int .i64 600000] ?_; (with_reducible refine (impl_allWithin.calls kj1 _ _ l0_2 0 600000 false _ ?side1 ?side2 A19.out).mono ?_); (case side1 => exact cA (Kd.C_below HR0_2.out (bA HB.out))); (case side2 => exact HC0_2.out); rintro e w' ⟨rfl, ⟨nd, rfl⟩⟩; refine ⟨_, rfl, ?_⟩)))
       go_ret
       exact ⟨by first | rfl | (simp [errW_none, errW_some] <;> rfl) | (simp [*, errW_none, errW_some] <;> rfl), bA HB.out⟩
     ·replace c18 := Bool.eq_false_iff.mpr c18
      subst c18
      rw [if_neg (show ¬ (false = true) by decide)] at H
      try dsimp only at H
      obtain rfl := Option.some.inj H
      obtain ⟨hcz50_0, hcz50_1, hcz50_2, hcz50_3, hcz50_4, hcz50_5, hcz50_6, hcz50_7, hcz50_8, hfz50_0, hfz50_1, hfz50_2, hfz50_3, hfz50_4, hfz50_5, hfz50_6, hfz50_7, hfz50_8⟩ := cz9 BK213.out
      go_wp2_with (first | ((with_reducible refine gate_callee (f := 64) rfl ?_); refine gL (some 51) Try.func64 #[.slice A0_0 l0_0.length c0_0, .int .i64 0, .int .i64 600000] ?_; (with_reducible refine (impl_allWithin.calls kj1 _ _ l0_0 0 600000 true _ ?side1 ?side2 A15.out).mono ?_); (case side1 => exact cA (Kd.C_below HR0_0.out HB.out)); (case side2 => exact HC0_0.out); rintro e w' ⟨rfl, ⟨nd, rfl⟩⟩; refine ⟨_, rfl, ?_⟩) | ((with_reducible refine gate_callee (f := 64) rfl ?_); refine gL (some 51) Try.func64 #[.slice A0_1 l0_1.length c0_1, .int .i64 0, .int .i64 600000] ?_; (with_reducible refine (impl_allWithin.calls kj1 _ _ l0_1 0 600000 false _ ?side1 ?side2 A17.out).mono ?_); (case side1 => exact cA (Kd.C_below HR0_1.out (bA HB.out))); (case side2 => exact HC0_1.out); rintro e w' ⟨rfl, ⟨nd, rfl⟩⟩; refine ⟨_, rfl, ?_⟩))
      refine wp_loop_rounds 4 ?_
      repeat (rw [rounds_succ]; go_wp2_with (first | ((with_reducible refine gate_callee (f := 64) rfl ?_); refine gL (some 51) Try.func64 #[.slice A0_0 l0_0.length c0_0, .int .i64 0, .int .i64 600000] ?_; (with_reducible refine (impl_allWithin.calls kj1 _ _ l0_0 0 600000 true _ ?side1 ?side2 A15.out).mono ?_); (case side1 => exact cA (Kd.C_below HR0_0.out HB.out)); (case side2 => exact HC0_0.out); rintro e w' ⟨rfl, ⟨nd, rfl⟩⟩; refine ⟨_, rfl, ?_⟩) | ((with_reducible refine gate_callee (f := 64) rfl ?_); refine gL (some 51) Try.func64 #[.slice A0_1 l0_1.length c0_1, .int .i64 0, .int .i64 600000] ?_; (with_reducible refine (impl_allWithin.calls kj1 _ _ l0_1 0 600000 false _ ?side1 ?side2 A17.out).mono ?_); (case side1 => exact cA (Kd.C_below HR0_1.out (bA HB.out))); (case side2 => exact HC0_1.out); rintro e w' ⟨rfl, ⟨nd, rfl⟩⟩; refine ⟨_, rfl, ?_⟩)))
      go_ret
      exact ⟨by first | rfl | (simp [errW_none, errW_some] <;> rfl) | (simp [*, errW_none, errW_some] <;> rfl), bA HB.out⟩
    ·replace c16 := Bool.eq_false_iff.mpr c16
     subst c16
     rw [if_neg (show ¬ (false = true) by decide)] at H
     try dsimp only at H
     obtain rfl := Option.some.inj H
     obtain ⟨hcz51_0, hcz51_1, hcz51_2, hcz51_3, hcz51_4, hcz51_5, hcz51_6, hcz51_7, hcz51_8, hfz51_0, hfz51_1, hfz51_2, hfz51_3, hfz51_4, hfz51_5, hfz51_6, hfz51_7, hfz51_8⟩ := cz9 BK213.out
     go_wp2_with (first | ((with_reducible refine gate_callee (f := 64) rfl ?_); refine gL (some 51) Try.func64 #[.slice A0_0 l0_0.length c0_0, .int .i64 0, .int .i64 600000] ?_; (with_reducible refine (impl_allWithin.calls kj1 _ _ l0_0 0 600000 false _ ?side1 ?side2 A15.out).mono ?_); (case side1 => exact cA (Kd.C_below HR0_0.out HB.out)); (case side2 => exact HC0_0.out); rintro e w' ⟨rfl, ⟨nd, rfl⟩⟩; refine ⟨_, rfl, ?_⟩))
     refine wp_loop_rounds 4 ?_
     repeat (rw [rounds_succ]; go_wp2_with (first | ((with_reducible refine gate_callee (f := 64) rfl ?_); refine gL (some 51) Try.func64 #[.slice A0_0 l0_0.length c0_0, .int .i64 0, .int .i64 600000] ?_; (with_reducible refine (impl_allWithin.calls kj1 _ _ l0_0 0 600000 false _ ?side1 ?side2 A15.out).mono ?_); (case side1 => exact cA (Kd.C_below HR0_0.out HB.out)); (case side2 => exact HC0_0.out); rintro e w' ⟨rfl, ⟨nd, rfl⟩⟩; refine ⟨_, rfl, ?_⟩)))
     go_ret
     exact ⟨by first | rfl | (simp [errW_none, errW_some] <;> rfl) | (simp [*, errW_none, errW_some] <;> rfl), bA HB.out⟩
def impl_canAct.f (l0_0 : List Int) (l0_1 : List Int) (l0_2 : List Int) (l0_3 : List Bool) (l0_4 : List Bool) (a0_5 : Int) (a0_6 : Int) (a0_7 : Int) (a0_8 : Int) (a1 : Int) : Option (Bool) := if 0 ≤ a1 then (if a1 < (l0_3.length : Int) then (if rdOf false l0_3 a1 = true then (some false) else (if a1 < (l0_0.length : Int) then (some (decide ((rd l0_0 a1) > 0))) else (none))) else (none)) else (none)
set_option maxHeartbeats 8000000 in
set_option maxRecDepth 100000 in
theorem impl_canAct.calls (A0_0 : Option Addr) (c0_0 : Nat) (l0_0 : List Int) (A0_1 : Option Addr) (c0_1 : Nat) (l0_1 : List Int) (A0_2 : Option Addr) (c0_2 : Nat) (l0_2 : List Int) (A0_3 : Option Addr) (c0_3 : Nat) (l0_3 : List Bool) (A0_4 : Option Addr) (c0_4 : Nat) (l0_4 : List Bool) (a0_5 : Int) (a0_6 : Int) (a0_7 : Int) (a0_8 : Int) (a1 : Int) (r : Bool) (w : World) (hr0_0 : Kd.C (Kd.int .i64) w A0_0 l0_0.length l0_0) (hc0_0 : l0_0.length ≤ c0_0) (hr0_1 : Kd.C (Kd.int .i64) w A0_1 l0_1.length l0_1) (hc0_1 : l0_1.length ≤ c0_1) (hr0_2 : Kd.C (Kd.int .i64) w A0_2 l0_2.length l0_2) (hc0_2 : l0_2.length ≤ c0_2) (hr0_3 : Kd.C Kd.bool w A0_3 l0_3.length l0_3) (hc0_3 : l0_3.length ≤ c0_3) (hr0_4 : Kd.C Kd.bool w A0_4 l0_4.length l0_4) (hc0_4 : l0_4.length ≤ c0_4) (h : impl_canAct.f l0_0 l0_1 l0_2 l0_3 l0_4 a0_5 a0_6 a0_7 a0_8 a1 = some r) :
  Calls Try.prog 77 #[.agg #[.slice A0_0 l0_0.length c0_0, .slice A0_1 l0_1.length c0_1, .slice A0_2 l0_2.length c0_2, .slice A0_3 l0_3.length c0_3, .slice A0_4 l0_4.length c0_4, .int .i64 a0_5, .int .i64 a0_6, .int .i64 a0_7, .int .i64 a0_8], .int .i64 a1] w fun e w' => e = .returned (.bool r) ∧ Below w.heap.size w w' := by
 have hu28 := Try.underlying28
 have HR0_0 := Aside0.mk hr0_0
 have HC0_0 := Aside0.mk hc0_0
 clear hr0_0 hc0_0
 have HR0_1 := Aside0.mk hr0_1
 have HC0_1 := Aside0.mk hc0_1
 clear hr0_1 hc0_1
 have HR0_2 := Aside0.mk hr0_2
 have HC0_2 := Aside0.mk hc0_2
 clear hr0_2 hc0_2
 have HR0_3 := Aside0.mk hr0_3
 have HC0_3 := Aside0.mk hc0_3
 clear hr0_3 hc0_3
 have HR0_4 := Aside0.mk hr0_4
 have HC0_4 := Aside0.mk hc0_4
 clear hr0_4 hc0_4
 have HB := Aside0.mk (Below.refl w.heap.size w)
 have H : (if 0 ≤ a1 then (if a1 < (l0_3.length : Int) then (if rdOf false l0_3 a1 = true then (some false) else (if a1 < (l0_0.length : Int) then (some (decide ((rd l0_0 a1) > 0))) else (none))) else (none)) else (none)) = some r := h
 clear h
 by_cases c3 : 0 ≤ a1
 ·rw [if_pos c3] at H
  have c3b0 : decide (0 ≤ a1) = true := decide_eq_true c3
  clear c3
  by_cases c4 : a1 < (l0_3.length : Int)
  ·rw [if_pos c4] at H
   have c4b0 : decide (a1 < (l0_3.length : Int)) = true := decide_eq_true c4
   clear c4
   obtain ⟨bq5, hbq5⟩ : ∃ b_ : Bool, b_ = (rdOf false l0_3 a1) := ⟨_, rfl⟩
   replace H : (if bq5 = true then (some false) else (if a1 < (l0_0.length : Int) then (some (decide ((rd l0_0 a1) > 0))) else (none))) = some r := by rw [← hbq5] at H; exact H
   have Nbq5 := Aside0.mk hbq5
   clear hbq5
   by_cases c6 : bq5 = true
   ·subst c6
    rw [if_pos rfl] at H
    try dsimp only at H
    obtain rfl := Option.some.inj H
    go_enter Try.func77, Try.ntmps77
    go_wp2_with (first | ((with_reducible refine gate_dst (N := 2) rfl ?_); refine bE 2 #[.slice A0_0 l0_0.length c0_0, .slice A0_1 l0_1.length c0_1, .slice A0_2 l0_2.length c0_2, .slice A0_3 l0_3.length c0_3, .slice A0_4 l0_4.length c0_4, .int .i64 a0_5, .int .i64 a0_6, .int .i64 a0_7, .int .i64 a0_8] 28 ?_; intro gb224 hg w7 hbox hb; have BK224 := Aside0.mk (hbox); have GW224 := Aside0.mk (gE hg (bA HB.out)); have GE224 := Aside0.mk (gE hg (bA HB.out)); replace HB := Aside0.mk (below_step (bA HB.out) hb); clear hb hbox hg; obtain ⟨hcz8_0, hcz8_1, hcz8_2, hcz8_3, hcz8_4, hcz8_5, hcz8_6, hcz8_7, hcz8_8, hfz8_0, hfz8_1, hfz8_2, hfz8_3, hfz8_4, hfz8_5, hfz8_6, hfz8_7, hfz8_8⟩ := cz9 BK224.out; have p225 : 0 ≤ (a1 : Int) := of_decide_eq_true (by first | (with_reducible assumption) | assumption); have q225 : a1 < (l0_3.length : Int) := of_decide_eq_true (by first | (with_reducible assumption) | assumption); obtain ⟨ad225, e225, hx225_0⟩ := Kd.at_bool HR0_3.out a1 p225 q225; (try rw [← Nbq5.out] at hx225_0); cases e225; replace hx225_0 := (HB.out.cell (World.block_lt_of_cell? w _ hx225_0)).trans hx225_0; replace p225 := eq_true p225; replace q225 := eq_true q225))
    go_ret
    exact ⟨by first | rfl | (simp [errW_none, errW_some] <;> rfl) | (simp [*, errW_none, errW_some] <;> rfl), bA HB.out⟩
   ·replace c6 := Bool.eq_false_iff.mpr c6
    subst c6
    rw [if_neg (show ¬ (false = true) by decide)] at H
    try dsimp only at H
    by_cases c9 : a1 < (l0_0.length : Int)
    ·rw [if_pos c9] at H
     have c9b0 : decide (a1 < (l0_0.length : Int)) = true := decide_eq_true c9
     clear c9
     obtain rfl := Option.some.inj H
     go_enter Try.func77, Try.ntmps77
     go_wp2_with (first | ((with_reducible refine gate_dst (N := 2) rfl ?_); refine bE 2 #[.slice A0_0 l0_0.length c0_0, .slice A0_1 l0_1.length c0_1, .slice A0_2 l0_2.length c0_2, .slice A0_3 l0_3.length c0_3, .slice A0_4 l0_4.length c0_4, .int .i64 a0_5, .int .i64 a0_6, .int .i64 a0_7, .int .i64 a0_8] 28 ?_; intro gb224 hg w10 hbox hb; have BK224 := Aside0.mk (hbox); have GW224 := Aside0.mk (gE hg (bA HB.out)); have GE224 := Aside0.mk (gE hg (bA HB.out)); replace HB := Aside0.mk (below_step (bA HB.out) hb); clear hb hbox hg; obtain ⟨hcz11_0, hcz11_1, hcz11_2, hcz11_3, hcz11_4, hcz11_5, hcz11_6, hcz11_7, hcz11_8, hfz11_0, hfz11_1, hfz11_2, hfz11_3, hfz11_4, hfz11_5, hfz11_6, hfz11_7, hfz11_8⟩ := cz9 BK224.out; have p225 : 0 ≤ (a1 : Int) := of_decide_eq_true (by first | (with_reducible assumption) | assumption); have q225 : a1 < (l0_3.length : Int) := of_decide_eq_true (by first | (with_reducible assumption) | assumption); obtain ⟨ad225, e225, hx225_0⟩ := Kd.at_bool HR0_3.out a1 p225 q225; (try rw [← Nbq5.out] at hx225_0); cases e225; replace hx225_0 := (HB.out.cell (World.block_lt_of_cell? w _ hx225_0)).trans hx225_0; replace p225 := eq_true p225; replace q225 := eq_true q225; have p226 : 0 ≤ (a1 : Int) := of_decide_eq_true (by first | (with_reducible assumption) | assumption); have q226 : a1 < (l0_0.length : Int) := of_decide_eq_true (by first | (with_reducible assumption) | assumption); obtain ⟨ad226, e226, hx226_0⟩ := Kd.at_int HR0_0.out a1 p226 q226; cases e226; replace hx226_0 := (HB.out.cell (World.block_lt_of_cell? w _ hx226_0)).trans hx226_0; replace p226 := eq_true p226; replace q226 := eq_true q226))
     go_ret
     exact ⟨by first | rfl | (simp [errW_none, errW_some] <;> rfl) | (simp [*, errW_none, errW_some] <;> rfl), bA HB.out⟩
    ·rw [if_neg c9] at H
     exact absurd H (by simp)
  ·rw [if_neg c4] at H
   exact absurd H (by simp)
 ·rw [if_neg c3] at H
  exact absurd H (by simp)
def slices_Max_int64_int64.l0 : Nat → List Int → Int → Int → Option (Int)
 | 0, _, _, _ => none
 | k + 1, x0, x3, x4 => if x4 < (x0.length : Int) then (if 0 ≤ x4 then (slices_Max_int64_int64.l0 k x0 (mx x3 (rd x0 x4)) (wrap64 (x4 + 1))) else (none)) else (some x3)
def slices_Max_int64_int64.f (k : Nat) (l0 : List Int) : Option (Int) := if (l0.length : Int) < 1 then (none) else (if 0 < (l0.length : Int) then (slices_Max_int64_int64.l0 k l0 (rd l0 0) 1) else (none))
theorem slices_Max_int64_int64.mono_l : ∀ k, (∀ y0 y1 y2, LeO (slices_Max_int64_int64.l0 k y0 y1 y2) (slices_Max_int64_int64.l0 (k + 1) y0 y1 y2))
 | 0 => fun _ _ _ r h => by simp [slices_Max_int64_int64.l0] at h
 | k + 1 => by
  have ih0 := slices_Max_int64_int64.mono_l k
  ·intro y0 y1 y2
   unfold slices_Max_int64_int64.l0
   repeat' first
   | (with_reducible exact ih0 _ _ _)
   | (with_reducible exact LeO.refl _)
   | (with_reducible exact LeO.none _)
   | (with_reducible refine LeO.ite ?_ ?_)
   | (with_reducible refine LeO.bind ?_ (fun _ => ?_))
   | exact ih0 _ _ _
   | exact LeO.none _
   | refine LeO.ite ?_ ?_
   | refine LeO.bind ?_ (fun _ => ?_)
theorem slices_Max_int64_int64.mono : ∀ a0 k, LeO (slices_Max_int64_int64.f k a0) (slices_Max_int64_int64.f (k + 1) a0) := by
 intro a0 k
 have ih0 := slices_Max_int64_int64.mono_l k
 unfold slices_Max_int64_int64.f
 repeat' first
   | (with_reducible exact ih0 _ _ _)
   | (with_reducible exact LeO.refl _)
   | (with_reducible exact LeO.none _)
   | (with_reducible refine LeO.ite ?_ ?_)
   | (with_reducible refine LeO.bind ?_ (fun _ => ?_))
   | exact ih0 _ _ _
   | exact LeO.none _
   | refine LeO.ite ?_ ?_
   | refine LeO.bind ?_ (fun _ => ?_)
set_option maxHeartbeats 8000000 in
set_option maxRecDepth 100000 in
theorem slices_Max_int64_int64.calls (k : Nat) (A0 : Option Addr) (c0 : Nat) (l0 : List Int) (r : Int) (w : World) (hr0 : Kd.C (Kd.int .i64) w A0 l0.length l0) (hc0 : l0.length ≤ c0) (h : slices_Max_int64_int64.f k l0 = some r) :
  Calls Try.prog 98 #[.slice A0 l0.length c0] w fun e w' => e = .returned (.int .i64 r) ∧ Below w.heap.size w w' := by
 have HR0 := Aside0.mk hr0
 have HC0 := Aside0.mk hc0
 clear hr0 hc0
 have HB := Aside0.mk (Below.refl w.heap.size w)
 have H : (if (l0.length : Int) < 1 then (none) else (if 0 < (l0.length : Int) then (slices_Max_int64_int64.l0 k l0 (rd l0 0) 1) else (none))) = some r := h
 clear h
 by_cases c2 : (l0.length : Int) < 1
 ·rw [if_pos c2] at H
  exact absurd H (by simp)
 ·rw [if_neg c2] at H
  have c2b0 : decide ((l0.length : Int) < 1) = false := decide_eq_false c2
  have c2b1 : decide (l0.length < 1) = false := decide_eq_false (by omega)
  clear c2
  by_cases c3 : 0 < (l0.length : Int)
  ·rw [if_pos c3] at H
   have c3b0 : decide (0 < (l0.length : Int)) = true := decide_eq_true c3
   have c3b1 : decide (0 < l0.length) = true := decide_eq_true (by omega)
   clear c3
   have H' := Aside0.mk H
   clear H
   have p227 : 0 ≤ (0 : Int) := (by omega)
   have q227 : 0 < (l0.length : Int) := of_decide_eq_true (by first | (with_reducible assumption) | assumption)
   obtain ⟨ad227, e227, hx227_0⟩ := Kd.at_int HR0.out 0 p227 q227
   cases e227
   have qi227 : (0 < l0.length) = True := eq_true (by omega)
   (try rw [show ((0 : Int)).toNat = 0 from rfl] at hx227_0)
   (try rw [Addr.add_zero'] at hx227_0)
   replace p227 := eq_true p227
   replace q227 := eq_true q227
   go_enter Try.func98, Try.ntmps98
   go_wp2
   go_loopg [3, 4] k (fun kq v3 v4 w' => ∃ (x3_1 : Int) (x4_1 : Int), v3 = .int .i64 x3_1 ∧ v4 = .int .i64 x4_1 ∧ Aside0 (slices_Max_int64_int64.l0 kq l0 x3_1 x4_1 = some r) ∧ Aside0 (kq ≤ k) ∧ Aside0 (Below w.heap.size w w'))
   case atStart => exact ⟨(rd l0 0), (1), (by first | rfl | (simp; done) | (simp [*]; done)), (by first | rfl | (simp; done) | (simp [*]; done)), H', ⟨Nat.le_refl _⟩, ⟨bA HB.out⟩⟩
   case round =>
    clear H'
    try clear c2
    try clear c2b0
    try clear c2b1
    try clear p2
    try clear q2
    try clear hx2
    try clear qi2
    try clear c3
    try clear c3b0
    try clear c3b1
    try clear hx227_0
    try clear p227
    try clear q227
    obtain ⟨x3_1, x4_1, rfl, rfl, HA, HK1, HB⟩ := hrel
    cases gk with
    | zero => exact absurd HA.out (by simp [slices_Max_int64_int64.l0])
    | succ k1 =>
     have H := HA.out
     clear HA
     simp only [slices_Max_int64_int64.l0] at H
     by_cases c4 : x4_1 < (l0.length : Int)
     ·rw [if_pos c4] at H
      have c4b0 : decide (x4_1 < (l0.length : Int)) = true := decide_eq_true c4
      clear c4
      by_cases c5 : 0 ≤ x4_1
      ·rw [if_pos c5] at H
       have c5b0 : decide (0 ≤ x4_1) = true := decide_eq_true c5
       clear c5
       obtain ⟨ji6, hji6⟩ : ∃ j_ : Int, (mx x3_1 (rd l0 x4_1)) = j_ := ⟨_, rfl⟩
       replace H : (slices_Max_int64_int64.l0 k1 l0 ji6 (wrap64 (x4_1 + 1))) = some r := by first | (rw [hji6] at H; exact H) | (simp only [hji6] at H ⊢; exact H)
       have hji6_ : (if x3_1 < (rd l0 x4_1) then (rd l0 x4_1) else x3_1) = ji6 := hji6
       have H' := Aside0.mk H
       clear H
       have p228 : 0 ≤ (x4_1 : Int) := of_decide_eq_true (by first | (with_reducible assumption) | assumption)
       have q228 : x4_1 < (l0.length : Int) := of_decide_eq_true (by first | (with_reducible assumption) | assumption)
       obtain ⟨ad228, e228, hx228_0⟩ := Kd.at_int HR0.out x4_1 p228 q228
       obtain rfl : ad227 = ad228 := (by injection e228)
       replace hx228_0 := (HB.out.cell (World.block_lt_of_cell? w _ hx228_0)).trans hx228_0
       replace p228 := eq_true p228
       replace q228 := eq_true q228
       go_wp2
       go_roundg k1
       case measure => have := HK1.out; omega
       case rel => exact ⟨(ji6), (wrap64 (x4_1 + 1)), (by first | rfl | (simp; done) | (simp only [← hji6] <;> (first | rfl | simp)) | (simp [*]; done)), (by first | rfl | (simp; done) | (simp [*]; done)), H', ⟨by have := HK1.out; omega⟩, ⟨bA HB.out⟩⟩
      ·rw [if_neg c5] at H
       exact absurd H (by simp)
     ·rw [if_neg c4] at H
      have c4b0 : decide (x4_1 < (l0.length : Int)) = false := decide_eq_false c4
      clear c4
      obtain rfl := Option.some.inj H
      go_wp2
      go_ret
      exact ⟨by first | rfl | (simp [errW_none, errW_some] <;> rfl) | (simp [*, errW_none, errW_some] <;> rfl), bA HB.out⟩
  ·rw [if_neg c3] at H
   exact absurd H (by simp)
end Go.Proofs.Ytmcobmphmmgdmaa.QFnExactIsLegal
