import Derived.Test.YtmcobmphmmgdmaaZFnExactIsOpenx0
import Derived.Test.YtmcobmphmmgdmaaZFnExactIsOpenx1
import Derived.Test.YtmcobmphmmgdmaaZFnExactIsOpenx2
import Derived.Test.YtmcobmphmmgdmaaZFnExactIsOpenx5
import Derived.Test.YtmcobmphmmgdmaaZFnExactIsOpenx7
import Derived.Test.YtmcobmphmmgdmaaZFnExactIsOpenx9
namespace Go.Proofs.Ytmcobmphmmgdmaa.QFnExactIsOpen
open Go.RowKit Go.Proofs.YtmcobmphmmgdmaaW.PrintWords Go.Proofs.YtmcobmphmmgdmaaW.PrintLast Go.Proofs.YtmcobmphmmgdmaaW.PrintMore
attribute [local go_sem] max2_int min2_int max_two min_two max_three min_three max_four min_four
set_option linter.unusedVariables false
set_option linter.unusedSimpArgs false
def impl_IsOpen.f (k : Nat) (l0_0 : List Int) (l0_1 : List Int) (l0_2 : List Int) (l0_3 : List Bool) (l0_4 : List Bool) (a0_5 : Int) (a0_6 : Int) (a0_7 : Int) (a0_8 : Int) : Option (Bool) := (impl_IsBetting.f k l0_0 l0_1 l0_2 l0_3 l0_4 a0_5 a0_6 a0_7 a0_8).bind fun t214 => (if t214 = true then ((impl_hasToAct.f k l0_0 l0_1 l0_2 l0_3 l0_4 a0_5 a0_6 a0_7 a0_8 a0_5).bind fun t215 => (some t215)) else (some false))
theorem impl_IsOpen.mono : ∀ a0 a1 a2 a3 a4 a5 a6 a7 a8 k, LeO (impl_IsOpen.f k a0 a1 a2 a3 a4 a5 a6 a7 a8) (impl_IsOpen.f (k + 1) a0 a1 a2 a3 a4 a5 a6 a7 a8) := by
 intro a0 a1 a2 a3 a4 a5 a6 a7 a8 k
 unfold impl_IsOpen.f
 repeat' first
   | (with_reducible exact impl_IsBetting.mono _ _ _ _ _ _ _ _ _ _)
   | (with_reducible exact impl_hasToAct.mono _ _ _ _ _ _ _ _ _ _ _)
   | (with_reducible exact LeO.refl _)
   | (with_reducible exact LeO.none _)
   | (with_reducible refine LeO.ite ?_ ?_)
   | (with_reducible refine LeO.bind ?_ (fun _ => ?_))
   | exact impl_IsBetting.mono _ _ _ _ _ _ _ _ _ _
   | exact impl_hasToAct.mono _ _ _ _ _ _ _ _ _ _ _
   | exact LeO.none _
   | refine LeO.ite ?_ ?_
   | refine LeO.bind ?_ (fun _ => ?_)
set_option maxHeartbeats 8000000 in
set_option maxRecDepth 100000 in
theorem impl_IsOpen.calls (k : Nat) (A0_0 : Option Addr) (c0_0 : Nat) (l0_0 : List Int) (A0_1 : Option Addr) (c0_1 : Nat) (l0_1 : List Int) (A0_2 : Option Addr) (c0_2 : Nat) (l0_2 : List Int) (A0_3 : Option Addr) (c0_3 : Nat) (l0_3 : List Bool) (A0_4 : Option Addr) (c0_4 : Nat) (l0_4 : List Bool) (a0_5 : Int) (a0_6 : Int) (a0_7 : Int) (a0_8 : Int) (r : Bool) (w : World) (hr0_0 : Kd.C (Kd.int .i64) w A0_0 l0_0.length l0_0) (hc0_0 : l0_0.length ≤ c0_0) (hr0_1 : Kd.C (Kd.int .i64) w A0_1 l0_1.length l0_1) (hc0_1 : l0_1.length ≤ c0_1) (hr0_2 : Kd.C (Kd.int .i64) w A0_2 l0_2.length l0_2) (hc0_2 : l0_2.length ≤ c0_2) (hr0_3 : Kd.C Kd.bool w A0_3 l0_3.length l0_3) (hc0_3 : l0_3.length ≤ c0_3) (hr0_4 : Kd.C Kd.bool w A0_4 l0_4.length l0_4) (hc0_4 : l0_4.length ≤ c0_4) (h : impl_IsOpen.f k l0_0 l0_1 l0_2 l0_3 l0_4 a0_5 a0_6 a0_7 a0_8 = some r) :
  Calls Try.prog 27 #[.agg #[.slice A0_0 l0_0.length c0_0, .slice A0_1 l0_1.length c0_1, .slice A0_2 l0_2.length c0_2, .slice A0_3 l0_3.length c0_3, .slice A0_4 l0_4.length c0_4, .int .i64 a0_5, .int .i64 a0_6, .int .i64 a0_7, .int .i64 a0_8]] w fun e w' => e = .returned (.bool r) ∧ Below w.heap.size w w' := by
 have hu28 := Try.underlying28
 have HR0_0 := Aside0.mk hr0_0
 have HC0_0 := Aside0.mk hc0_0
 clear hr0_0 hc0_0
 have HR0_1 := Aside0.mk hr0_1
 have HC0_1 := Aside0.mk hc0_1
 clear hr0_1 hc0_1
 have HR0_2 := Aside0.mk hr0_2
 have HC0_2 := Aside0.mk hc0_2
 clear hr0_2 hc0_2
 have HR0_3 := Aside0.mk hr0_3
 have HC0_3 := Aside0.mk hc0_3
 clear hr0_3 hc0_3
 have HR0_4 := Aside0.mk hr0_4
 have HC0_4 := Aside0.mk hc0_4
 clear hr0_4 hc0_4
 have HB := Aside0.mk (Below.refl w.heap.size w)
 have H : ((impl_IsBetting.f k l0_0 l0_1 l0_2 l0_3 l0_4 a0_5 a0_6 a0_7 a0_8).bind fun t214 => (if t214 = true then ((impl_hasToAct.f k l0_0 l0_1 l0_2 l0_3 l0_4 a0_5 a0_6 a0_7 a0_8 a0_5).bind fun t215 => (some t215)) else (some false))) = some r := h
 clear h
 obtain ⟨t214, A20, H⟩ := Option.bind_eq_some_iff.mp H
 try dsimp only at H
 have A2 := Aside0.mk A20
 clear A20
 by_cases c3 : t214 = true
 ·subst c3
  rw [if_pos rfl] at H
  try dsimp only at H
  obtain ⟨t215, A40, H⟩ := Option.bind_eq_some_iff.mp H
  try dsimp only at H
  have A4 := Aside0.mk A40
  clear A40
  obtain rfl := Option.some.inj H
  go_enter Try.func27, Try.ntmps27
  go_wp2_with (first | ((with_reducible refine gate_dst (N := 1) rfl ?_); refine bE 1 #[.slice A0_0 l0_0.length c0_0, .slice A0_1 l0_1.length c0_1, .slice A0_2 l0_2.length c0_2, .slice A0_3 l0_3.length c0_3, .slice A0_4 l0_4.length c0_4, .int .i64 a0_5, .int .i64 a0_6, .int .i64 a0_7, .int .i64 a0_8] 28 ?_; intro gb213 hg w5 hbox hb; have BK213 := Aside0.mk (hbox); have GW213 := Aside0.mk (gE hg (bA HB.out)); have GE213 := Aside0.mk (gE hg (bA HB.out)); replace HB := Aside0.mk (below_step (bA HB.out) hb); clear hb hbox hg; obtain ⟨hcz6_0, hcz6_1, hcz6_2, hcz6_3, hcz6_4, hcz6_5, hcz6_6, hcz6_7, hcz6_8, hfz6_0, hfz6_1, hfz6_2, hfz6_3, hfz6_4, hfz6_5, hfz6_6, hfz6_7, hfz6_8⟩ := cz9 BK213.out) | ((with_reducible refine gate_callee (f := 18) rfl ?_); refine gL (some 4) Try.func18 #[.agg #[.slice A0_0 l0_0.length c0_0, .slice A0_1 l0_1.length c0_1, .slice A0_2 l0_2.length c0_2, .slice A0_3 l0_3.length c0_3, .slice A0_4 l0_4.length c0_4, .int .i64 a0_5, .int .i64 a0_6, .int .i64 a0_7, .int .i64 a0_8]] ?_; (with_reducible refine (impl_IsBetting.calls k _ _ l0_0 _ _ l0_1 _ _ l0_2 _ _ l0_3 _ _ l0_4 a0_5 a0_6 a0_7 a0_8 true _ ?side1 ?side2 ?side3 ?side4 ?side5 ?side6 ?side7 ?side8 ?side9 ?side10 A2.out).mono ?_); (case side1 => exact cA (Kd.C_below HR0_0.out HB.out)); (case side2 => exact HC0_0.out); (case side3 => exact cA (Kd.C_below HR0_1.out HB.out)); (case side4 => exact HC0_1.out); (case side5 => exact cA (Kd.C_below HR0_2.out HB.out)); (case side6 => exact HC0_2.out); (case side7 => exact cA (Kd.C_below HR0_3.out HB.out)); (case side8 => exact HC0_3.out); (case side9 => exact cA (Kd.C_below HR0_4.out HB.out)); (case side10 => exact HC0_4.out); rintro e w7 ⟨rfl, hb⟩; refine ⟨_, rfl, ?_⟩; replace BK213 := Aside0.mk (blk_below (kA BK213.out) hb); replace HB := Aside0.mk (below_step (bA HB.out) hb); (try clear hb); obtain ⟨hcz8_0, hcz8_1, hcz8_2, hcz8_3, hcz8_4, hcz8_5, hcz8_6, hcz8_7, hcz8_8, hfz8_0, hfz8_1, hfz8_2, hfz8_3, hfz8_4, hfz8_5, hfz8_6, hfz8_7, hfz8_8⟩ := cz9 BK213.out) | (go_at_call 72; (with_reducible refine (impl_hasToAct.calls k _ _ l0_0 _ _ l0_1 _ _ l0_2 _ _ l0_3 _ _ l0_4 a0_5 a0_6 a0_7 a0_8 a0_5 t215 _ ?side1 ?side2 ?side3 ?side4 ?side5 ?side6 ?side7 ?side8 ?side9 ?side10 A4.out).mono ?_); (case side1 => exact cA (Kd.C_below HR0_0.out HB.out)); (case side2 => exact HC0_0.out); (case side3 => exact cA (Kd.C_below HR0_1.out HB.out)); (case side4 => exact HC0_1.out); (case side5 => exact cA (Kd.C_below HR0_2.out HB.out)); (case side6 => exact HC0_2.out); (case side7 => exact cA (Kd.C_below HR0_3.out HB.out)); (case side8 => exact HC0_3.out); (case side9 => exact cA (Kd.C_below HR0_4.out HB.out)); (case side10 => exact HC0_4.out); rintro e w9 ⟨rfl, hb⟩; replace BK213 := Aside0.mk (blk_below (kA BK213.out) hb); replace HB := Aside0.mk (below_step (bA HB.out) hb); (try clear hb)))
  go_ret
  exact ⟨by first | rfl | (simp [errW_none, errW_some] <;> rfl) | (simp [*, errW_none, errW_some] <;> rfl), bA HB.out⟩
 ·replace c3 := Bool.eq_false_iff.mpr c3
  subst c3
  rw [if_neg (show ¬ (false = true) by decide)] at H
  try dsimp only at H
  obtain rfl := Option.some.inj H
  go_enter Try.func27, Try.ntmps27
  go_wp2_with (first | ((with_reducible refine gate_dst (N := 1) rfl ?_); refine bE 1 #[.slice A0_0 l0_0.length c0_0, .slice A0_1 l0_1.length c0_1, .slice A0_2 l0_2.length c0_2, .slice A0_3 l0_3.length c0_3, .slice A0_4 l0_4.length c0_4, .int .i64 a0_5, .int .i64 a0_6, .int .i64 a0_7, .int .i64 a0_8] 28 ?_; intro gb213 hg w10 hbox hb; have BK213 := Aside0.mk (hbox); have GW213 := Aside0.mk (gE hg (bA HB.out)); have GE213 := Aside0.mk (gE hg (bA HB.out)); replace HB := Aside0.mk (below_step (bA HB.out) hb); clear hb hbox hg; obtain ⟨hcz11_0, hcz11_1, hcz11_2, hcz11_3, hcz11_4, hcz11_5, hcz11_6, hcz11_7, hcz11_8, hfz11_0, hfz11_1, hfz11_2, hfz11_3, hfz11_4, hfz11_5, hfz11_6, hfz11_7, hfz11_8⟩ := cz9 BK213.out) | ((with_reducible refine gate_callee (f := 18) rfl ?_); refine gL (some 4) Try.func18 #[.agg #[.slice A0_0 l0_0.length c0_0, .slice A0_1 l0_1.length c0_1, .slice A0_2 l0_2.length c0_2, .slice A0_3 l0_3.length c0_3, .slice A0_4 l0_4.length c0_4, .int .i64 a0_5, .int .i64 a0_6, .int .i64 a0_7, .int .i64 a0_8]] ?_; (with_reducible refine (impl_IsBetting.calls k _ _ l0_0 _ _ l0_1 _ _ l0_2 _ _ l0_3 _ _ l0_4 a0_5 a0_6 a0_7 a0_8 false _ ?side1 ?side2 ?side3 ?side4 ?side5 ?side6 ?side7 ?side8 ?side9 ?side10 A2.out).mono ?_); (case side1 => exact cA (Kd.C_below HR0_0.out HB.out)); (case side2 => exact HC0_0.out); (case side3 => exact cA (Kd.C_below HR0_1.out HB.out)); (case side4 => exact HC0_1.out); (case side5 => exact cA (Kd.C_below HR0_2.out HB.out)); (case side6 => exact HC0_2.out); (case side7 => exact cA (Kd.C_below HR0_3.out HB.out)); (case side8 => exact HC0_3.out); (case side9 => exact cA (Kd.C_below HR0_4.out HB.out)); (case side10 => exact HC0_4.out); rintro e w12 ⟨rfl, hb⟩; refine ⟨_, rfl, ?_⟩; replace BK213 := Aside0.mk (blk_below (kA BK213.out) hb); replace HB := Aside0.mk (below_step (bA HB.out) hb); (try clear hb)))
  go_ret
  exact ⟨by first | rfl | (simp [errW_none, errW_some] <;> rfl) | (simp [*, errW_none, errW_some] <;> rfl), bA HB.out⟩
def laws_FnExactIsOpen.f (k : Nat) (l0_0 : List Int) (l0_1 : List Int) (l0_2 : List Int) (l0_3 : List Bool) (l0_4 : List Bool) (a0_5 : Int) (a0_6 : Int) (a0_7 : Int) (a0_8 : Int) : Option (Bool) := (laws_szBetting.f l0_0 l0_1 l0_2 l0_3 l0_4 a0_5 a0_6 a0_7 a0_8 1048576).bind fun t217 => (if t217 < 0 then (some true) else ((laws_toBetting.f k l0_0 l0_1 l0_2 l0_3 l0_4 a0_5 a0_6 a0_7 a0_8).bind fun bt218 => ((spec_IsOpen.f k bt218.1 bt218.2.1 bt218.2.2.1 bt218.2.2.2.1 bt218.2.2.2.2.1 bt218.2.2.2.2.2.1 bt218.2.2.2.2.2.2.1 bt218.2.2.2.2.2.2.2.1 bt218.2.2.2.2.2.2.2.2).bind fun t237 => ((laws_toBetting.f k l0_0 l0_1 l0_2 l0_3 l0_4 a0_5 a0_6 a0_7 a0_8).bind fun bt238 => ((impl_IsOpen.f k bt238.1 bt238.2.1 bt238.2.2.1 bt238.2.2.2.1 bt238.2.2.2.2.1 bt238.2.2.2.2.2.1 bt238.2.2.2.2.2.2.1 bt238.2.2.2.2.2.2.2.1 bt238.2.2.2.2.2.2.2.2).bind fun t258 => (if (t258 != t237) = true then (none) else ((laws_toBetting.f k l0_0 l0_1 l0_2 l0_3 l0_4 a0_5 a0_6 a0_7 a0_8).bind fun bt259 => ((laws_eqBetting.f k bt238.1 bt238.2.1 bt238.2.2.1 bt238.2.2.2.1 bt238.2.2.2.2.1 bt238.2.2.2.2.2.1 bt238.2.2.2.2.2.2.1 bt238.2.2.2.2.2.2.2.1 bt238.2.2.2.2.2.2.2.2 bt259.1 bt259.2.1 bt259.2.2.1 bt259.2.2.2.1 bt259.2.2.2.2.1 bt259.2.2.2.2.2.1 bt259.2.2.2.2.2.2.1 bt259.2.2.2.2.2.2.2.1 bt259.2.2.2.2.2.2.2.2).bind fun t278 => (if t278 = true then (some true) else (none))))))))))
theorem laws_FnExactIsOpen.mono : ∀ a0 a1 a2 a3 a4 a5 a6 a7 a8 k, LeO (laws_FnExactIsOpen.f k a0 a1 a2 a3 a4 a5 a6 a7 a8) (laws_FnExactIsOpen.f (k + 1) a0 a1 a2 a3 a4 a5 a6 a7 a8) := by
 intro a0 a1 a2 a3 a4 a5 a6 a7 a8 k
 unfold laws_FnExactIsOpen.f
 repeat' first
   | (with_reducible exact impl_IsOpen.mono _ _ _ _ _ _ _ _ _ _)
   | (with_reducible exact laws_eqBetting.mono _ _ _ _ _ _ _ _ _ _ _ _ _ _ _ _ _ _ _)
   | (with_reducible exact laws_toBetting.mono _ _ _ _ _ _ _ _ _ _)
   | (with_reducible exact spec_IsOpen.mono _ _ _ _ _ _ _ _ _ _)
   | (with_reducible exact LeO.refl _)
   | (with_reducible exact LeO.none _)
   | (with_reducible refine LeO.ite ?_ ?_)
   | (with_reducible refine LeO.bind ?_ (fun _ => ?_))
   | exact impl_IsOpen.mono _ _ _ _ _ _ _ _ _ _
   | exact laws_eqBetting.mono _ _ _ _ _ _ _ _ _ _ _ _ _ _ _ _ _ _ _
   | exact laws_toBetting.mono _ _ _ _ _ _ _ _ _ _
   | exact spec_IsOpen.mono _ _ _ _ _ _ _ _ _ _
   | exact LeO.none _
   | refine LeO.ite ?_ ?_
   | refine LeO.bind ?_ (fun _ => ?_)
set_option maxHeartbeats 8000000 in
set_option maxRecDepth 100000 in
theorem laws_FnExactIsOpen.calls (k : Nat) (A0_0 : Option Addr) (c0_0 : Nat) (l0_0 : List Int) (A0_1 : Option Addr) (c0_1 : Nat) (l0_1 : List Int) (A0_2 : Option Addr) (c0_2 : Nat) (l0_2 : List Int) (A0_3 : Option Addr) (c0_3 : Nat) (l0_3 : List Bool) (A0_4 : Option Addr) (c0_4 : Nat) (l0_4 : List Bool) (a0_5 : Int) (a0_6 : Int) (a0_7 : Int) (a0_8 : Int) (r : Bool) (w : World) (hr0_0 : Kd.C (Kd.int .i64) w A0_0 l0_0.length l0_0) (hc0_0 : l0_0.length ≤ c0_0) (hr0_1 : Kd.C (Kd.int .i64) w A0_1 l0_1.length l0_1) (hc0_1 : l0_1.length ≤ c0_1) (hr0_2 : Kd.C (Kd.int .i64) w A0_2 l0_2.length l0_2) (hc0_2 : l0_2.length ≤ c0_2) (hr0_3 : Kd.C Kd.bool w A0_3 l0_3.length l0_3) (hc0_3 : l0_3.length ≤ c0_3) (hr0_4 : Kd.C Kd.bool w A0_4 l0_4.length l0_4) (hc0_4 : l0_4.length ≤ c0_4) (h : laws_FnExactIsOpen.f k l0_0 l0_1 l0_2 l0_3 l0_4 a0_5 a0_6 a0_7 a0_8 = some r) :
  Calls Try.prog 7 #[.agg #[.slice A0_0 l0_0.length c0_0, .slice A0_1 l0_1.length c0_1, .slice A0_2 l0_2.length c0_2, .slice A0_3 l0_3.length c0_3, .slice A0_4 l0_4.length c0_4, .int .i64 a0_5, .int .i64 a0_6, .int .i64 a0_7, .int .i64 a0_8]] w fun e w' => e = .returned (.bool r) ∧ Below w.heap.size w w' := by
 have hu25 := Try.underlying25
 have hu28 := Try.underlying28
 have HR0_0 := Aside0.mk hr0_0
 have HC0_0 := Aside0.mk hc0_0
 clear hr0_0 hc0_0
 have HR0_1 := Aside0.mk hr0_1
 have HC0_1 := Aside0.mk hc0_1
 clear hr0_1 hc0_1
 have HR0_2 := Aside0.mk hr0_2
 have HC0_2 := Aside0.mk hc0_2
 clear hr0_2 hc0_2
 have HR0_3 := Aside0.mk hr0_3
 have HC0_3 := Aside0.mk hc0_3
 clear hr0_3 hc0_3
 have HR0_4 := Aside0.mk hr0_4
 have HC0_4 := Aside0.mk hc0_4
 clear hr0_4 hc0_4
 have HB := Aside0.mk (Below.refl w.heap.size w)
 have H : ((laws_szBetting.f l0_0 l0_1 l0_2 l0_3 l0_4 a0_5 a0_6 a0_7 a0_8 1048576).bind fun t217 => (if t217 < 0 then (some true) else ((laws_toBetting.f k l0_0 l0_1 l0_2 l0_3 l0_4 a0_5 a0_6 a0_7 a0_8).bind fun bt218 => ((spec_IsOpen.f k bt218.1 bt218.2.1 bt218.2.2.1 bt218.2.2.2.1 bt218.2.2.2.2.1 bt218.2.2.2.2.2.1 bt218.2.2.2.2.2.2.1 bt218.2.2.2.2.2.2.2.1 bt218.2.2.2.2.2.2.2.2).bind fun t237 => ((laws_toBetting.f k l0_0 l0_1 l0_2 l0_3 l0_4 a0_5 a0_6 a0_7 a0_8).bind fun bt238 => ((impl_IsOpen.f k bt238.1 bt238.2.1 bt238.2.2.1 bt238.2.2.2.1 bt238.2.2.2.2.1 bt238.2.2.2.2.2.1 bt238.2.2.2.2.2.2.1 bt238.2.2.2.2.2.2.2.1 bt238.2.2.2.2.2.2.2.2).bind fun t258 => (if (t258 != t237) = true then (none) else ((laws_toBetting.f k l0_0 l0_1 l0_2 l0_3 l0_4 a0_5 a0_6 a0_7 a0_8).bind fun bt259 => ((laws_eqBetting.f k bt238.1 bt238.2.1 bt238.2.2.1 bt238.2.2.2.1 bt238.2.2.2.2.1 bt238.2.2.2.2.2.1 bt238.2.2.2.2.2.2.1 bt238.2.2.2.2.2.2.2.1 bt238.2.2.2.2.2.2.2.2 bt259.1 bt259.2.1 bt259.2.2.1 bt259.2.2.2.1 bt259.2.2.2.2.1 bt259.2.2.2.2.2.1 bt259.2.2.2.2.2.2.1 bt259.2.2.2.2.2.2.2.1 bt259.2.2.2.2.2.2.2.2).bind fun t278 => (if t278 = true then (some true) else (none))))))))))) = some r := h
 clear h
 obtain ⟨t217, A20, H⟩ := Option.bind_eq_some_iff.mp H
 try dsimp only at H
 have A2 := Aside0.mk A20
 clear A20
 by_cases c3 : t217 < 0
 ·rw [if_pos c3] at H
  have c3b0 : decide (t217 < 0) = true := decide_eq_true c3
  clear c3
  obtain rfl := Option.some.inj H
  go_enter Try.func7, Try.ntmps7
  go_wp2_with (first | ((with_reducible refine gate_dst (N := 1) rfl ?_); refine bE 1 #[.slice A0_0 l0_0.length c0_0, .slice A0_1 l0_1.length c0_1, .slice A0_2 l0_2.length c0_2, .slice A0_3 l0_3.length c0_3, .slice A0_4 l0_4.length c0_4, .int .i64 a0_5, .int .i64 a0_6, .int .i64 a0_7, .int .i64 a0_8] 25 ?_; intro gb216 hg w4 hbox hb; have BK216 := Aside0.mk (hbox); have GW216 := Aside0.mk (gE hg (bA HB.out)); have GE216 := Aside0.mk (gE hg (bA HB.out)); replace HB := Aside0.mk (below_step (bA HB.out) hb); clear hb hbox hg; obtain ⟨hcz5_0, hcz5_1, hcz5_2, hcz5_3, hcz5_4, hcz5_5, hcz5_6, hcz5_7, hcz5_8, hfz5_0, hfz5_1, hfz5_2, hfz5_3, hfz5_4, hfz5_5, hfz5_6, hfz5_7, hfz5_8⟩ := cz9 BK216.out) | ((with_reducible refine gate_callee (f := 15) rfl ?_); refine gL (some 9) Try.func15 #[.agg #[.slice A0_0 l0_0.length c0_0, .slice A0_1 l0_1.length c0_1, .slice A0_2 l0_2.length c0_2, .slice A0_3 l0_3.length c0_3, .slice A0_4 l0_4.length c0_4, .int .i64 a0_5, .int .i64 a0_6, .int .i64 a0_7, .int .i64 a0_8], .int .i64 1048576] ?_; (with_reducible refine (laws_szBetting.calls _ _ l0_0 _ _ l0_1 _ _ l0_2 _ _ l0_3 _ _ l0_4 a0_5 a0_6 a0_7 a0_8 1048576 t217 _ ?side1 ?side2 ?side3 ?side4 ?side5 ?side6 ?side7 ?side8 ?side9 ?side10 A2.out).mono ?_); (case side1 => exact cA (Kd.C_below HR0_0.out HB.out)); (case side2 => exact HC0_0.out); (case side3 => exact cA (Kd.C_below HR0_1.out HB.out)); (case side4 => exact HC0_1.out); (case side5 => exact cA (Kd.C_below HR0_2.out HB.out)); (case side6 => exact HC0_2.out); (case side7 => exact cA (Kd.C_below HR0_3.out HB.out)); (case side8 => exact HC0_3.out); (case side9 => exact cA (Kd.C_below HR0_4.out HB.out)); (case side10 => exact HC0_4.out); rintro e w6 ⟨rfl, hb⟩; refine ⟨_, rfl, ?_⟩; replace BK216 := Aside0.mk (blk_below (kA BK216.out) hb); replace HB := Aside0.mk (below_step (bA HB.out) hb); (try clear hb)))
  go_ret
  exact ⟨by first | rfl | (simp [errW_none, errW_some] <;> rfl) | (simp [*, errW_none, errW_some] <;> rfl), bA HB.out⟩
 ·rw [if_neg c3] at H
  have c3b0 : decide (t217 < 0) = false := decide_eq_false c3
  clear c3
  obtain ⟨⟨t218, t221, t224, t227, t230, t233, t234, t235, t236⟩, A70, H⟩ := Option.bind_eq_some_iff.mp H
  try dsimp only at H
  have A7 := Aside0.mk A70
  clear A70
  obtain ⟨t237, A80, H⟩ := Option.bind_eq_some_iff.mp H
  try dsimp only at H
  have A8 := Aside0.mk A80
  clear A80
  obtain ⟨⟨t238, t241, t244, t247, t250, t253, t254, t255, t256⟩, A90, H⟩ := Option.bind_eq_some_iff.mp H
  try dsimp only at H
  have A9 := Aside0.mk A90
  clear A90
  obtain ⟨t258, A100, H⟩ := Option.bind_eq_some_iff.mp H
  try dsimp only at H
  have A10 := Aside0.mk A100
  clear A100
  by_cases c11 : (t258 != t237) = true
  ·rw [if_pos c11] at H
   exact absurd H (by simp)
  ·rw [if_neg c11] at H
   have c11b0 : (t258 != t237) = false := by simpa using c11
   (try (have c11b1 : decide (t258 = t237) = true := by simpa using c11))
   (try (have c11b2 : (t258 == t237) = true := by simpa using c11))
   clear c11
   obtain ⟨⟨t259, t262, t265, t268, t271, t274, t275, t276, t277⟩, A120, H⟩ := Option.bind_eq_some_iff.mp H
   try dsimp only at H
   have A12 := Aside0.mk A120
   clear A120
   obtain ⟨t278, A130, H⟩ := Option.bind_eq_some_iff.mp H
   try dsimp only at H
   have A13 := Aside0.mk A130
   clear A130
   by_cases c14 : t278 = true
   ·subst c14
    rw [if_pos rfl] at H
    try dsimp only at H
    obtain rfl := Option.some.inj H
    go_enter Try.func7, Try.ntmps7
    try go_wp2_with (first | ((with_reducible refine gate_dst (N := 1) rfl ?_); refine bE 1 #[.slice A0_0 l0_0.length c0_0, .slice A0_1 l0_1.length c0_1, .slice A0_2 l0_2.length c0_2, .slice A0_3 l0_3.length c0_3, .slice A0_4 l0_4.length c0_4, .int .i64 a0_5, .int .i64 a0_6, .int .i64 a0_7, .int .i64 a0_8] 25 ?_; intro gb216 hg w15 hbox hb; have BK216 := Aside0.mk (hbox); have GW216 := Aside0.mk (gE hg (bA HB.out)); have GE216 := Aside0.mk (gE hg (bA HB.out)); replace HB := Aside0.mk (below_step (bA HB.out) hb); clear hb hbox hg; obtain ⟨hcz16_0, hcz16_1, hcz16_2, hcz16_3, hcz16_4, hcz16_5, hcz16_6, hcz16_7, hcz16_8, hfz16_0, hfz16_1, hfz16_2, hfz16_3, hfz16_4, hfz16_5, hfz16_6, hfz16_7, hfz16_8⟩ := cz9 BK216.out) | ((with_reducible refine gate_callee (f := 15) rfl ?_); refine gL (some 9) Try.func15 #[.agg #[.slice A0_0 l0_0.length c0_0, .slice A0_1 l0_1.length c0_1, .slice A0_2 l0_2.length c0_2, .slice A0_3 l0_3.length c0_3, .slice A0_4 l0_4.length c0_4, .int .i64 a0_5, .int .i64 a0_6, .int .i64 a0_7, .int .i64 a0_8], .int .i64 1048576] ?_; (with_reducible refine (laws_szBetting.calls _ _ l0_0 _ _ l0_1 _ _ l0_2 _ _ l0_3 _ _ l0_4 a0_5 a0_6 a0_7 a0_8 1048576 t217 _ ?side1 ?side2 ?side3 ?side4 ?side5 ?side6 ?side7 ?side8 ?side9 ?side10 A2.out).mono ?_); (case side1 => exact cA (Kd.C_below HR0_0.out HB.out)); (case side2 => exact HC0_0.out); (case side3 => exact cA (Kd.C_below HR0_1.out HB.out)); (case side4 => exact HC0_1.out); (case side5 => exact cA (Kd.C_below HR0_2.out HB.out)); (case side6 => exact HC0_2.out); (case side7 => exact cA (Kd.C_below HR0_3.out HB.out)); (case side8 => exact HC0_3.out); (case side9 => exact cA (Kd.C_below HR0_4.out HB.out)); (case side10 => exact HC0_4.out); rintro e w17 ⟨rfl, hb⟩; refine ⟨_, rfl, ?_⟩; replace BK216 := Aside0.mk (blk_below (kA BK216.out) hb); replace HB := Aside0.mk (below_step (bA HB.out) hb); (try clear hb); obtain ⟨hcz18_0, hcz18_1, hcz18_2, hcz18_3, hcz18_4, hcz18_5, hcz18_6, hcz18_7, hcz18_8, hfz18_0, hfz18_1, hfz18_2, hfz18_3, hfz18_4, hfz18_5, hfz18_6, hfz18_7, hfz18_8⟩ := cz9 BK216.out) | ((with_reducible refine gate_callee (f := 17) rfl ?_); refine gL (some 13) Try.func17 #[.agg #[.slice A0_0 l0_0.length c0_0, .slice A0_1 l0_1.length c0_1, .slice A0_2 l0_2.length c0_2, .slice A0_3 l0_3.length c0_3, .slice A0_4 l0_4.length c0_4, .int .i64 a0_5, .int .i64 a0_6, .int .i64 a0_7, .int .i64 a0_8]] ?_; (with_reducible refine (laws_toBetting.calls k _ _ l0_0 _ _ l0_1 _ _ l0_2 _ _ l0_3 _ _ l0_4 a0_5 a0_6 a0_7 a0_8 t218 t221 t224 t227 t230 t233 t234 t235 t236 _ ?side1 ?side2 ?side3 ?side4 ?side5 ?side6 ?side7 ?side8 ?side9 ?side10 A7.out).mono ?_); (case side1 => exact cA (Kd.C_below HR0_0.out HB.out)); (case side2 => exact HC0_0.out); (case side3 => exact cA (Kd.C_below HR0_1.out HB.out)); (case side4 => exact HC0_1.out); (case side5 => exact cA (Kd.C_below HR0_2.out HB.out)); (case side6 => exact HC0_2.out); (case side7 => exact cA (Kd.C_below HR0_3.out HB.out)); (case side8 => exact HC0_3.out); (case side9 => exact cA (Kd.C_below HR0_4.out HB.out)); (case side10 => exact HC0_4.out); rintro e w19 ⟨v219, v222, v225, v228, v231, rfl, ho0, ho1, ho2, ho3, ho4, hb⟩; refine ⟨_, rfl, ?_⟩; have HO220 := Aside0.mk (Kd.R_lower ho0 (below_size (bA HB.out))); have HO223 := Aside0.mk (Kd.R_lower ho1 (below_size (bA HB.out))); have HO226 := Aside0.mk (Kd.R_lower ho2 (below_size (bA HB.out))); have HO229 := Aside0.mk (Kd.R_lower ho3 (below_size (bA HB.out))); have HO232 := Aside0.mk (Kd.R_lower ho4 (below_size (bA HB.out))); replace BK216 := Aside0.mk (blk_below (kA BK216.out) hb); replace HB := Aside0.mk (below_step (bA HB.out) hb); (try clear hb); (try clear ho0); (try clear ho1); (try clear ho2); (try clear ho3); (try clear ho4); obtain ⟨Ao20, co20, eo20⟩ := Kd.R_slice HO220.out; subst eo20; obtain ⟨Ao21, co21, eo21⟩ := Kd.R_slice HO223.out; subst eo21; obtain ⟨Ao22, co22, eo22⟩ := Kd.R_slice HO226.out; subst eo22; obtain ⟨Ao23, co23, eo23⟩ := Kd.R_slice HO229.out; subst eo23; obtain ⟨Ao24, co24, eo24⟩ := Kd.R_slice HO232.out; subst eo24) | ((with_reducible refine gate_callee (f := 26) rfl ?_); refine gL (some 14) Try.func26 #[.agg #[.slice Ao20 t218.length co20, .slice Ao21 t221.length co21, .slice Ao22 t224.length co22, .slice Ao23 t227.length co23, .slice Ao24 t230.length co24, .int .i64 t233, .int .i64 t234, .int .i64 t235, .int .i64 t236]] ?_; (with_reducible refine (spec_IsOpen.calls k _ _ t218 _ _ t221 _ _ t224 _ _ t227 _ _ t230 t233 t234 t235 t236 t237 _ ?side1 ?side2 ?side3 ?side4 ?side5 ?side6 ?side7 ?side8 ?side9 ?side10 A8.out).mono ?_); (case side1 => exact cA ((Kd.R_reads' HO220.out).2.2)); (case side2 => exact (Kd.R_reads' HO220.out).2.1); (case side3 => exact cA ((Kd.R_reads' HO223.out).2.2)); (case side4 => exact (Kd.R_reads' HO223.out).2.1); (case side5 => exact cA ((Kd.R_reads' HO226.out).2.2)); (case side6 => exact (Kd.R_reads' HO226.out).2.1); (case side7 => exact cA ((Kd.R_reads' HO229.out).2.2)); (case side8 => exact (Kd.R_reads' HO229.out).2.1); (case side9 => exact cA ((Kd.R_reads' HO232.out).2.2)); (case side10 => exact (Kd.R_reads' HO232.out).2.1); rintro e w25 ⟨rfl, hb⟩; refine ⟨_, rfl, ?_⟩; replace HO220 := Aside0.mk (Kd.R_below (rA HO220.out) hb); replace HO223 := Aside0.mk (Kd.R_below (rA HO223.out) hb); replace HO226 := Aside0.mk (Kd.R_below (rA HO226.out) hb); replace HO229 := Aside0.mk (Kd.R_below (rA HO229.out) hb); replace HO232 := Aside0.mk (Kd.R_below (rA HO232.out) hb); replace BK216 := Aside0.mk (blk_below (kA BK216.out) hb); replace HB := Aside0.mk (below_step (bA HB.out) hb); (try clear hb); obtain ⟨hcz26_0, hcz26_1, hcz26_2, hcz26_3, hcz26_4, hcz26_5, hcz26_6, hcz26_7, hcz26_8, hfz26_0, hfz26_1, hfz26_2, hfz26_3, hfz26_4, hfz26_5, hfz26_6, hfz26_7, hfz26_8⟩ := cz9 BK216.out) | ((with_reducible refine gate_callee (f := 17) rfl ?_); refine gL (some 16) Try.func17 #[.agg #[.slice A0_0 l0_0.length c0_0, .slice A0_1 l0_1.length c0_1, .slice A0_2 l0_2.length c0_2, .slice A0_3 l0_3.length c0_3, .slice A0_4 l0_4.length c0_4, .int .i64 a0_5, .int .i64 a0_6, .int .i64 a0_7, .int .i64 a0_8]] ?_; (with_reducible refine (laws_toBetting.calls k _ _ l0_0 _ _ l0_1 _ _ l0_2 _ _ l0_3 _ _ l0_4 a0_5 a0_6 a0_7 a0_8 t238 t241 t244 t247 t250 t253 t254 t255 t256 _ ?side1 ?side2 ?side3 ?side4 ?side5 ?side6 ?side7 ?side8 ?side9 ?side10 A9.out).mono ?_); (case side1 => exact cA (Kd.C_below HR0_0.out HB.out)); (case side2 => exact HC0_0.out); (case side3 => exact cA (Kd.C_below HR0_1.out HB.out)); (case side4 => exact HC0_1.out); (case side5 => exact cA (Kd.C_below HR0_2.out HB.out)); (case side6 => exact HC0_2.out); (case side7 => exact cA (Kd.C_below HR0_3.out HB.out)); (case side8 => exact HC0_3.out); (case side9 => exact cA (Kd.C_below HR0_4.out HB.out)); (case side10 => exact HC0_4.out); rintro e w27 ⟨v239, v242, v245, v248, v251, rfl, ho0, ho1, ho2, ho3, ho4, hb⟩; refine ⟨_, rfl, ?_⟩; have HO240 := Aside0.mk (Kd.R_lower (Kd.R_new' (Kd.R_new' (Kd.R_new' ho0 (Kd.R_lt (rA HO220.out))) (Kd.R_lt (rA HO223.out))) (Kd.R_lt (rA HO226.out))) (below_size (bA HB.out))); have HO243 := Aside0.mk (Kd.R_lower (Kd.R_new' (Kd.R_new' (Kd.R_new' ho1 (Kd.R_lt (rA HO220.out))) (Kd.R_lt (rA HO223.out))) (Kd.R_lt (rA HO226.out))) (below_size (bA HB.out))); have HO246 := Aside0.mk (Kd.R_lower (Kd.R_new' (Kd.R_new' (Kd.R_new' ho2 (Kd.R_lt (rA HO220.out))) (Kd.R_lt (rA HO223.out))) (Kd.R_lt (rA HO226.out))) (below_size (bA HB.out))); replace HO220 := Aside0.mk (Kd.R_mono (Kd.R_told (Kd.R_told (Kd.R_told (Kd.R_old (rA HO220.out) hb) (Kd.R_base ho0)) (Kd.R_base ho1)) (Kd.R_base ho2)) (fun _ h_ => h_.1)); replace HO223 := Aside0.mk (Kd.R_mono (Kd.R_told (Kd.R_told (Kd.R_told (Kd.R_old (rA HO223.out) hb) (Kd.R_base ho0)) (Kd.R_base ho1)) (Kd.R_base ho2)) (fun _ h_ => h_.1)); replace HO226 := Aside0.mk (Kd.R_mono (Kd.R_told (Kd.R_told (Kd.R_told (Kd.R_old (rA HO226.out) hb) (Kd.R_base ho0)) (Kd.R_base ho1)) (Kd.R_base ho2)) (fun _ h_ => h_.1)); have HO249 := Aside0.mk (Kd.R_lower (Kd.R_new' (Kd.R_new' ho3 (Kd.R_lt (rA HO229.out))) (Kd.R_lt (rA HO232.out))) (below_size (bA HB.out))); have HO252 := Aside0.mk (Kd.R_lower (Kd.R_new' (Kd.R_new' ho4 (Kd.R_lt (rA HO229.out))) (Kd.R_lt (rA HO232.out))) (below_size (bA HB.out))); replace HO229 := Aside0.mk (Kd.R_mono (Kd.R_told (Kd.R_told (Kd.R_old (rA HO229.out) hb) (Kd.R_base ho3)) (Kd.R_base ho4)) (fun _ h_ => h_.1)); replace HO232 := Aside0.mk (Kd.R_mono (Kd.R_told (Kd.R_told (Kd.R_old (rA HO232.out) hb) (Kd.R_base ho3)) (Kd.R_base ho4)) (fun _ h_ => h_.1)); replace BK216 := Aside0.mk (blk_below (kA BK216.out) hb); replace HB := Aside0.mk (below_step (bA HB.out) hb); (try clear hb); (try clear ho0); (try clear ho1); (try clear ho2); (try clear ho3); (try clear ho4)) | ((with_reducible refine gate_dst (N := 5) rfl ?_); refine bE 5 #[.slice none 0 0, .slice none 0 0, .slice none 0 0, .slice none 0 0, .slice none 0 0, .int .i64 0, .int .i64 0, .int .i64 0, .int .i64 0] 28 ?_; intro gb257 hg w28 hbox hb; replace HO220 := Aside0.mk (Kd.R_below (rA HO220.out) hb); replace HO223 := Aside0.mk (Kd.R_below (rA HO223.out) hb); replace HO226 := Aside0.mk (Kd.R_below (rA HO226.out) hb); replace HO229 := Aside0.mk (Kd.R_below (rA HO229.out) hb); replace HO232 := Aside0.mk (Kd.R_below (rA HO232.out) hb); replace HO240 := Aside0.mk (Kd.R_below (rA HO240.out) hb); replace HO243 := Aside0.mk (Kd.R_below (rA HO243.out) hb); replace HO246 := Aside0.mk (Kd.R_below (rA HO246.out) hb); replace HO249 := Aside0.mk (Kd.R_below (rA HO249.out) hb); replace HO252 := Aside0.mk (Kd.R_below (rA HO252.out) hb); have BK257 := Aside0.mk (hbox); have GW257 := Aside0.mk (gE hg (bA HB.out)); have GE257 := Aside0.mk (gE hg (bA HB.out)); replace HB := Aside0.mk (below_step (bA HB.out) hb); have NB216_257 := Aside0.mk ((by rw [hg]; exact Nat.ne_of_lt (blk_lt (kA BK216.out)) : gb216 ≠ gb257)); have NB257_216 := Aside0.mk ((by rw [hg]; exact Nat.ne_of_gt (blk_lt (kA BK216.out)) : gb257 ≠ gb216)); replace BK216 := Aside0.mk (blk_below (kA BK216.out) hb); clear hb hbox hg; obtain ⟨Ao29, co29, eo29⟩ := Kd.R_slice HO240.out; subst eo29; have hnb30 := NB257_216.out; have hnc30 := NB216_257.out; obtain ⟨hcz31_0, hcz31_1, hcz31_2, hcz31_3, hcz31_4, hcz31_5, hcz31_6, hcz31_7, hcz31_8, hfz31_0, hfz31_1, hfz31_2, hfz31_3, hfz31_4, hfz31_5, hfz31_6, hfz31_7, hfz31_8⟩ := cz9 BK257.out; obtain ⟨Ao32, co32, eo32⟩ := Kd.R_slice HO243.out; subst eo32; obtain ⟨Ao33, co33, eo33⟩ := Kd.R_slice HO246.out; subst eo33; obtain ⟨Ao34, co34, eo34⟩ := Kd.R_slice HO249.out; subst eo34; obtain ⟨Ao35, co35, eo35⟩ := Kd.R_slice HO252.out; subst eo35) | ((with_reducible refine gate_callee (f := 27) rfl ?_); refine gL (some 18) Try.func27 #[.agg #[.slice Ao29 t238.length co29, .slice Ao32 t241.length co32, .slice Ao33 t244.length co33, .slice Ao34 t247.length co34, .slice Ao35 t250.length co35, .int .i64 t253, .int .i64 t254, .int .i64 t255, .int .i64 t256]] ?_; (with_reducible refine (impl_IsOpen.calls k _ _ t238 _ _ t241 _ _ t244 _ _ t247 _ _ t250 t253 t254 t255 t256 t258 _ ?side1 ?side2 ?side3 ?side4 ?side5 ?side6 ?side7 ?side8 ?side9 ?side10 A10.out).mono ?_); (case side1 => refine (Kd.R_reads' (e := 2) (base := w.heap.size) (ok := fun k_ => ((((some k_ ≠ (.slice Ao32 t241.length co32 : Value).ownBlock ∧ some k_ ≠ (.slice Ao33 t244.length co33 : Value).ownBlock) ∧ some k_ ≠ (.slice Ao20 t218.length co20 : Value).ownBlock) ∧ some k_ ≠ (.slice Ao21 t221.length co21 : Value).ownBlock) ∧ some k_ ≠ (.slice Ao22 t224.length co22 : Value).ownBlock)) (n := t238.length) (c := co29) ?_).2.2; exact (rA (rF9 HO240.out BK257.out))); (case side2 => exact (Kd.R_reads' HO240.out).2.1); (case side3 => refine (Kd.R_reads' (e := 2) (base := w.heap.size) (ok := fun k_ => ((((some k_ ≠ (.slice Ao29 t238.length co29 : Value).ownBlock ∧ some k_ ≠ (.slice Ao33 t244.length co33 : Value).ownBlock) ∧ some k_ ≠ (.slice Ao20 t218.length co20 : Value).ownBlock) ∧ some k_ ≠ (.slice Ao21 t221.length co21 : Value).ownBlock) ∧ some k_ ≠ (.slice Ao22 t224.length co22 : Value).ownBlock)) (n := t241.length) (c := co32) ?_).2.2; exact (rA (rF9 HO243.out BK257.out))); (case side4 => exact (Kd.R_reads' HO243.out).2.1); (case side5 => refine (Kd.R_reads' (e := 2) (base := w.heap.size) (ok := fun k_ => ((((some k_ ≠ (.slice Ao29 t238.length co29 : Value).ownBlock ∧ some k_ ≠ (.slice Ao32 t241.length co32 : Value).ownBlock) ∧ some k_ ≠ (.slice Ao20 t218.length co20 : Value).ownBlock) ∧ some k_ ≠ (.slice Ao21 t221.length co21 : Value).ownBlock) ∧ some k_ ≠ (.slice Ao22 t224.length co22 : Value).ownBlock)) (n := t244.length) (c := co33) ?_).2.2; exact (rA (rF9 HO246.out BK257.out))); (case side6 => exact (Kd.R_reads' HO246.out).2.1); (case side7 => refine (Kd.R_reads' (e := 4) (base := w.heap.size) (ok := fun k_ => ((some k_ ≠ (.slice Ao35 t250.length co35 : Value).ownBlock ∧ some k_ ≠ (.slice Ao23 t227.length co23 : Value).ownBlock) ∧ some k_ ≠ (.slice Ao24 t230.length co24 : Value).ownBlock)) (n := t247.length) (c := co34) ?_).2.2; exact (rA (rF9 HO249.out BK257.out))); (case side8 => exact (Kd.R_reads' HO249.out).2.1); (case side9 => refine (Kd.R_reads' (e := 4) (base := w.heap.size) (ok := fun k_ => ((some k_ ≠ (.slice Ao34 t247.length co34 : Value).ownBlock ∧ some k_ ≠ (.slice Ao23 t227.length co23 : Value).ownBlock) ∧ some k_ ≠ (.slice Ao24 t230.length co24 : Value).ownBlock)) (n := t250.length) (c := co35) ?_).2.2; exact (rA (rF9 HO252.out BK257.out))); (case side10 => exact (Kd.R_reads' HO252.out).2.1); rintro e w36 ⟨rfl, hb⟩; refine ⟨_, rfl, ?_⟩; replace HO220 := Aside0.mk (Kd.R_below (rA (rF9 HO220.out BK257.out)) hb); replace HO223 := Aside0.mk (Kd.R_below (rA (rF9 HO223.out BK257.out)) hb); replace HO226 := Aside0.mk (Kd.R_below (rA (rF9 HO226.out BK257.out)) hb); replace HO229 := Aside0.mk (Kd.R_below (rA (rF9 HO229.out BK257.out)) hb); replace HO232 := Aside0.mk (Kd.R_below (rA (rF9 HO232.out BK257.out)) hb); replace HO240 := Aside0.mk (Kd.R_below (rA (rF9 HO240.out BK257.out)) hb); replace HO243 := Aside0.mk (Kd.R_below (rA (rF9 HO243.out BK257.out)) hb); replace HO246 := Aside0.mk (Kd.R_below (rA (rF9 HO246.out BK257.out)) hb); replace HO249 := Aside0.mk (Kd.R_below (rA (rF9 HO249.out BK257.out)) hb); replace HO252 := Aside0.mk (Kd.R_below (rA (rF9 HO252.out BK257.out)) hb); replace BK216 := Aside0.mk (blk_below (g := gb216) (o := .cells #[.slice A0_0 l0_0.length c0_0, .slice A0_1 l0_1.length c0_1, .slice A0_2 l0_2.length c0_2, .slice A0_3 l0_3.length c0_3, .slice A0_4 l0_4.length c0_4, .int .i64 a0_5, .int .i64 a0_6, .int .i64 a0_7, .int .i64 a0_8] 25 (0, 0)) (by (with_reducible repeat (first | refine blk_drewN ?_ _ | refine blk_drew ?_ | refine blk_alloc ?_ _)); refine blk_far ?_ NB216_257.out _; (with_reducible repeat (first | refine blk_drewN ?_ _ | refine blk_drew ?_ | refine blk_alloc ?_ _)); refine blk_far ?_ NB216_257.out _; (with_reducible repeat (first | refine blk_drewN ?_ _ | refine blk_drew ?_ | refine blk_alloc ?_ _)); refine blk_far ?_ NB216_257.out _; (with_reducible repeat (first | refine blk_drewN ?_ _ | refine blk_drew ?_ | refine blk_alloc ?_ _)); refine blk_far ?_ NB216_257.out _; (with_reducible repeat (first | refine blk_drewN ?_ _ | refine blk_drew ?_ | refine blk_alloc ?_ _)); refine blk_far ?_ NB216_257.out _; (with_reducible repeat (first | refine blk_drewN ?_ _ | refine blk_drew ?_ | refine blk_alloc ?_ _)); refine blk_far ?_ NB216_257.out _; (with_reducible repeat (first | refine blk_drewN ?_ _ | refine blk_drew ?_ | refine blk_alloc ?_ _)); refine blk_far ?_ NB216_257.out _; (with_reducible repeat (first | refine blk_drewN ?_ _ | refine blk_drew ?_ | refine blk_alloc ?_ _)); refine blk_far ?_ NB216_257.out _; (with_reducible repeat (first | refine blk_drewN ?_ _ | refine blk_drew ?_ | refine blk_alloc ?_ _)); refine blk_far ?_ NB216_257.out _; (with_reducible repeat (first | refine blk_drewN ?_ _ | refine blk_drew ?_ | refine blk_alloc ?_ _)); exact BK216.out) hb); replace BK257 := Aside0.mk (blk_below (g := gb257) (o := .cells #[.slice Ao29 t238.length co29, .slice Ao32 t241.length co32, .slice Ao33 t244.length co33, .slice Ao34 t247.length co34, .slice Ao35 t250.length co35, .int .i64 t253, .int .i64 t254, .int .i64 t255, .int .i64 t256] 28 (0, 0)) (by (with_reducible repeat (first | refine blk_drewN ?_ _ | refine blk_drew ?_ | refine blk_alloc ?_ _)); refine blk_put (cs := #[.slice Ao29 t238.length co29, .slice Ao32 t241.length co32, .slice Ao33 t244.length co33, .slice Ao34 t247.length co34, .slice Ao35 t250.length co35, .int .i64 t253, .int .i64 t254, .int .i64 t255, .int .i64 0]) ?_ 8 _ rfl; (with_reducible repeat (first | refine blk_drewN ?_ _ | refine blk_drew ?_ | refine blk_alloc ?_ _)); refine blk_put (cs := #[.slice Ao29 t238.length co29, .slice Ao32 t241.length co32, .slice Ao33 t244.length co33, .slice Ao34 t247.length co34, .slice Ao35 t250.length co35, .int .i64 t253, .int .i64 t254, .int .i64 0, .int .i64 0]) ?_ 7 _ rfl; (with_reducible repeat (first | refine blk_drewN ?_ _ | refine blk_drew ?_ | refine blk_alloc ?_ _)); refine blk_put (cs := #[.slice Ao29 t238.length co29, .slice Ao32 t241.length co32, .slice Ao33 t244.length co33, .slice Ao34 t247.length co34, .slice Ao35 t250.length co35, .int .i64 t253, .int .i64 0, .int .i64 0, .int .i64 0]) ?_ 6 _ rfl; (with_reducible repeat (first | refine blk_drewN ?_ _ | refine blk_drew ?_ | refine blk_alloc ?_ _)); refine blk_put (cs := #[.slice Ao29 t238.length co29, .slice Ao32 t241.length co32, .slice Ao33 t244.length co33, .slice Ao34 t247.length co34, .slice Ao35 t250.length co35, .int .i64 0, .int .i64 0, .int .i64 0, .int .i64 0]) ?_ 5 _ rfl; (with_reducible repeat (first | refine blk_drewN ?_ _ | refine blk_drew ?_ | refine blk_alloc ?_ _)); refine blk_put (cs := #[.slice Ao29 t238.length co29, .slice Ao32 t241.length co32, .slice Ao33 t244.length co33, .slice Ao34 t247.length co34, .slice none 0 0, .int .i64 0, .int .i64 0, .int .i64 0, .int .i64 0]) ?_ 4 _ rfl; (with_reducible repeat (first | refine blk_drewN ?_ _ | refine blk_drew ?_ | refine blk_alloc ?_ _)); refine blk_put (cs := #[.slice Ao29 t238.length co29, .slice Ao32 t241.length co32, .slice Ao33 t244.length co33, .slice none 0 0, .slice none 0 0, .int .i64 0, .int .i64 0, .int .i64 0, .int .i64 0]) ?_ 3 _ rfl; (with_reducible repeat (first | refine blk_drewN ?_ _ | refine blk_drew ?_ | refine blk_alloc ?_ _)); refine blk_put (cs := #[.slice Ao29 t238.length co29, .slice Ao32 t241.length co32, .slice none 0 0, .slice none 0 0, .slice none 0 0, .int .i64 0, .int .i64 0, .int .i64 0, .int .i64 0]) ?_ 2 _ rfl; (with_reducible repeat (first | refine blk_drewN ?_ _ | refine blk_drew ?_ | refine blk_alloc ?_ _)); refine blk_put (cs := #[.slice Ao29 t238.length co29, .slice none 0 0, .slice none 0 0, .slice none 0 0, .slice none 0 0, .int .i64 0, .int .i64 0, .int .i64 0, .int .i64 0]) ?_ 1 _ rfl; (with_reducible repeat (first | refine blk_drewN ?_ _ | refine blk_drew ?_ | refine blk_alloc ?_ _)); refine blk_put (cs := #[.slice none 0 0, .slice none 0 0, .slice none 0 0, .slice none 0 0, .slice none 0 0, .int .i64 0, .int .i64 0, .int .i64 0, .int .i64 0]) ?_ 0 _ rfl; (with_reducible repeat (first | refine blk_drewN ?_ _ | refine blk_drew ?_ | refine blk_alloc ?_ _)); exact BK257.out) hb); replace HB := Aside0.mk (below_step (bA HB.out) hb); (try clear hb)))
    replace HO220 := Aside0.mk (Kd.R_drew HO220.out)
    replace HO223 := Aside0.mk (Kd.R_drew HO223.out)
    replace HO226 := Aside0.mk (Kd.R_drew HO226.out)
    replace HO229 := Aside0.mk (Kd.R_drew HO229.out)
    replace HO232 := Aside0.mk (Kd.R_drew HO232.out)
    replace HO240 := Aside0.mk (Kd.R_drew HO240.out)
    replace HO243 := Aside0.mk (Kd.R_drew HO243.out)
    replace HO246 := Aside0.mk (Kd.R_drew HO246.out)
    replace HO249 := Aside0.mk (Kd.R_drew HO249.out)
    replace HO252 := Aside0.mk (Kd.R_drew HO252.out)
    replace BK216 := Aside0.mk (blk_drew BK216.out)
    replace BK257 := Aside0.mk (blk_drew BK257.out)
    replace HB := Aside0.mk (below_drew1 HB.out)
    refine start_ (n := 5) (S := fun w' => w'.cell? ⟨gb257, 0, none⟩ = some (.slice Ao29 t238.length co29) ∧ w'.cell? ⟨gb257, 1, none⟩ = some (.slice Ao32 t241.length co32) ∧ w'.cell? ⟨gb257, 2, none⟩ = some (.slice Ao33 t244.length co33) ∧ w'.cell? ⟨gb257, 3, none⟩ = some (.slice Ao34 t247.length co34) ∧ w'.cell? ⟨gb257, 4, none⟩ = some (.slice Ao35 t250.length co35) ∧ w'.cell? ⟨gb257, 5, none⟩ = some (.int .i64 t253) ∧ w'.cell? ⟨gb257, 6, none⟩ = some (.int .i64 t254) ∧ w'.cell? ⟨gb257, 7, none⟩ = some (.int .i64 t255) ∧ w'.cell? ⟨gb257, 8, none⟩ = some (.int .i64 t256) ∧ w'.cell? ⟨gb216, 0, none⟩ = some (.slice A0_0 l0_0.length c0_0) ∧ w'.cell? ⟨gb216, 1, none⟩ = some (.slice A0_1 l0_1.length c0_1) ∧ w'.cell? ⟨gb216, 2, none⟩ = some (.slice A0_2 l0_2.length c0_2) ∧ w'.cell? ⟨gb216, 3, none⟩ = some (.slice A0_3 l0_3.length c0_3) ∧ w'.cell? ⟨gb216, 4, none⟩ = some (.slice A0_4 l0_4.length c0_4) ∧ w'.cell? ⟨gb216, 5, none⟩ = some (.int .i64 a0_5) ∧ w'.cell? ⟨gb216, 6, none⟩ = some (.int .i64 a0_6) ∧ w'.cell? ⟨gb216, 7, none⟩ = some (.int .i64 a0_7) ∧ w'.cell? ⟨gb216, 8, none⟩ = some (.int .i64 a0_8)) (ds := []) #[false, false, false, false, false] (by kernel_rfl) rfl rfl ⟨(blk_cell BK257.out 0).trans rfl, (blk_cell BK257.out 1).trans rfl, (blk_cell BK257.out 2).trans rfl, (blk_cell BK257.out 3).trans rfl, (blk_cell BK257.out 4).trans rfl, (blk_cell BK257.out 5).trans rfl, (blk_cell BK257.out 6).trans rfl, (blk_cell BK257.out 7).trans rfl, (blk_cell BK257.out 8).trans rfl, (blk_cell BK216.out 0).trans rfl, (blk_cell BK216.out 1).trans rfl, (blk_cell BK216.out 2).trans rfl, (blk_cell BK216.out 3).trans rfl, (blk_cell BK216.out 4).trans rfl, (blk_cell BK216.out 5).trans rfl, (blk_cell BK216.out 6).trans rfl, (blk_cell BK216.out 7).trans rfl, (blk_cell BK216.out 8).trans rfl⟩ (fun hHeld => ?_)
    generalize w36.drew = w37 at HO220 HO223 HO226 HO229 HO232 HO240 HO243 HO246 HO249 HO252 BK216 BK257 HB hHeld ⊢
    refine take_ (i := 0) (N := some 22) (v := ?_) (a' := ?_) #[true, false, false, false, false] rfl rfl (by kernel_rfl) (fun _ _ _ h => h) (Or.inl ⟨by rfl, ?_⟩) hHeld ?_ ?_
    rotate_left
    ·rintro w' ⟨s0, s1, s2, s3, s4, s5, s6, s7, s8, s9, s10, s11, s12, s13, s14, s15, s16, s17⟩
     go_simp
     with_reducible rfl
    rotate_left
    ·simp only [Act.put, List.setIfInBounds_toArray, List.set_cons_zero, List.set_cons_succ, i64_w, i32_w]
     rfl
    refine take_ (i := 1) (N := some 23) (v := ?_) (a' := ?_) #[true, true, false, false, false] rfl rfl (by kernel_rfl) (fun _ _ _ h => h) (Or.inl ⟨by rfl, ?_⟩) hHeld ?_ ?_
    rotate_left
    ·rintro w' ⟨s0, s1, s2, s3, s4, s5, s6, s7, s8, s9, s10, s11, s12, s13, s14, s15, s16, s17⟩
     go_simp
     with_reducible rfl
    rotate_left
    ·simp only [Act.put, List.setIfInBounds_toArray, List.set_cons_zero, List.set_cons_succ, i64_w, i32_w]
     rfl
    refine one_ (i := 2) (N := some 24) #[true, true, true, false, false] rfl rfl (by kernel_rfl) (by decide) (fun K hK => ?_)
    refine gO Try.func17 #[.agg #[.slice A0_0 l0_0.length c0_0, .slice A0_1 l0_1.length c0_1, .slice A0_2 l0_2.length c0_2, .slice A0_3 l0_3.length c0_3, .slice A0_4 l0_4.length c0_4, .int .i64 a0_5, .int .i64 a0_6, .int .i64 a0_7, .int .i64 a0_8]] ?_
    with_reducible refine (laws_toBetting.calls k _ _ l0_0 _ _ l0_1 _ _ l0_2 _ _ l0_3 _ _ l0_4 a0_5 a0_6 a0_7 a0_8 t259 t262 t265 t268 t271 t274 t275 t276 t277 _ ?side1 ?side2 ?side3 ?side4 ?side5 ?side6 ?side7 ?side8 ?side9 ?side10 A12.out).mono ?_
    (case side1 => exact cA (Kd.C_below HR0_0.out HB.out))
    (case side2 => exact HC0_0.out)
    (case side3 => exact cA (Kd.C_below HR0_1.out HB.out))
    (case side4 => exact HC0_1.out)
    (case side5 => exact cA (Kd.C_below HR0_2.out HB.out))
    (case side6 => exact HC0_2.out)
    (case side7 => exact cA (Kd.C_below HR0_3.out HB.out))
    (case side8 => exact HC0_3.out)
    (case side9 => exact cA (Kd.C_below HR0_4.out HB.out))
    (case side10 => exact HC0_4.out)
    rintro e w38 ⟨v260, v263, v266, v269, v272, rfl, ho0, ho1, ho2, ho3, ho4, hb⟩
    refine ⟨_, rfl, ?_⟩
    have HO261 := Aside0.mk (Kd.R_lower (Kd.R_new' (Kd.R_new' (Kd.R_new' (Kd.R_new' (Kd.R_new' (Kd.R_new' ho0 (Kd.R_lt (rA HO220.out))) (Kd.R_lt (rA HO223.out))) (Kd.R_lt (rA HO226.out))) (Kd.R_lt (rA HO240.out))) (Kd.R_lt (rA HO243.out))) (Kd.R_lt (rA HO246.out))) (below_size (bA HB.out)))
    have HO264 := Aside0.mk (Kd.R_lower (Kd.R_new' (Kd.R_new' (Kd.R_new' (Kd.R_new' (Kd.R_new' (Kd.R_new' ho1 (Kd.R_lt (rA HO220.out))) (Kd.R_lt (rA HO223.out))) (Kd.R_lt (rA HO226.out))) (Kd.R_lt (rA HO240.out))) (Kd.R_lt (rA HO243.out))) (Kd.R_lt (rA HO246.out))) (below_size (bA HB.out)))
    have HO267 := Aside0.mk (Kd.R_lower (Kd.R_new' (Kd.R_new' (Kd.R_new' (Kd.R_new' (Kd.R_new' (Kd.R_new' ho2 (Kd.R_lt (rA HO220.out))) (Kd.R_lt (rA HO223.out))) (Kd.R_lt (rA HO226.out))) (Kd.R_lt (rA HO240.out))) (Kd.R_lt (rA HO243.out))) (Kd.R_lt (rA HO246.out))) (below_size (bA HB.out)))
    replace HO220 := Aside0.mk (Kd.R_mono (Kd.R_told (Kd.R_told (Kd.R_told (Kd.R_old (rA HO220.out) hb) (Kd.R_base ho0)) (Kd.R_base ho1)) (Kd.R_base ho2)) (fun _ h_ => h_.1))
    replace HO223 := Aside0.mk (Kd.R_mono (Kd.R_told (Kd.R_told (Kd.R_told (Kd.R_old (rA HO223.out) hb) (Kd.R_base ho0)) (Kd.R_base ho1)) (Kd.R_base ho2)) (fun _ h_ => h_.1))
    replace HO226 := Aside0.mk (Kd.R_mono (Kd.R_told (Kd.R_told (Kd.R_told (Kd.R_old (rA HO226.out) hb) (Kd.R_base ho0)) (Kd.R_base ho1)) (Kd.R_base ho2)) (fun _ h_ => h_.1))
    replace HO240 := Aside0.mk (Kd.R_mono (Kd.R_told (Kd.R_told (Kd.R_told (Kd.R_old (rA HO240.out) hb) (Kd.R_base ho0)) (Kd.R_base ho1)) (Kd.R_base ho2)) (fun _ h_ => h_.1))
    replace HO243 := Aside0.mk (Kd.R_mono (Kd.R_told (Kd.R_told (Kd.R_told (Kd.R_old (rA HO243.out) hb) (Kd.R_base ho0)) (Kd.R_base ho1)) (Kd.R_base ho2)) (fun _ h_ => h_.1))
    replace HO246 := Aside0.mk (Kd.R_mono (Kd.R_told (Kd.R_told (Kd.R_told (Kd.R_old (rA HO246.out) hb) (Kd.R_base ho0)) (Kd.R_base ho1)) (Kd.R_base ho2)) (fun _ h_ => h_.1))
    have HO270 := Aside0.mk (Kd.R_lower (Kd.R_new' (Kd.R_new' (Kd.R_new' (Kd.R_new' ho3 (Kd.R_lt (rA HO229.out))) (Kd.R_lt (rA HO232.out))) (Kd.R_lt (rA HO249.out))) (Kd.R_lt (rA HO252.out))) (below_size (bA HB.out)))
    have HO273 := Aside0.mk (Kd.R_lower (Kd.R_new' (Kd.R_new' (Kd.R_new' (Kd.R_new' ho4 (Kd.R_lt (rA HO229.out))) (Kd.R_lt (rA HO232.out))) (Kd.R_lt (rA HO249.out))) (Kd.R_lt (rA HO252.out))) (below_size (bA HB.out)))
    replace HO229 := Aside0.mk (Kd.R_mono (Kd.R_told (Kd.R_told (Kd.R_old (rA HO229.out) hb) (Kd.R_base ho3)) (Kd.R_base ho4)) (fun _ h_ => h_.1))
    replace HO232 := Aside0.mk (Kd.R_mono (Kd.R_told (Kd.R_told (Kd.R_old (rA HO232.out) hb) (Kd.R_base ho3)) (Kd.R_base ho4)) (fun _ h_ => h_.1))
    replace HO249 := Aside0.mk (Kd.R_mono (Kd.R_told (Kd.R_told (Kd.R_old (rA HO249.out) hb) (Kd.R_base ho3)) (Kd.R_base ho4)) (fun _ h_ => h_.1))
    replace HO252 := Aside0.mk (Kd.R_mono (Kd.R_told (Kd.R_told (Kd.R_old (rA HO252.out) hb) (Kd.R_base ho3)) (Kd.R_base ho4)) (fun _ h_ => h_.1))
    replace BK216 := Aside0.mk (blk_below (kA BK216.out) hb)
    replace BK257 := Aside0.mk (blk_below (kA BK257.out) hb)
    replace HB := Aside0.mk (below_step (bA HB.out) hb)
    (try clear hb)
    (try clear ho0)
    (try clear ho1)
    (try clear ho2)
    (try clear ho3)
    (try clear ho4)
    obtain ⟨Ao39, co39, eo39⟩ := Kd.R_slice HO261.out
    (first | subst eo39 | (injection eo39 with f1_ f2_ f3_; have f4_ := f1_.symm; have f5_ := f3_.symm; clear f1_ f2_ f3_; subst f4_; subst f5_))
    obtain ⟨Ao40, co40, eo40⟩ := Kd.R_slice HO264.out
    (first | subst eo40 | (injection eo40 with f1_ f2_ f3_; have f4_ := f1_.symm; have f5_ := f3_.symm; clear f1_ f2_ f3_; subst f4_; subst f5_))
    obtain ⟨Ao41, co41, eo41⟩ := Kd.R_slice HO267.out
    (first | subst eo41 | (injection eo41 with f1_ f2_ f3_; have f4_ := f1_.symm; have f5_ := f3_.symm; clear f1_ f2_ f3_; subst f4_; subst f5_))
    obtain ⟨Ao42, co42, eo42⟩ := Kd.R_slice HO270.out
    (first | subst eo42 | (injection eo42 with f1_ f2_ f3_; have f4_ := f1_.symm; have f5_ := f3_.symm; clear f1_ f2_ f3_; subst f4_; subst f5_))
    obtain ⟨Ao43, co43, eo43⟩ := Kd.R_slice HO273.out
    (first | subst eo43 | (injection eo43 with f1_ f2_ f3_; have f4_ := f1_.symm; have f5_ := f3_.symm; clear f1_ f2_ f3_; subst f4_; subst f5_))
    refine hK.out _ _ ⟨(blk_cell BK257.out 0).trans rfl, (blk_cell BK257.out 1).trans rfl, (blk_cell BK257.out 2).trans rfl, (blk_cell BK257.out 3).trans rfl, (blk_cell BK257.out 4).trans rfl, (blk_cell BK257.out 5).trans rfl, (blk_cell BK257.out 6).trans rfl, (blk_cell BK257.out 7).trans rfl, (blk_cell BK257.out 8).trans rfl, (blk_cell BK216.out 0).trans rfl, (blk_cell BK216.out 1).trans rfl, (blk_cell BK216.out 2).trans rfl, (blk_cell BK216.out 3).trans rfl, (blk_cell BK216.out 4).trans rfl, (blk_cell BK216.out 5).trans rfl, (blk_cell BK216.out 6).trans rfl, (blk_cell BK216.out 7).trans rfl, (blk_cell BK216.out 8).trans rfl⟩ (fun hHeld => ?_)
    clear hK K
    refine nO 24 ?_
    refine one_ (i := 3) (N := some 25) #[true, true, true, true, false] rfl rfl (by kernel_rfl) (by decide) (fun K hK => ?_)
    refine gO Try.func19 #[.agg #[.slice Ao29 t238.length co29, .slice Ao32 t241.length co32, .slice Ao33 t244.length co33, .slice Ao34 t247.length co34, .slice Ao35 t250.length co35, .int .i64 t253, .int .i64 t254, .int .i64 t255, .int .i64 t256], .agg #[.slice Ao39 t259.length co39, .slice Ao40 t262.length co40, .slice Ao41 t265.length co41, .slice Ao42 t268.length co42, .slice Ao43 t271.length co43, .int .i64 t274, .int .i64 t275, .int .i64 t276, .int .i64 t277]] ?_
    with_reducible refine (laws_eqBetting.calls k _ _ t238 _ _ t241 _ _ t244 _ _ t247 _ _ t250 t253 t254 t255 t256 _ _ t259 _ _ t262 _ _ t265 _ _ t268 _ _ t271 t274 t275 t276 t277 true _ ?side1 ?side2 ?side3 ?side4 ?side5 ?side6 ?side7 ?side8 ?side9 ?side10 ?side11 ?side12 ?side13 ?side14 ?side15 ?side16 ?side17 ?side18 ?side19 ?side20 A13.out).mono ?_
    (case side1 => exact cA ((Kd.R_reads' HO240.out).2.2))
    (case side2 => exact (Kd.R_reads' HO240.out).2.1)
    (case side3 => exact cA ((Kd.R_reads' HO243.out).2.2))
    (case side4 => exact (Kd.R_reads' HO243.out).2.1)
    (case side5 => exact cA ((Kd.R_reads' HO246.out).2.2))
    (case side6 => exact (Kd.R_reads' HO246.out).2.1)
    (case side7 => exact cA ((Kd.R_reads' HO249.out).2.2))
    (case side8 => exact (Kd.R_reads' HO249.out).2.1)
    (case side9 => exact cA ((Kd.R_reads' HO252.out).2.2))
    (case side10 => exact (Kd.R_reads' HO252.out).2.1)
    (case side11 => exact cA ((Kd.R_reads' HO261.out).2.2))
    (case side12 => exact (Kd.R_reads' HO261.out).2.1)
    (case side13 => exact cA ((Kd.R_reads' HO264.out).2.2))
    (case side14 => exact (Kd.R_reads' HO264.out).2.1)
    (case side15 => exact cA ((Kd.R_reads' HO267.out).2.2))
    (case side16 => exact (Kd.R_reads' HO267.out).2.1)
    (case side17 => exact cA ((Kd.R_reads' HO270.out).2.2))
    (case side18 => exact (Kd.R_reads' HO270.out).2.1)
    (case side19 => exact cA ((Kd.R_reads' HO273.out).2.2))
    (case side20 => exact (Kd.R_reads' HO273.out).2.1)
    rintro e w44 ⟨rfl, hb⟩
    refine ⟨_, rfl, ?_⟩
    replace HO220 := Aside0.mk (Kd.R_below (rA HO220.out) hb)
    replace HO223 := Aside0.mk (Kd.R_below (rA HO223.out) hb)
    replace HO226 := Aside0.mk (Kd.R_below (rA HO226.out) hb)
    replace HO229 := Aside0.mk (Kd.R_below (rA HO229.out) hb)
    replace HO232 := Aside0.mk (Kd.R_below (rA HO232.out) hb)
    replace HO240 := Aside0.mk (Kd.R_below (rA HO240.out) hb)
    replace HO243 := Aside0.mk (Kd.R_below (rA HO243.out) hb)
    replace HO246 := Aside0.mk (Kd.R_below (rA HO246.out) hb)
    replace HO249 := Aside0.mk (Kd.R_below (rA HO249.out) hb)
    replace HO252 := Aside0.mk (Kd.R_below (rA HO252.out) hb)
    replace HO261 := Aside0.mk (Kd.R_below (rA HO261.out) hb)
    replace HO264 := Aside0.mk (Kd.R_below (rA HO264.out) hb)
    replace HO267 := Aside0.mk (Kd.R_below (rA HO267.out) hb)
    replace HO270 := Aside0.mk (Kd.R_below (rA HO270.out) hb)
    replace HO273 := Aside0.mk (Kd.R_below (rA HO273.out) hb)
    replace BK216 := Aside0.mk (blk_below (kA BK216.out) hb)
    replace BK257 := Aside0.mk (blk_below (kA BK257.out) hb)
    replace HB := Aside0.mk (below_step (bA HB.out) hb)
    (try clear hb)
    refine hK.out _ _ ⟨(blk_cell BK257.out 0).trans rfl, (blk_cell BK257.out 1).trans rfl, (blk_cell BK257.out 2).trans rfl, (blk_cell BK257.out 3).trans rfl, (blk_cell BK257.out 4).trans rfl, (blk_cell BK257.out 5).trans rfl, (blk_cell BK257.out 6).trans rfl, (blk_cell BK257.out 7).trans rfl, (blk_cell BK257.out 8).trans rfl, (blk_cell BK216.out 0).trans rfl, (blk_cell BK216.out 1).trans rfl, (blk_cell BK216.out 2).trans rfl, (blk_cell BK216.out 3).trans rfl, (blk_cell BK216.out 4).trans rfl, (blk_cell BK216.out 5).trans rfl, (blk_cell BK216.out 6).trans rfl, (blk_cell BK216.out 7).trans rfl, (blk_cell BK216.out 8).trans rfl⟩ (fun hHeld => ?_)
    clear hK K
    refine nO 25 ?_
    refine pure_ (i := 4) (N := some 26) (v := ?_) (a' := ?_) #[true, true, true, true, true] rfl rfl (by kernel_rfl) (fun _ _ _ h => h) (Or.inl ⟨by rfl, ?_⟩) ?_ ?_
    rotate_left
    ·intro w'
     go_simp
     with_reducible rfl
    rotate_left
    ·simp only [Act.put, List.setIfInBounds_toArray, List.set_cons_zero, List.set_cons_succ, i64_w, i32_w]
     rfl
    refine done_ (by kernel_rfl) ?_
    try go_wp2
    go_ret
    exact ⟨by first | rfl | (simp [errW_none, errW_some] <;> rfl) | (simp [*, errW_none, errW_some] <;> rfl), bA HB.out⟩
   ·replace c14 := Bool.eq_false_iff.mpr c14
    subst c14
    rw [if_neg (show ¬ (false = true) by decide)] at H
    try dsimp only at H
    exact absurd H (by simp)
end Go.Proofs.Ytmcobmphmmgdmaa.QFnExactIsOpen
