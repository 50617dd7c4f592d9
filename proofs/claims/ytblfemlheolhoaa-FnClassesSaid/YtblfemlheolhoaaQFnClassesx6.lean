import Derived.Test.YtblfemlheolhoaaQFnClassesx0
import Derived.Test.YtblfemlheolhoaaQFnClassesx1
import Derived.Test.YtblfemlheolhoaaQFnClassesx2
import Derived.Test.YtblfemlheolhoaaQFnClassesx4
import Derived.Test.YtblfemlheolhoaaQFnClassesx5
namespace Go.Proofs.Ytblfemlheolhoaa.QFnClasses
open Go.RowKit Go.Proofs.YtblfemlheolhoaaW.PrintWords Go.Proofs.YtblfemlheolhoaaW.PrintLast Go.Proofs.YtblfemlheolhoaaW.PrintMore
attribute [local go_sem] max2_int min2_int max_two min_two max_three min_three max_four min_four   -- for this text's walks alone
set_option linter.unusedVariables false
set_option linter.unusedSimpArgs false

/-! ### spec_l01Damage: function 111 -/
def spec_l01Damage.f (s0_0 : List Int) (s0_1 : Int) (s0_2 : Int) (a1 : ByteArray) : Option (ByteArray × Int × Int) := (spec_l01Next.f s0_0 s0_1 s0_2 (wrap64 ((a1.size : Int) + 1))).bind fun bt267 => ((spec_l01Next.f s0_0 bt267.2.1 bt267.2.2 8).bind fun bt270 => (if bt270.1 = 0 then (if 0 ≤ bt267.1 then (if bt267.1 ≤ (a1.size : Int) then (some (a1.extract 0 (bt267.1 : Int).toNat, bt270.2.1, bt270.2.2)) else (none)) else (none)) else (if bt270.1 = 1 then (if 0 ≤ bt267.1 then (if bt267.1 ≤ (a1.size : Int) then ((some (([(⟨#[48]⟩ : ByteArray), (⟨#[35]⟩ : ByteArray), (⟨#[46]⟩ : ByteArray), (⟨#[47]⟩ : ByteArray), (⟨#[32]⟩ : ByteArray), (⟨#[97]⟩ : ByteArray), (⟨#[45]⟩ : ByteArray), (⟨#[10]⟩ : ByteArray)] : List ByteArray) : List ByteArray)).bind fun y273 => ((spec_l01Next.f s0_0 bt270.2.1 bt270.2.2 8).bind fun bt276 => (if 0 ≤ bt276.1 then (if bt276.1 < (y273.length : Int) then (if (a1.extract 0 (bt267.1 : Int).toNat).size + (rdOf ByteArray.empty y273 bt276.1).size ≤ 9223372036854775807 then (if ((a1.extract 0 (bt267.1 : Int).toNat) ++ (rdOf ByteArray.empty y273 bt276.1)).size + (a1.extract (bt267.1 : Int).toNat a1.size).size ≤ 9223372036854775807 then (some (((a1.extract 0 (bt267.1 : Int).toNat) ++ (rdOf ByteArray.empty y273 bt276.1)) ++ (a1.extract (bt267.1 : Int).toNat a1.size), bt276.2.1, bt276.2.2)) else (none)) else (none)) else (none)) else (none)))) else (none)) else (none)) else (if bt270.1 = 2 then (if bt267.1 < (a1.size : Int) then (if 0 ≤ bt267.1 then (if bt267.1 ≤ (a1.size : Int) then (if 0 ≤ (wrap64 (bt267.1 + 1)) then (if (wrap64 (bt267.1 + 1)) ≤ (a1.size : Int) then (if (a1.extract 0 (bt267.1 : Int).toNat).size + (a1.extract ((wrap64 (bt267.1 + 1)) : Int).toNat a1.size).size ≤ 9223372036854775807 then (some ((a1.extract 0 (bt267.1 : Int).toNat) ++ (a1.extract ((wrap64 (bt267.1 + 1)) : Int).toNat a1.size), bt270.2.1, bt270.2.2)) else (none)) else (none)) else (none)) else (none)) else (none)) else (some (a1, bt270.2.1, bt270.2.2))) else (some (a1, bt270.2.1, bt270.2.2))))))
def spec_l01Damage.T6 : Bool × List (List Nat × List Nat) := (true, [([], []), ([], []), ([0, 1], [0, 1]), ([], []), ([], []), ([4], [4]), ([3, 5], [3, 5]), ([6], [6]), ([2, 7], [2, 7]), ([], []), ([], []), ([9, 10], [9, 10]), ([8, 11], [8, 11]), ([12, 5, 0, 1, 2, 3, 4, 5, 6, 7, 8, 9, 10, 11, 12], [12])])
def spec_l01Damage.B6 : List Nat := [0, 0, 3, 0, 0, 16, 56, 120, 255, 0, 0, 1536, 4095, 8191]
theorem spec_l01Damage.tab6 : rtab .any (opsOf Try.f111 6) = spec_l01Damage.T6 := by kernel_rfl
theorem spec_l01Damage.bits6 : waitsOk spec_l01Damage.T6.2 spec_l01Damage.B6 = true := by kernel_rfl
def spec_l01Damage.T9 : Bool × List (List Nat × List Nat) := (true, [([], []), ([], []), ([0, 1], [0, 1]), ([], []), ([], []), ([4], [4]), ([3, 5], [3, 5]), ([2, 6], [2, 6]), ([7, 0, 1, 2, 3, 4, 5, 6, 7], [7])])
def spec_l01Damage.B9 : List Nat := [0, 0, 3, 0, 0, 16, 56, 127, 255]
theorem spec_l01Damage.tab9 : rtab .any (opsOf Try.f111 9) = spec_l01Damage.T9 := by kernel_rfl
theorem spec_l01Damage.bits9 : waitsOk spec_l01Damage.T9.2 spec_l01Damage.B9 = true := by kernel_rfl
set_option maxHeartbeats 8000000 in
set_option maxRecDepth 100000 in
theorem spec_l01Damage.calls (g : Nat) (s0_0 : List Int) (s0_1 : Int) (s0_2 : Int) (a1 : ByteArray) (r1 : ByteArray) (r2 : Int) (r3 : Int) (w0 w : World) (hI : IsS138 w0 w g s0_0 s0_1 s0_2) (hB : Below w0.heap.size w0 w) (h : spec_l01Damage.f s0_0 s0_1 s0_2 a1 = some (r1, r2, r3)) :
    Calls Try.prog 111 #[.pointer (some ⟨g, 0, none⟩), .string a1] w fun e w' => e = .returned (.string r1) ∧ IsS138 w0 w' g s0_0 r2 r3 ∧ Below w0.heap.size w0 w' ∧ KeepBut w w' g none := by
  have HI0 := Aside0.mk hI
  have HK := Aside0.mk (KeepBut.refl w g none)
  have HL := Aside0.mk hB.size
  clear hI
  have HW0 := Aside0.mk hB.size
  have HB := Aside0.mk hB
  clear hB
  have H : ((spec_l01Next.f s0_0 s0_1 s0_2 (wrap64 ((a1.size : Int) + 1))).bind fun bt267 => ((spec_l01Next.f s0_0 bt267.2.1 bt267.2.2 8).bind fun bt270 => (if bt270.1 = 0 then (if 0 ≤ bt267.1 then (if bt267.1 ≤ (a1.size : Int) then (some (a1.extract 0 (bt267.1 : Int).toNat, bt270.2.1, bt270.2.2)) else (none)) else (none)) else (if bt270.1 = 1 then (if 0 ≤ bt267.1 then (if bt267.1 ≤ (a1.size : Int) then ((some (([(⟨#[48]⟩ : ByteArray), (⟨#[35]⟩ : ByteArray), (⟨#[46]⟩ : ByteArray), (⟨#[47]⟩ : ByteArray), (⟨#[32]⟩ : ByteArray), (⟨#[97]⟩ : ByteArray), (⟨#[45]⟩ : ByteArray), (⟨#[10]⟩ : ByteArray)] : List ByteArray) : List ByteArray)).bind fun y273 => ((spec_l01Next.f s0_0 bt270.2.1 bt270.2.2 8).bind fun bt276 => (if 0 ≤ bt276.1 then (if bt276.1 < (y273.length : Int) then (if (a1.extract 0 (bt267.1 : Int).toNat).size + (rdOf ByteArray.empty y273 bt276.1).size ≤ 9223372036854775807 then (if ((a1.extract 0 (bt267.1 : Int).toNat) ++ (rdOf ByteArray.empty y273 bt276.1)).size + (a1.extract (bt267.1 : Int).toNat a1.size).size ≤ 9223372036854775807 then (some (((a1.extract 0 (bt267.1 : Int).toNat) ++ (rdOf ByteArray.empty y273 bt276.1)) ++ (a1.extract (bt267.1 : Int).toNat a1.size), bt276.2.1, bt276.2.2)) else (none)) else (none)) else (none)) else (none)))) else (none)) else (none)) else (if bt270.1 = 2 then (if bt267.1 < (a1.size : Int) then (if 0 ≤ bt267.1 then (if bt267.1 ≤ (a1.size : Int) then (if 0 ≤ (wrap64 (bt267.1 + 1)) then (if (wrap64 (bt267.1 + 1)) ≤ (a1.size : Int) then (if (a1.extract 0 (bt267.1 : Int).toNat).size + (a1.extract ((wrap64 (bt267.1 + 1)) : Int).toNat a1.size).size ≤ 9223372036854775807 then (some ((a1.extract 0 (bt267.1 : Int).toNat) ++ (a1.extract ((wrap64 (bt267.1 + 1)) : Int).toNat a1.size), bt270.2.1, bt270.2.2)) else (none)) else (none)) else (none)) else (none)) else (none)) else (some (a1, bt270.2.1, bt270.2.2))) else (some (a1, bt270.2.1, bt270.2.2))))))) = some (r1, r2, r3) := h
  clear h
  replace H := Option.bind_eq_some_iff.mp H
  obtain ⟨⟨t267, t268, t269⟩, A30, H⟩ := H
  replace H : ((spec_l01Next.f s0_0 t268 t269 8).bind fun bt270 => (if bt270.1 = 0 then (if 0 ≤ t267 then (if t267 ≤ (a1.size : Int) then (some (a1.extract 0 (t267 : Int).toNat, bt270.2.1, bt270.2.2)) else (none)) else (none)) else (if bt270.1 = 1 then (if 0 ≤ t267 then (if t267 ≤ (a1.size : Int) then ((some (([(⟨#[48]⟩ : ByteArray), (⟨#[35]⟩ : ByteArray), (⟨#[46]⟩ : ByteArray), (⟨#[47]⟩ : ByteArray), (⟨#[32]⟩ : ByteArray), (⟨#[97]⟩ : ByteArray), (⟨#[45]⟩ : ByteArray), (⟨#[10]⟩ : ByteArray)] : List ByteArray) : List ByteArray)).bind fun y273 => ((spec_l01Next.f s0_0 bt270.2.1 bt270.2.2 8).bind fun bt276 => (if 0 ≤ bt276.1 then (if bt276.1 < (y273.length : Int) then (if (a1.extract 0 (t267 : Int).toNat).size + (rdOf ByteArray.empty y273 bt276.1).size ≤ 9223372036854775807 then (if ((a1.extract 0 (t267 : Int).toNat) ++ (rdOf ByteArray.empty y273 bt276.1)).size + (a1.extract (t267 : Int).toNat a1.size).size ≤ 9223372036854775807 then (some (((a1.extract 0 (t267 : Int).toNat) ++ (rdOf ByteArray.empty y273 bt276.1)) ++ (a1.extract (t267 : Int).toNat a1.size), bt276.2.1, bt276.2.2)) else (none)) else (none)) else (none)) else (none)))) else (none)) else (none)) else (if bt270.1 = 2 then (if t267 < (a1.size : Int) then (if 0 ≤ t267 then (if t267 ≤ (a1.size : Int) then (if 0 ≤ (wrap64 (t267 + 1)) then (if (wrap64 (t267 + 1)) ≤ (a1.size : Int) then (if (a1.extract 0 (t267 : Int).toNat).size + (a1.extract ((wrap64 (t267 + 1)) : Int).toNat a1.size).size ≤ 9223372036854775807 then (some ((a1.extract 0 (t267 : Int).toNat) ++ (a1.extract ((wrap64 (t267 + 1)) : Int).toNat a1.size), bt270.2.1, bt270.2.2)) else (none)) else (none)) else (none)) else (none)) else (none)) else (some (a1, bt270.2.1, bt270.2.2))) else (some (a1, bt270.2.1, bt270.2.2)))))) = some (r1, r2, r3) := H
  have A3 := Aside0.mk A30
  clear A30
  replace H := Option.bind_eq_some_iff.mp H
  obtain ⟨⟨t270, t271, t272⟩, A40, H⟩ := H
  replace H : (if t270 = 0 then (if 0 ≤ t267 then (if t267 ≤ (a1.size : Int) then (some (a1.extract 0 (t267 : Int).toNat, t271, t272)) else (none)) else (none)) else (if t270 = 1 then (if 0 ≤ t267 then (if t267 ≤ (a1.size : Int) then ((some (([(⟨#[48]⟩ : ByteArray), (⟨#[35]⟩ : ByteArray), (⟨#[46]⟩ : ByteArray), (⟨#[47]⟩ : ByteArray), (⟨#[32]⟩ : ByteArray), (⟨#[97]⟩ : ByteArray), (⟨#[45]⟩ : ByteArray), (⟨#[10]⟩ : ByteArray)] : List ByteArray) : List ByteArray)).bind fun y273 => ((spec_l01Next.f s0_0 t271 t272 8).bind fun bt276 => (if 0 ≤ bt276.1 then (if bt276.1 < (y273.length : Int) then (if (a1.extract 0 (t267 : Int).toNat).size + (rdOf ByteArray.empty y273 bt276.1).size ≤ 9223372036854775807 then (if ((a1.extract 0 (t267 : Int).toNat) ++ (rdOf ByteArray.empty y273 bt276.1)).size + (a1.extract (t267 : Int).toNat a1.size).size ≤ 9223372036854775807 then (some (((a1.extract 0 (t267 : Int).toNat) ++ (rdOf ByteArray.empty y273 bt276.1)) ++ (a1.extract (t267 : Int).toNat a1.size), bt276.2.1, bt276.2.2)) else (none)) else (none)) else (none)) else (none)))) else (none)) else (none)) else (if t270 = 2 then (if t267 < (a1.size : Int) then (if 0 ≤ t267 then (if t267 ≤ (a1.size : Int) then (if 0 ≤ (wrap64 (t267 + 1)) then (if (wrap64 (t267 + 1)) ≤ (a1.size : Int) then (if (a1.extract 0 (t267 : Int).toNat).size + (a1.extract ((wrap64 (t267 + 1)) : Int).toNat a1.size).size ≤ 9223372036854775807 then (some ((a1.extract 0 (t267 : Int).toNat) ++ (a1.extract ((wrap64 (t267 + 1)) : Int).toNat a1.size), t271, t272)) else (none)) else (none)) else (none)) else (none)) else (none)) else (some (a1, t271, t272))) else (some (a1, t271, t272))))) = some (r1, r2, r3) := H
  have A4 := Aside0.mk A40
  clear A40
  by_cases c5 : t270 = 0
  · rw [if_pos c5] at H
    have c5b0 : (t270 == 0) = true := beq_iff_eq.mpr c5
    have c5b1 : (t270 != 0) = false := bne_eq_false_iff_eq.mpr c5
    clear c5
    by_cases c6 : 0 ≤ t267
    · rw [if_pos c6] at H
      have c6b0 := eq_true c6
      have c6b1 : decide (0 ≤ t267) = true := decide_eq_true c6
      clear c6
      by_cases c7 : t267 ≤ (a1.size : Int)
      · rw [if_pos c7] at H
        have c7b0 := eq_true c7
        have c7b1 : decide (t267 ≤ (a1.size : Int)) = true := decide_eq_true c7
        clear c7
        simp only [Option.some.injEq, Prod.mk.injEq] at H
        obtain ⟨rfl, rfl, rfl⟩ := H
        go_enter Try.func111, Try.ntmps111
        go_wp2_with (first | ((with_reducible refine gate_callee (f := 105) rfl ?_); refine goesL_ (some 10) rfl rfl Try.func105 (by kernel_rfl) rfl #[.pointer (some ⟨g, 0, none⟩), .int .i64 (wrap64 ((a1.size : Int) + 1))] rfl (by (try simp only [List.map_toArray, List.map_cons, List.map_nil]); first | done | rfl | (simp only [List.length_drop, List.length_take]; rfl)) ?_; (with_reducible refine (spec_l01Next.calls g s0_0 s0_1 s0_2 (wrap64 ((a1.size : Int) + 1)) t267 t268 t269 w0 _ ?side1 ?side2 A3.out).mono ?_); (case side1 => repeat (first | (with_reducible first | exact HI0.out | apply IsS138.alloc | apply IsS138.drewN | apply IsS138.drew | apply IsS138.set_1 | apply IsS138.set_2) | exact HI0.out)); (case side2 => repeat (first | (with_reducible first | exact HB.out | apply below_alloc | apply pw_below_drewN | apply below_drew1 | refine below_set ?_ (IsS138.ge HI0.out)) | exact HB.out)); rintro e w8 ⟨rfl, hi, hb, hk⟩; refine ⟨_, rfl, ?_⟩; have n0_ := Aside0.mk (KeepBut.trans (by repeat (first | (with_reducible first | exact HK.out | apply KeepBut.set_ | apply keep_drewN | apply keep_drew | apply keep_alloc) | exact HK.out)) hk (.inl rfl)); have n1_ := Aside0.mk (hb); have n2_ := Aside0.mk (hi); clear HK; clear HB; clear HI0; have HK := n0_; have HB := n1_; have HI0 := n2_; clear n0_ n1_ n2_; (try clear hb); (try clear hb2); (try clear hk); (try clear hi)) | ((with_reducible refine gate_callee (f := 105) rfl ?_); refine goesL_ (some 12) rfl rfl Try.func105 (by kernel_rfl) rfl #[.pointer (some ⟨g, 0, none⟩), .int .i64 8] rfl (by (try simp only [List.map_toArray, List.map_cons, List.map_nil]); first | done | rfl | (simp only [List.length_drop, List.length_take]; rfl)) ?_; (with_reducible refine (spec_l01Next.calls g s0_0 t268 t269 8 t270 t271 t272 w0 _ ?side1 ?side2 A4.out).mono ?_); (case side1 => repeat (first | (with_reducible first | exact HI0.out | apply IsS138.alloc | apply IsS138.drewN | apply IsS138.drew | apply IsS138.set_1 | apply IsS138.set_2) | exact HI0.out)); (case side2 => repeat (first | (with_reducible first | exact HB.out | apply below_alloc | apply pw_below_drewN | apply below_drew1 | refine below_set ?_ (IsS138.ge HI0.out)) | exact HB.out)); rintro e w9 ⟨rfl, hi, hb, hk⟩; refine ⟨_, rfl, ?_⟩; have n0_ := Aside0.mk (KeepBut.trans (by repeat (first | (with_reducible first | exact HK.out | apply KeepBut.set_ | apply keep_drewN | apply keep_drew | apply keep_alloc) | exact HK.out)) hk (.inl rfl)); have n1_ := Aside0.mk (hb); have n2_ := Aside0.mk (hi); clear HK; clear HB; clear HI0; have HK := n0_; have HB := n1_; have HI0 := n2_; clear n0_ n1_ n2_; (try clear hb); (try clear hb2); (try clear hk); (try clear hi)))
        go_ret
        exact ⟨by first | rfl | (simp [errW_none, errW_some] <;> rfl) | (simp [*, errW_none, errW_some] <;> rfl), by repeat (first | (with_reducible first | exact HI0.out | apply IsS138.alloc | apply IsS138.drewN | apply IsS138.drew | apply IsS138.set_1 | apply IsS138.set_2) | exact HI0.out), by repeat (first | (with_reducible first | exact HB.out | apply below_alloc | apply pw_below_drewN | apply below_drew1 | refine below_set ?_ (IsS138.ge HI0.out)) | exact HB.out), by repeat (first | (with_reducible first | exact HK.out | apply KeepBut.set_ | apply keep_drewN | apply keep_drew | apply keep_alloc) | exact HK.out)⟩
      · rw [if_neg c7] at H
        exact absurd H (by simp)
    · rw [if_neg c6] at H
      exact absurd H (by simp)
  · rw [if_neg c5] at H
    have c5b0 : (t270 == 0) = false := beq_eq_false_iff_ne.mpr c5
    have c5b1 : (t270 != 0) = true := bne_iff_ne.mpr c5
    by_cases c10 : t270 = 1
    · rw [if_pos c10] at H
      have c10b0 : (t270 == 1) = true := beq_iff_eq.mpr c10
      have c10b1 : (t270 != 1) = false := bne_eq_false_iff_eq.mpr c10
      clear c10
      by_cases c11 : 0 ≤ t267
      · rw [if_pos c11] at H
        have c11b0 := eq_true c11
        have c11b1 : decide (0 ≤ t267) = true := decide_eq_true c11
        clear c11
        by_cases c12 : t267 ≤ (a1.size : Int)
        · rw [if_pos c12] at H
          have c12b0 := eq_true c12
          have c12b1 : decide (t267 ≤ (a1.size : Int)) = true := decide_eq_true c12
          clear c12
          obtain ⟨y273, hy273⟩ : ∃ y_ : List ByteArray, y_ = (([(⟨#[48]⟩ : ByteArray), (⟨#[35]⟩ : ByteArray), (⟨#[46]⟩ : ByteArray), (⟨#[47]⟩ : ByteArray), (⟨#[32]⟩ : ByteArray), (⟨#[97]⟩ : ByteArray), (⟨#[45]⟩ : ByteArray), (⟨#[10]⟩ : ByteArray)] : List ByteArray)) := ⟨_, rfl⟩
          replace H : ((spec_l01Next.f s0_0 t271 t272 8).bind fun bt276 => (if 0 ≤ bt276.1 then (if bt276.1 < (y273.length : Int) then (if (a1.extract 0 (t267 : Int).toNat).size + (rdOf ByteArray.empty y273 bt276.1).size ≤ 9223372036854775807 then (if ((a1.extract 0 (t267 : Int).toNat) ++ (rdOf ByteArray.empty y273 bt276.1)).size + (a1.extract (t267 : Int).toNat a1.size).size ≤ 9223372036854775807 then (some (((a1.extract 0 (t267 : Int).toNat) ++ (rdOf ByteArray.empty y273 bt276.1)) ++ (a1.extract (t267 : Int).toNat a1.size), bt276.2.1, bt276.2.2)) else (none)) else (none)) else (none)) else (none))) = some (r1, r2, r3) := by first | (rw [hy273]; with_reducible exact H) | (have H2_ := (Option.bind_some _ _).symm.trans H; rw [hy273]; with_reducible exact H2_) | (have H2_ := (Option.bind_some _ _).symm.trans H; with_reducible exact H2_) | with_reducible exact H | (rw [hy273]; exact H) | exact H
          have Ny273 := Aside0.mk hy273
          clear hy273
          replace H := Option.bind_eq_some_iff.mp H
          obtain ⟨⟨t276, t277, t278⟩, A130, H⟩ := H
          replace H : (if 0 ≤ t276 then (if t276 < (y273.length : Int) then (if (a1.extract 0 (t267 : Int).toNat).size + (rdOf ByteArray.empty y273 t276).size ≤ 9223372036854775807 then (if ((a1.extract 0 (t267 : Int).toNat) ++ (rdOf ByteArray.empty y273 t276)).size + (a1.extract (t267 : Int).toNat a1.size).size ≤ 9223372036854775807 then (some (((a1.extract 0 (t267 : Int).toNat) ++ (rdOf ByteArray.empty y273 t276)) ++ (a1.extract (t267 : Int).toNat a1.size), t277, t278)) else (none)) else (none)) else (none)) else (none)) = some (r1, r2, r3) := H
          have A13 := Aside0.mk A130
          clear A130
          by_cases c14 : 0 ≤ t276
          · rw [if_pos c14] at H
            have c14b0 : decide (0 ≤ t276) = true := decide_eq_true c14
            clear c14
            by_cases c15 : t276 < (y273.length : Int)
            · rw [if_pos c15] at H
              have c15b0 : decide (t276 < (y273.length : Int)) = true := decide_eq_true c15
              clear c15
              by_cases c16 : (a1.extract 0 (t267 : Int).toNat).size + (rdOf ByteArray.empty y273 t276).size ≤ 9223372036854775807
              · rw [if_pos c16] at H
                have c16b0 := eq_true c16
                have c16b1 : decide ((a1.extract 0 (t267 : Int).toNat).size + (rdOf ByteArray.empty y273 t276).size ≤ 9223372036854775807) = true := decide_eq_true c16
                have c16s : t267.toNat + (rdOf ByteArray.empty y273 t276).size ≤ 9223372036854775807 := by have g_ : t267 ≤ (a1.size : Int) := of_decide_eq_true (by assumption); have h_ := of_decide_eq_true c16b1; simp only [ByteArray.size_extract] at h_; omega
                try have c16b2 : (9223372036854775807 < (a1.extract 0 (t267 : Int).toNat).size + (rdOf ByteArray.empty y273 t276).size) = False := eq_false (Nat.not_lt.2 c16)
                have c17b0 := eq_true (of_decide_eq_true (by first | (with_reducible assumption) | assumption) : 0 ≤ t267)
                have c18b0 := eq_true (of_decide_eq_true (by first | (with_reducible assumption) | assumption) : t267 ≤ (a1.size : Int))
                by_cases c19 : ((a1.extract 0 (t267 : Int).toNat) ++ (rdOf ByteArray.empty y273 t276)).size + (a1.extract (t267 : Int).toNat a1.size).size ≤ 9223372036854775807
                · rw [if_pos c19] at H
                  have c19b0 := eq_true c19
                  have c19b1 : decide (((a1.extract 0 (t267 : Int).toNat) ++ (rdOf ByteArray.empty y273 t276)).size + (a1.extract (t267 : Int).toNat a1.size).size ≤ 9223372036854775807) = true := decide_eq_true c19
                  have c19s : t267.toNat + (rdOf ByteArray.empty y273 t276).size + (a1.size - t267.toNat) ≤ 9223372036854775807 := by have g_ : t267 ≤ (a1.size : Int) := of_decide_eq_true (by assumption); have h_ := of_decide_eq_true c19b1; simp only [ByteArray.size_append, ByteArray.size_extract] at h_; omega
                  try have c19b2 : (9223372036854775807 < ((a1.extract 0 (t267 : Int).toNat) ++ (rdOf ByteArray.empty y273 t276)).size + (a1.extract (t267 : Int).toNat a1.size).size) = False := eq_false (Nat.not_lt.2 c19)
                  simp only [Option.some.injEq, Prod.mk.injEq] at H
                  obtain ⟨rfl, rfl, rfl⟩ := H
                  go_enter Try.func111, Try.ntmps111
                  try go_wp2_with (first | ((with_reducible refine gate_callee (f := 105) rfl ?_); refine goesL_ (some 10) rfl rfl Try.func105 (by kernel_rfl) rfl #[.pointer (some ⟨g, 0, none⟩), .int .i64 (wrap64 ((a1.size : Int) + 1))] rfl (by (try simp only [List.map_toArray, List.map_cons, List.map_nil]); first | done | rfl | (simp only [List.length_drop, List.length_take]; rfl)) ?_; (with_reducible refine (spec_l01Next.calls g s0_0 s0_1 s0_2 (wrap64 ((a1.size : Int) + 1)) t267 t268 t269 w0 _ ?side1 ?side2 A3.out).mono ?_); (case side1 => repeat (first | (with_reducible first | exact HI0.out | apply IsS138.alloc | apply IsS138.drewN | apply IsS138.drew | apply IsS138.set_1 | apply IsS138.set_2) | exact HI0.out)); (case side2 => repeat (first | (with_reducible first | exact HB.out | apply below_alloc | apply pw_below_drewN | apply below_drew1 | refine below_set ?_ (IsS138.ge HI0.out)) | exact HB.out)); rintro e w20 ⟨rfl, hi, hb, hk⟩; refine ⟨_, rfl, ?_⟩; have n0_ := Aside0.mk (KeepBut.trans (by repeat (first | (with_reducible first | exact HK.out | apply KeepBut.set_ | apply keep_drewN | apply keep_drew | apply keep_alloc) | exact HK.out)) hk (.inl rfl)); have n1_ := Aside0.mk (hb); have n2_ := Aside0.mk (hi); clear HK; clear HB; clear HI0; have HK := n0_; have HB := n1_; have HI0 := n2_; clear n0_ n1_ n2_; (try clear hb); (try clear hb2); (try clear hk); (try clear hi)) | ((with_reducible refine gate_callee (f := 105) rfl ?_); refine goesL_ (some 12) rfl rfl Try.func105 (by kernel_rfl) rfl #[.pointer (some ⟨g, 0, none⟩), .int .i64 8] rfl (by (try simp only [List.map_toArray, List.map_cons, List.map_nil]); first | done | rfl | (simp only [List.length_drop, List.length_take]; rfl)) ?_; (with_reducible refine (spec_l01Next.calls g s0_0 t268 t269 8 t270 t271 t272 w0 _ ?side1 ?side2 A4.out).mono ?_); (case side1 => repeat (first | (with_reducible first | exact HI0.out | apply IsS138.alloc | apply IsS138.drewN | apply IsS138.drew | apply IsS138.set_1 | apply IsS138.set_2) | exact HI0.out)); (case side2 => repeat (first | (with_reducible first | exact HB.out | apply below_alloc | apply pw_below_drewN | apply below_drew1 | refine below_set ?_ (IsS138.ge HI0.out)) | exact HB.out)); rintro e w21 ⟨rfl, hi, hb, hk⟩; refine ⟨_, rfl, ?_⟩; have n0_ := Aside0.mk (KeepBut.trans (by repeat (first | (with_reducible first | exact HK.out | apply KeepBut.set_ | apply keep_drewN | apply keep_drew | apply keep_alloc) | exact HK.out)) hk (.inl rfl)); have n1_ := Aside0.mk (hb); have n2_ := Aside0.mk (hi); clear HK; clear HB; clear HI0; have HK := n0_; have HB := n1_; have HI0 := n2_; clear n0_ n1_ n2_; (try clear hb); (try clear hb2); (try clear hk); (try clear hi)))
                  have pi279 : (0 ≤ (t276 : Int)) = True := eq_true (of_decide_eq_true (by first | (with_reducible assumption) | assumption))
                  have qi279 : (t276 < (y273.length : Int)) = True := eq_true (of_decide_eq_true (by first | (with_reducible assumption) | assumption))
                  have n0_ := Aside0.mk (IsS138.drew HI0.out)
                  have n1_ := Aside0.mk (keep_drew HK.out)
                  have n2_ := Aside0.mk (below_drew1 HB.out)
                  clear HI0
                  clear HK
                  clear HB
                  have HI0 := n0_
                  have HK := n1_
                  have HB := n2_
                  clear n0_ n1_ n2_
                  refine start_ (n := 14) (S := fun w' => True) (ds := []) #[false, false, false, false, false, false, false, false, false, false, false, false, false, false] (by kernel_rfl) rfl rfl trivial (fun hHeld => ?_); refine with_tabW spec_l01Damage.tab6 spec_l01Damage.bits6 (fun HT_ HW_ => ?_)
                  generalize w21.drew = w22 at HI0 HK HB hHeld ⊢
                  refine pure_ (i := 0) (N := some 20) (v := ?_) (a' := ?_) #[true, false, false, false, false, false, false, false, false, false, false, false, false, false] rfl rfl (any_of HT_.out (by kernel_rfl)) (fun _ _ _ h => h) (Or.inl ⟨by rfl, ?_⟩) ?_ ?_
                  rotate_left
                  · intro w'
                    go_simp
                    with_reducible rfl
                  rotate_left
                  · simp only [Act.put, List.setIfInBounds_toArray, List.set_cons_zero, List.set_cons_succ, i64_w, i32_w]
                    rfl
                  refine pure_ (i := 1) (N := some 21) (v := ?_) (a' := ?_) #[true, true, false, false, false, false, false, false, false, false, false, false, false, false] rfl rfl (any_of HT_.out (by kernel_rfl)) (fun _ _ _ h => h) (Or.inl ⟨by rfl, ?_⟩) ?_ ?_
                  rotate_left
                  · intro w'
                    go_simp
                    with_reducible rfl
                  rotate_left
                  · simp only [Act.put, List.setIfInBounds_toArray, List.set_cons_zero, List.set_cons_succ, i64_w, i32_w]
                    rfl
                  refine pure_ (i := 4) (N := some 24) (v := ?_) (a' := ?_) #[true, true, false, false, true, false, false, false, false, false, false, false, false, false] rfl rfl (any_of HT_.out (by kernel_rfl)) (fun _ _ _ h => h) (Or.inl ⟨by rfl, ?_⟩) ?_ ?_
                  rotate_left
                  · intro w'
                    go_simp
                    with_reducible rfl
                  rotate_left
                  · simp only [Act.put, List.setIfInBounds_toArray, List.set_cons_zero, List.set_cons_succ, i64_w, i32_w]
                    rfl
                  refine pure_ (i := 9) (N := some 29) (v := ?_) (a' := ?_) #[true, true, false, false, true, false, false, false, false, true, false, false, false, false] rfl rfl (any_of HT_.out (by kernel_rfl)) (fun _ _ _ h => h) (Or.inl ⟨by rfl, ?_⟩) ?_ ?_
                  rotate_left
                  · intro w'
                    go_simp
                    with_reducible rfl
                  rotate_left
                  · simp only [Act.put, List.setIfInBounds_toArray, List.set_cons_zero, List.set_cons_succ, i64_w, i32_w]
                    rfl
                  refine pure_ (i := 10) (N := some 30) (v := ?_) (a' := ?_) #[true, true, false, false, true, false, false, false, false, true, true, false, false, false] rfl rfl (any_of HT_.out (by kernel_rfl)) (fun _ _ _ h => h) (Or.inl ⟨by rfl, ?_⟩) ?_ ?_
                  rotate_left
                  · intro w'
                    go_simp
                    with_reducible rfl
                  rotate_left
                  · simp only [Act.put, List.setIfInBounds_toArray, List.set_cons_zero, List.set_cons_succ, i64_w, i32_w]
                    rfl
                  refine inv_at [2, 3, 5, 6, 7, 8, 11, 12, 13] (fun a0_ b a w' => ∃ (v274 : Value) (adz_v274 : Addr) (m6_ : Value), a = putSel a0_ b [(2, 22, .string (a1.extract 0 (t267 : Int).toNat)), (3, 23, v274), (5, 25, .int .i64 t276), (6, 26, m6_), (7, 27, .string (rdOf ByteArray.empty y273 t276)), (8, 28, .string ((a1.extract 0 (t267 : Int).toNat) ++ (rdOf ByteArray.empty y273 t276))), (11, 31, .string (a1.extract (t267 : Int).toNat a1.size)), (12, 32, .string (((a1.extract 0 (t267 : Int).toNat) ++ (rdOf ByteArray.empty y273 t276)) ++ (a1.extract (t267 : Int).toNat a1.size))), (13, 4, .string (((a1.extract 0 (t267 : Int).toNat) ++ (rdOf ByteArray.empty y273 t276)) ++ (a1.extract (t267 : Int).toNat a1.size)))] ∧ (b 5 = false → IsS138 w0 w' g s0_0 t271 t272) ∧ (KeepBut w w' g none) ∧ (Below w0.heap.size w0 w') ∧ (b 3 = true → Kd.R Kd.string 9 w' w.heap.size (fun _ => True) v274 y273) ∧ (b 3 = true → ∃ c_, (v274 : Value) = .slice (some adz_v274) y273.length c_) ∧ (b 5 = true → IsS138 w0 w' g s0_0 t277 t278) ∧ (b 6 = true → (m6_ : Value) = .pointer (some (adz_v274.add (t276).toNat)))) HT_.out HW_.out (by kernel_rfl) (by kernel_rfl) ?_ ?_ ?_
                  · exact ⟨.bool false, ⟨0, 0, none⟩, .bool false, by simp only [putSel, Bool.false_eq_true, if_false], fun _ => HI0.out, HK.out, HB.out, fun h_ => absurd h_ (by decide), fun h_ => absurd h_ (by decide), fun h_ => absurd h_ (by decide), fun h_ => absurd h_ (by decide)⟩
                  · skip
                    clear HB HI0 HK
                    refine steps_cons ?_ ?_
                    · rintro b a w' ⟨v274, adz_v274, m6_, ha, Q_HI0, Q_HK, Q_HB, Q_HO275, Q_HA_HO275, Q_HI0_e5, Q_X6_⟩ hb_ hon hoff
                      refine ⟨_, rfl, fun K hK => ?_⟩
                      have e20 : a.tmps[20]? = some (.string a1) := by rw [ha]; exact (putSel_off rfl).trans rfl
                      have e21 : a.tmps[21]? = some (.int .i64 t267) := by rw [ha]; exact (putSel_off rfl).trans rfl
                      replace ha := Aside0.mk ha
                      have HK := Aside0.mk Q_HK
                      have HB := Aside0.mk Q_HB
                      refine value_ (w1 := w') (v := .string (a1.extract 0 (t267 : Int).toNat)) (by rfl) rfl ?_ ?_
                      · go_simp
                        (try simp only [i64_w])
                        try rfl
                        all_goals first | exact c16s | exact c19s
                      refine hK.out _ _ ⟨v274, adz_v274, m6_, (by rw [ha.out]; exact putSel_upk 0 hb_ rfl rfl rfl), Q_HI0, Q_HK, Q_HB, Q_HO275, Q_HA_HO275, Q_HI0_e5, Q_X6_⟩
                    refine steps_cons ?_ ?_
                    · rintro b a w' ⟨v274, adz_v274, m6_, ha, Q_HI0, Q_HK, Q_HB, Q_HO275, Q_HA_HO275, Q_HI0_e5, Q_X6_⟩ hb_ hon hoff
                      refine ⟨_, rfl, fun K hK => ?_⟩
                      replace ha := Aside0.mk ha
                      have HK := Aside0.mk Q_HK
                      have HB := Aside0.mk Q_HB
                      refine Kd.R_lit_step Kd.string _ 9 ?hg (N := 23) ?hd (xs := ([(⟨#[48]⟩ : ByteArray), (⟨#[35]⟩ : ByteArray), (⟨#[46]⟩ : ByteArray), (⟨#[47]⟩ : ByteArray), (⟨#[32]⟩ : ByteArray), (⟨#[97]⟩ : ByteArray), (⟨#[45]⟩ : ByteArray), (⟨#[10]⟩ : ByteArray)] : List ByteArray)) (inner := [.string (⟨#[48]⟩ : ByteArray), .string (⟨#[35]⟩ : ByteArray), .string (⟨#[46]⟩ : ByteArray), .string (⟨#[47]⟩ : ByteArray), .string (⟨#[32]⟩ : ByteArray), .string (⟨#[97]⟩ : ByteArray), .string (⟨#[45]⟩ : ByteArray), .string (⟨#[10]⟩ : ByteArray)]) (ok := fun _ => True) (okp := fun _ => True) ?hr ?hp (fun _ hk => hk) trivial (Below.refl _ _) (Nat.le_refl _) (by simp) ?_; (case hd => rfl); (case hg => rfl); (case hr => first | (go_simp; done) | (go_simp; rfl)); (case hp => exact (Reps.one (show Kd.M Kd.string _ _ _ (⟨#[48]⟩ : ByteArray) [.string (⟨#[48]⟩ : ByteArray)] from rfl) (Reps.one (show Kd.M Kd.string _ _ _ (⟨#[35]⟩ : ByteArray) [.string (⟨#[35]⟩ : ByteArray)] from rfl) (Reps.one (show Kd.M Kd.string _ _ _ (⟨#[46]⟩ : ByteArray) [.string (⟨#[46]⟩ : ByteArray)] from rfl) (Reps.one (show Kd.M Kd.string _ _ _ (⟨#[47]⟩ : ByteArray) [.string (⟨#[47]⟩ : ByteArray)] from rfl) (Reps.one (show Kd.M Kd.string _ _ _ (⟨#[32]⟩ : ByteArray) [.string (⟨#[32]⟩ : ByteArray)] from rfl) (Reps.one (show Kd.M Kd.string _ _ _ (⟨#[97]⟩ : ByteArray) [.string (⟨#[97]⟩ : ByteArray)] from rfl) (Reps.one (show Kd.M Kd.string _ _ _ (⟨#[45]⟩ : ByteArray) [.string (⟨#[45]⟩ : ByteArray)] from rfl) (Reps.one (show Kd.M Kd.string _ _ _ (⟨#[10]⟩ : ByteArray) [.string (⟨#[10]⟩ : ByteArray)] from rfl) (Reps.none _ _))))))))))
                      intro v274 w23 ho24 hb hg_ hnew_
                      clear hg_ hnew_
                      (first | rw [← Ny273.out] at ho24 | (simp only [Int.reduceToNat] at ho24; rw [← Ny273.out] at ho24))
                      have n0_ := Aside0.mk (Kd.R_lower ho24 (keep_size (w := w) (g := g) (row := none) (by repeat (first | (with_reducible first | exact HK.out | apply KeepBut.set_ | apply keep_drewN | apply keep_drew | apply keep_alloc) | exact HK.out))))
                      have n2_ := Aside0.mk (KeepBut.trans (by repeat (first | (with_reducible first | exact HK.out | apply KeepBut.set_ | apply keep_drewN | apply keep_drew | apply keep_alloc) | exact HK.out)) (KeepBut.of_below hb g none) (.inl rfl))
                      have n3_ := Aside0.mk (below_step (by repeat (first | (with_reducible first | exact HB.out | apply below_alloc | apply pw_below_drewN | apply below_drew1) | exact HB.out)) hb)
                      have z_HI0 := fun (h0_ : b 5 = false) => (show IsS138 w0 w23 g s0_0 t271 t272 from by first | exact (IsS138.below (by repeat (first | (with_reducible first | exact (Q_HI0 h0_) | apply IsS138.alloc | apply IsS138.drewN | apply IsS138.drew | apply IsS138.set_1 | apply IsS138.set_2) | exact (Q_HI0 h0_))) hb))
                      have z_HI0_e5 := fun (h0_ : b 5 = true) => (show IsS138 w0 w23 g s0_0 t277 t278 from by first | exact (IsS138.below (by repeat (first | (with_reducible first | exact (Q_HI0_e5 h0_) | apply IsS138.alloc | apply IsS138.drewN | apply IsS138.drew | apply IsS138.set_1 | apply IsS138.set_2) | exact (Q_HI0_e5 h0_))) hb))
                      clear HK
                      clear HB
                      have HO275 := n0_
                      have HK := n2_
                      have HB := n3_
                      clear n0_ n2_ n3_
                      clear hb ho24
                      obtain ⟨Ao25, co25, eo25⟩ := Kd.R_slice HO275.out
                      subst eo25
                      obtain ⟨ado25, fo25, _⟩ := Kd.at_string (Kd.R_reads' HO275.out).2.2 0 (by decide) (by rw [Ny273.out]; simp)
                      cases fo25
                      refine hK.out _ _ ⟨.slice (some ado25) y273.length co25, ado25, m6_, (by rw [ha.out]; exact putSel_upk 1 hb_ rfl rfl rfl), z_HI0, (by repeat (first | (with_reducible first | exact HK.out | apply KeepBut.set_ | apply keep_drewN | apply keep_drew | apply keep_alloc) | exact HK.out)), (by repeat (first | (with_reducible first | exact HB.out | apply below_alloc | apply pw_below_drewN | apply below_drew1) | exact HB.out)), fun _ => (by (with_reducible repeat (first | apply Kd.R_alloc | apply Kd.R_drewN | apply Kd.R_drew)); exact HO275.out), fun _ => ⟨_, rfl⟩, z_HI0_e5, fun h0_ => absurd ((hoff 6 (by kernel_rfl)).symm.trans h0_) (by decide)⟩
                    refine steps_cons ?_ ?_
                    · rintro b a w' ⟨v274, adz_v274, m6_, ha, Q_HI0, Q_HK, Q_HB, Q_HO275, Q_HA_HO275, Q_HI0_e5, Q_X6_⟩ hb_ hon hoff
                      refine ⟨_, rfl, fun K hK => ?_⟩
                      have e24 : a.tmps[24]? = some (.pointer (some ⟨g, 0, none⟩)) := by rw [ha]; exact (putSel_off rfl).trans rfl
                      replace ha := Aside0.mk ha
                      have HI0 := Aside0.mk (Q_HI0 hb_)
                      have HK := Aside0.mk Q_HK
                      have HB := Aside0.mk Q_HB
                      refine goes_ Try.func105 (by kernel_rfl) rfl #[.pointer (some ⟨g, 0, none⟩), .int .i64 8] (by rfl) rfl rfl (by first | (simp only [List.map_toArray, List.map_cons, List.map_nil, Act.eval, Array.getD_eq_getD_getElem?, Option.getD_some, e24]; done) | (simp only [List.map_toArray, List.map_cons, List.map_nil, Act.eval, Array.getD_eq_getD_getElem?, Option.getD_some, e24]; rfl)) ?_
                      with_reducible refine (spec_l01Next.calls g s0_0 t271 t272 8 t276 t277 t278 w0 _ ?side1 ?side2 A13.out).mono ?_
                      (case side1 => repeat (first | (with_reducible first | exact HI0.out | apply IsS138.alloc | apply IsS138.drewN | apply IsS138.drew | apply IsS138.set_1 | apply IsS138.set_2) | exact HI0.out))
                      (case side2 => repeat (first | (with_reducible first | exact HB.out | apply below_alloc | apply pw_below_drewN | apply below_drew1 | refine below_set ?_ (IsS138.ge HI0.out)) | exact HB.out))
                      rintro e w23 ⟨rfl, hi, hb, hk⟩
                      refine ⟨_, rfl, ?_⟩
                      have n0_ := Aside0.mk (KeepBut.trans (by repeat (first | (with_reducible first | exact HK.out | apply KeepBut.set_ | apply keep_drewN | apply keep_drew | apply keep_alloc) | exact HK.out)) hk (.inl rfl))
                      have n1_ := Aside0.mk (hb)
                      have n2_ := Aside0.mk (hi)
                      have z_HO275 := fun (h0_ : b 3 = true) => (show Kd.R Kd.string 9 w23 w.heap.size (fun _ => True) v274 y273 from by first | exact (Kd.R_mono (Kd.R_keep (IsS138.apart (show IsS138 w0 _ g s0_0 t271 t272 from by repeat (first | (with_reducible first | exact HI0.out | apply IsS138.alloc | apply IsS138.drewN | apply IsS138.drew | apply IsS138.set_1 | apply IsS138.set_2) | exact HI0.out)) (by (with_reducible repeat (first | apply Kd.R_alloc | apply Kd.R_drewN | apply Kd.R_drew)); exact (Q_HO275 h0_)) (by decide)) hk (fun _ h => h.2)) (fun _ h => h.1)) | exact Kd.R_mono (Kd.R_mono (Kd.R_keep (IsS138.apart (show IsS138 w0 _ g s0_0 t271 t272 from by repeat (first | (with_reducible first | exact HI0.out | apply IsS138.alloc | apply IsS138.drewN | apply IsS138.drew | apply IsS138.set_1 | apply IsS138.set_2) | exact HI0.out)) (by (with_reducible repeat (first | apply Kd.R_alloc | apply Kd.R_drewN | apply Kd.R_drew)); exact (Q_HO275 h0_)) (by decide)) hk (fun _ h => h.2)) (fun _ h => h.1)) (fun _ h_ => by first | trivial | exact h_ | exact h_.1))
                      clear HK
                      clear HB
                      clear HI0
                      have HK := n0_
                      have HB := n1_
                      have HI0 := n2_
                      clear n0_ n1_ n2_
                      (try clear hb)
                      (try clear hb2)
                      (try clear hk)
                      (try clear hi)
                      refine hK.out _ _ ⟨v274, adz_v274, m6_, (by rw [ha.out]; exact putSel_upk 2 hb_ rfl rfl rfl), fun h0_ => absurd ((up_self b 5).symm.trans h0_) (by decide), (by repeat (first | (with_reducible first | exact HK.out | apply KeepBut.set_ | apply keep_drewN | apply keep_drew | apply keep_alloc) | exact HK.out)), (by repeat (first | (with_reducible first | exact HB.out | apply below_alloc | apply pw_below_drewN | apply below_drew1 | refine below_set ?_ (IsS138.ge HI0.out)) | exact HB.out)), z_HO275, Q_HA_HO275, fun _ => (by repeat (first | (with_reducible first | exact HI0.out | apply IsS138.alloc | apply IsS138.drewN | apply IsS138.drew | apply IsS138.set_1 | apply IsS138.set_2) | exact HI0.out)), fun h0_ => absurd ((hoff 6 (by kernel_rfl)).symm.trans h0_) (by decide)⟩
                    refine steps_cons ?_ ?_
                    · rintro b a w' ⟨v274, adz_v274, m6_, ha, Q_HI0, Q_HK, Q_HB, Q_HO275, Q_HA_HO275, Q_HI0_e5, Q_X6_⟩ hb_ hon hoff
                      refine ⟨_, rfl, fun K hK => ?_⟩
                      have e23 : a.tmps[23]? = some (v274) := by rw [ha]; exact putSel_on (e := (3, 23, v274)) 1 rfl rfl (hon 3 (by kernel_rfl)) rfl
                      have e25 : a.tmps[25]? = some (.int .i64 t276) := by rw [ha]; exact putSel_on (e := (5, 25, .int .i64 t276)) 2 rfl rfl (hon 5 (by kernel_rfl)) rfl
                      replace ha := Aside0.mk ha
                      have HK := Aside0.mk Q_HK
                      have HB := Aside0.mk Q_HB
                      have HO275 := Aside0.mk (Q_HO275 (hon 3 (by kernel_rfl)))
                      have HA_HO275 := Aside0.mk (Q_HA_HO275 (hon 3 (by kernel_rfl)))
                      have HI0 := Aside0.mk (Q_HI0_e5 (hon 5 (by kernel_rfl)))
                      obtain ⟨c_, hv_⟩ := HA_HO275.out
                      rw [hv_] at e23
                      refine value_ (w1 := w') (v := .pointer (some (adz_v274.add (t276).toNat))) (by rfl) rfl ?_ ?_
                      · go_simp
                        (try simp only [i64_w])
                        try rfl
                        all_goals first | exact c16s | exact c19s
                      refine hK.out _ _ ⟨v274, adz_v274, (.pointer (some (adz_v274.add (t276).toNat))), (by rw [ha.out]; exact putSel_upk 3 hb_ rfl rfl rfl), fun h0_ => absurd ((hon 5 (by kernel_rfl)).symm.trans h0_) (by decide), Q_HK, Q_HB, Q_HO275, Q_HA_HO275, Q_HI0_e5, fun _ => rfl⟩
                    refine steps_cons ?_ ?_
                    · rintro b a w' ⟨v274, adz_v274, m6_, ha, Q_HI0, Q_HK, Q_HB, Q_HO275, Q_HA_HO275, Q_HI0_e5, Q_X6_⟩ hb_ hon hoff
                      refine ⟨_, rfl, fun K hK => ?_⟩
                      have e26 : a.tmps[26]? = some (m6_) := by rw [ha]; exact putSel_on (e := (6, 26, m6_)) 3 rfl rfl (hon 6 (by kernel_rfl)) rfl
                      rw [Q_X6_ (hon 6 (by kernel_rfl))] at e26
                      replace ha := Aside0.mk ha
                      have HK := Aside0.mk Q_HK
                      have HB := Aside0.mk Q_HB
                      have HO275 := Aside0.mk (Q_HO275 (hon 3 (by kernel_rfl)))
                      have HA_HO275 := Aside0.mk (Q_HA_HO275 (hon 3 (by kernel_rfl)))
                      have HI0 := Aside0.mk (Q_HI0_e5 (hon 5 (by kernel_rfl)))
                      obtain ⟨c_, hv_⟩ := HA_HO275.out
                      have hF_ := HO275.out
                      rw [hv_] at hF_
                      obtain ⟨ad_, ea_, hx_⟩ := Kd.at_string (Kd.R_reads' hF_).2.2 t276 (of_eq_true pi279) (of_eq_true qi279)
                      cases ea_
                      refine value_ (w1 := w') (v := .string (rdOf ByteArray.empty y273 t276)) (by rfl) rfl ?_ ?_
                      · go_simp
                        (try simp only [i64_w])
                        try rfl
                        all_goals first | exact c16s | exact c19s
                      refine hK.out _ _ ⟨v274, adz_v274, m6_, (by rw [ha.out]; exact putSel_upk 4 hb_ rfl rfl rfl), fun h0_ => absurd ((hon 5 (by kernel_rfl)).symm.trans h0_) (by decide), Q_HK, Q_HB, Q_HO275, Q_HA_HO275, Q_HI0_e5, Q_X6_⟩
                    refine steps_cons ?_ ?_
                    · rintro b a w' ⟨v274, adz_v274, m6_, ha, Q_HI0, Q_HK, Q_HB, Q_HO275, Q_HA_HO275, Q_HI0_e5, Q_X6_⟩ hb_ hon hoff
                      refine ⟨_, rfl, fun K hK => ?_⟩
                      have e22 : a.tmps[22]? = some (.string (a1.extract 0 (t267 : Int).toNat)) := by rw [ha]; exact putSel_on (e := (2, 22, .string (a1.extract 0 (t267 : Int).toNat))) 0 rfl rfl (hon 2 (by kernel_rfl)) rfl
                      have e27 : a.tmps[27]? = some (.string (rdOf ByteArray.empty y273 t276)) := by rw [ha]; exact putSel_on (e := (7, 27, .string (rdOf ByteArray.empty y273 t276))) 4 rfl rfl (hon 7 (by kernel_rfl)) rfl
                      replace ha := Aside0.mk ha
                      have HK := Aside0.mk Q_HK
                      have HB := Aside0.mk Q_HB
                      have HO275 := Aside0.mk (Q_HO275 (hon 3 (by kernel_rfl)))
                      have HA_HO275 := Aside0.mk (Q_HA_HO275 (hon 3 (by kernel_rfl)))
                      have HI0 := Aside0.mk (Q_HI0_e5 (hon 5 (by kernel_rfl)))
                      refine value_ (w1 := w') (v := .string ((a1.extract 0 (t267 : Int).toNat) ++ (rdOf ByteArray.empty y273 t276))) (by rfl) rfl ?_ ?_
                      · go_simp
                        (try simp only [i64_w])
                        try rfl
                        all_goals first | exact c16s | exact c19s
                      refine hK.out _ _ ⟨v274, adz_v274, m6_, (by rw [ha.out]; exact putSel_upk 5 hb_ rfl rfl rfl), fun h0_ => absurd ((hon 5 (by kernel_rfl)).symm.trans h0_) (by decide), Q_HK, Q_HB, Q_HO275, Q_HA_HO275, Q_HI0_e5, Q_X6_⟩
                    refine steps_cons ?_ ?_
                    · rintro b a w' ⟨v274, adz_v274, m6_, ha, Q_HI0, Q_HK, Q_HB, Q_HO275, Q_HA_HO275, Q_HI0_e5, Q_X6_⟩ hb_ hon hoff
                      refine ⟨_, rfl, fun K hK => ?_⟩
                      have e29 : a.tmps[29]? = some (.string a1) := by rw [ha]; exact (putSel_off rfl).trans rfl
                      have e30 : a.tmps[30]? = some (.int .i64 t267) := by rw [ha]; exact (putSel_off rfl).trans rfl
                      replace ha := Aside0.mk ha
                      have HK := Aside0.mk Q_HK
                      have HB := Aside0.mk Q_HB
                      refine value_ (w1 := w') (v := .string (a1.extract (t267 : Int).toNat a1.size)) (by rfl) rfl ?_ ?_
                      · go_simp
                        (try simp only [i64_w])
                        try rfl
                        all_goals first | exact c16s | exact c19s
                      refine hK.out _ _ ⟨v274, adz_v274, m6_, (by rw [ha.out]; exact putSel_upk 6 hb_ rfl rfl rfl), Q_HI0, Q_HK, Q_HB, Q_HO275, Q_HA_HO275, Q_HI0_e5, Q_X6_⟩
                    refine steps_cons ?_ ?_
                    · rintro b a w' ⟨v274, adz_v274, m6_, ha, Q_HI0, Q_HK, Q_HB, Q_HO275, Q_HA_HO275, Q_HI0_e5, Q_X6_⟩ hb_ hon hoff
                      refine ⟨_, rfl, fun K hK => ?_⟩
                      have e28 : a.tmps[28]? = some (.string ((a1.extract 0 (t267 : Int).toNat) ++ (rdOf ByteArray.empty y273 t276))) := by rw [ha]; exact putSel_on (e := (8, 28, .string ((a1.extract 0 (t267 : Int).toNat) ++ (rdOf ByteArray.empty y273 t276)))) 5 rfl rfl (hon 8 (by kernel_rfl)) rfl
                      have e31 : a.tmps[31]? = some (.string (a1.extract (t267 : Int).toNat a1.size)) := by rw [ha]; exact putSel_on (e := (11, 31, .string (a1.extract (t267 : Int).toNat a1.size))) 6 rfl rfl (hon 11 (by kernel_rfl)) rfl
                      replace ha := Aside0.mk ha
                      have HK := Aside0.mk Q_HK
                      have HB := Aside0.mk Q_HB
                      have HO275 := Aside0.mk (Q_HO275 (hon 3 (by kernel_rfl)))
                      have HA_HO275 := Aside0.mk (Q_HA_HO275 (hon 3 (by kernel_rfl)))
                      have HI0 := Aside0.mk (Q_HI0_e5 (hon 5 (by kernel_rfl)))
                      refine value_ (w1 := w') (v := .string (((a1.extract 0 (t267 : Int).toNat) ++ (rdOf ByteArray.empty y273 t276)) ++ (a1.extract (t267 : Int).toNat a1.size))) (by rfl) rfl ?_ ?_
                      · go_simp
                        (try simp only [i64_w])
                        try rfl
                        all_goals first | exact c16s | exact c19s
                      refine hK.out _ _ ⟨v274, adz_v274, m6_, (by rw [ha.out]; exact putSel_upk 7 hb_ rfl rfl rfl), fun h0_ => absurd ((hon 5 (by kernel_rfl)).symm.trans h0_) (by decide), Q_HK, Q_HB, Q_HO275, Q_HA_HO275, Q_HI0_e5, Q_X6_⟩
                    refine steps_cons ?_ ?_
                    · rintro b a w' ⟨v274, adz_v274, m6_, ha, Q_HI0, Q_HK, Q_HB, Q_HO275, Q_HA_HO275, Q_HI0_e5, Q_X6_⟩ hb_ hon hoff
                      refine ⟨_, rfl, fun K hK => ?_⟩
                      have e32 : a.tmps[32]? = some (.string (((a1.extract 0 (t267 : Int).toNat) ++ (rdOf ByteArray.empty y273 t276)) ++ (a1.extract (t267 : Int).toNat a1.size))) := by rw [ha]; exact putSel_on (e := (12, 32, .string (((a1.extract 0 (t267 : Int).toNat) ++ (rdOf ByteArray.empty y273 t276)) ++ (a1.extract (t267 : Int).toNat a1.size)))) 7 rfl rfl (hon 12 (by kernel_rfl)) rfl
                      replace ha := Aside0.mk ha
                      have HK := Aside0.mk Q_HK
                      have HB := Aside0.mk Q_HB
                      have HO275 := Aside0.mk (Q_HO275 (hon 3 (by kernel_rfl)))
                      have HA_HO275 := Aside0.mk (Q_HA_HO275 (hon 3 (by kernel_rfl)))
                      have HI0 := Aside0.mk (Q_HI0_e5 (hon 5 (by kernel_rfl)))
                      refine value_ (w1 := w') (v := .string (((a1.extract 0 (t267 : Int).toNat) ++ (rdOf ByteArray.empty y273 t276)) ++ (a1.extract (t267 : Int).toNat a1.size))) (by rfl) rfl ?_ ?_
                      · go_simp
                        (try simp only [i64_w])
                        try rfl
                        all_goals first | exact c16s | exact c19s
                      refine hK.out _ _ ⟨v274, adz_v274, m6_, (by rw [ha.out]; exact putSel_upk 8 hb_ rfl rfl rfl), fun h0_ => absurd ((hon 5 (by kernel_rfl)).symm.trans h0_) (by decide), Q_HK, Q_HB, Q_HO275, Q_HA_HO275, Q_HI0_e5, Q_X6_⟩
                    exact steps_nil
                  rintro b a w27 hall ⟨v274, adz_v274, m6_, ha, Q_HI0, Q_HK, Q_HB, Q_HO275, Q_HA_HO275, Q_HI0_e5, Q_X6_⟩
                  clear HB HI0 HK
                  have hb2_ := hall 2 (by kernel_rfl)
                  have hb3_ := hall 3 (by kernel_rfl)
                  have hb5_ := hall 5 (by kernel_rfl)
                  have hb6_ := hall 6 (by kernel_rfl)
                  have hb7_ := hall 7 (by kernel_rfl)
                  have hb8_ := hall 8 (by kernel_rfl)
                  have hb11_ := hall 11 (by kernel_rfl)
                  have hb12_ := hall 12 (by kernel_rfl)
                  have hb13_ := hall 13 (by kernel_rfl)
                  subst ha
                  obtain rfl := Q_X6_ hb6_
                  simp only [putSel, hb2_, hb3_, hb5_, hb6_, hb7_, hb8_, hb11_, hb12_, hb13_, if_true, Act.put, List.setIfInBounds_toArray, List.set_cons_zero, List.set_cons_succ]
                  clear Q_HI0
                  have HK := Aside0.mk Q_HK
                  clear Q_HK
                  have HB := Aside0.mk Q_HB
                  clear Q_HB
                  have HO275 := Aside0.mk (Q_HO275 hb3_)
                  clear Q_HO275
                  have HA_HO275 := Aside0.mk (Q_HA_HO275 hb3_)
                  clear Q_HA_HO275
                  have HI0 := Aside0.mk (Q_HI0_e5 hb5_)
                  clear Q_HI0_e5
                  clear hall hb2_ hb3_ hb5_ hb6_ hb7_ hb8_ hb11_ hb12_ hb13_
                  obtain ⟨co28, eo28⟩ := HA_HO275.out
                  clear HA_HO275
                  subst eo28
                  try go_wp2
                  go_ret
                  exact ⟨by first | rfl | (simp [errW_none, errW_some] <;> rfl) | (simp [*, errW_none, errW_some] <;> rfl), by repeat (first | (with_reducible first | exact HI0.out | apply IsS138.alloc | apply IsS138.drewN | apply IsS138.drew | apply IsS138.set_1 | apply IsS138.set_2) | exact HI0.out), by repeat (first | (with_reducible first | exact HB.out | apply below_alloc | apply pw_below_drewN | apply below_drew1 | refine below_set ?_ (IsS138.ge HI0.out)) | exact HB.out), by repeat (first | (with_reducible first | exact HK.out | apply KeepBut.set_ | apply keep_drewN | apply keep_drew | apply keep_alloc) | exact HK.out)⟩
                · rw [if_neg c19] at H
                  exact absurd H (by simp)
              · rw [if_neg c16] at H
                exact absurd H (by simp)
            · rw [if_neg c15] at H
              exact absurd H (by simp)
          · rw [if_neg c14] at H
            exact absurd H (by simp)
        · rw [if_neg c12] at H
          exact absurd H (by simp)
      · rw [if_neg c11] at H
        exact absurd H (by simp)
    · rw [if_neg c10] at H
      have c10b0 : (t270 == 1) = false := beq_eq_false_iff_ne.mpr c10
      have c10b1 : (t270 != 1) = true := bne_iff_ne.mpr c10
      by_cases c29 : t270 = 2
      · rw [if_pos c29] at H
        have c29b0 : (t270 == 2) = true := beq_iff_eq.mpr c29
        have c29b1 : (t270 != 2) = false := bne_eq_false_iff_eq.mpr c29
        clear c29
        by_cases c30 : t267 < (a1.size : Int)
        · rw [if_pos c30] at H
          have c30b0 : decide (t267 < (a1.size : Int)) = true := decide_eq_true c30
          clear c30
          by_cases c31 : 0 ≤ t267
          · rw [if_pos c31] at H
            have c31b0 := eq_true c31
            have c31b1 : decide (0 ≤ t267) = true := decide_eq_true c31
            clear c31
            by_cases c32 : t267 ≤ (a1.size : Int)
            · rw [if_pos c32] at H
              have c32b0 := eq_true c32
              have c32b1 : decide (t267 ≤ (a1.size : Int)) = true := decide_eq_true c32
              clear c32
              obtain ⟨ji33, hji33⟩ : ∃ j_ : Int, (wrap64 (t267 + 1)) = j_ := ⟨_, rfl⟩
              replace H : (if 0 ≤ (ji33) then (if (ji33) ≤ (a1.size : Int) then (if (a1.extract 0 (t267 : Int).toNat).size + (a1.extract ((ji33) : Int).toNat a1.size).size ≤ 9223372036854775807 then (some ((a1.extract 0 (t267 : Int).toNat) ++ (a1.extract ((ji33) : Int).toNat a1.size), t271, t272)) else (none)) else (none)) else (none)) = some (r1, r2, r3) := by first | (rw [hji33] at H; exact H) | (simp only [hji33] at H ⊢; exact H)
              (try rw [hji33] at A3)
              (try rw [hji33] at A4)
              have hji33w : (IntKind.i64.wrap (t267 + 1)) = ji33 := (i64_w _).trans hji33
              by_cases c34 : 0 ≤ (ji33)
              · rw [if_pos c34] at H
                have c34b0 := eq_true c34
                have c34b1 : decide (0 ≤ (ji33)) = true := decide_eq_true c34
                clear c34
                by_cases c35 : (ji33) ≤ (a1.size : Int)
                · rw [if_pos c35] at H
                  have c35b0 := eq_true c35
                  have c35b1 : decide ((ji33) ≤ (a1.size : Int)) = true := decide_eq_true c35
                  clear c35
                  by_cases c36 : (a1.extract 0 (t267 : Int).toNat).size + (a1.extract ((ji33) : Int).toNat a1.size).size ≤ 9223372036854775807
                  · rw [if_pos c36] at H
                    have c36b0 := eq_true c36
                    have c36b1 : decide ((a1.extract 0 (t267 : Int).toNat).size + (a1.extract ((ji33) : Int).toNat a1.size).size ≤ 9223372036854775807) = true := decide_eq_true c36
                    have c36s : (9223372036854775807 < t267.toNat + (a1.size - ji33.toNat)) = False := by have g_ : t267 ≤ (a1.size : Int) := of_decide_eq_true (by assumption); have h_ := of_decide_eq_true c36b1; simp only [ByteArray.size_extract] at h_; exact eq_false (by omega)
                    try have c36b2 : (9223372036854775807 < (a1.extract 0 (t267 : Int).toNat).size + (a1.extract ((ji33) : Int).toNat a1.size).size) = False := eq_false (Nat.not_lt.2 c36)
                    simp only [Option.some.injEq, Prod.mk.injEq] at H
                    obtain ⟨rfl, rfl, rfl⟩ := H
                    go_enter Try.func111, Try.ntmps111
                    try go_wp2_with (first | ((with_reducible refine gate_callee (f := 105) rfl ?_); refine goesL_ (some 10) rfl rfl Try.func105 (by kernel_rfl) rfl #[.pointer (some ⟨g, 0, none⟩), .int .i64 (wrap64 ((a1.size : Int) + 1))] rfl (by (try simp only [List.map_toArray, List.map_cons, List.map_nil]); first | done | rfl | (simp only [List.length_drop, List.length_take]; rfl)) ?_; (with_reducible refine (spec_l01Next.calls g s0_0 s0_1 s0_2 (wrap64 ((a1.size : Int) + 1)) t267 t268 t269 w0 _ ?side1 ?side2 A3.out).mono ?_); (case side1 => repeat (first | (with_reducible first | exact HI0.out | apply IsS138.alloc | apply IsS138.drewN | apply IsS138.drew | apply IsS138.set_1 | apply IsS138.set_2) | exact HI0.out)); (case side2 => repeat (first | (with_reducible first | exact HB.out | apply below_alloc | apply pw_below_drewN | apply below_drew1 | refine below_set ?_ (IsS138.ge HI0.out)) | exact HB.out)); rintro e w37 ⟨rfl, hi, hb, hk⟩; refine ⟨_, rfl, ?_⟩; have n0_ := Aside0.mk (KeepBut.trans (by repeat (first | (with_reducible first | exact HK.out | apply KeepBut.set_ | apply keep_drewN | apply keep_drew | apply keep_alloc) | exact HK.out)) hk (.inl rfl)); have n1_ := Aside0.mk (hb); have n2_ := Aside0.mk (hi); clear HK; clear HB; clear HI0; have HK := n0_; have HB := n1_; have HI0 := n2_; clear n0_ n1_ n2_; (try clear hb); (try clear hb2); (try clear hk); (try clear hi)) | ((with_reducible refine gate_callee (f := 105) rfl ?_); refine goesL_ (some 12) rfl rfl Try.func105 (by kernel_rfl) rfl #[.pointer (some ⟨g, 0, none⟩), .int .i64 8] rfl (by (try simp only [List.map_toArray, List.map_cons, List.map_nil]); first | done | rfl | (simp only [List.length_drop, List.length_take]; rfl)) ?_; (with_reducible refine (spec_l01Next.calls g s0_0 t268 t269 8 t270 t271 t272 w0 _ ?side1 ?side2 A4.out).mono ?_); (case side1 => repeat (first | (with_reducible first | exact HI0.out | apply IsS138.alloc | apply IsS138.drewN | apply IsS138.drew | apply IsS138.set_1 | apply IsS138.set_2) | exact HI0.out)); (case side2 => repeat (first | (with_reducible first | exact HB.out | apply below_alloc | apply pw_below_drewN | apply below_drew1 | refine below_set ?_ (IsS138.ge HI0.out)) | exact HB.out)); rintro e w38 ⟨rfl, hi, hb, hk⟩; refine ⟨_, rfl, ?_⟩; have n0_ := Aside0.mk (KeepBut.trans (by repeat (first | (with_reducible first | exact HK.out | apply KeepBut.set_ | apply keep_drewN | apply keep_drew | apply keep_alloc) | exact HK.out)) hk (.inl rfl)); have n1_ := Aside0.mk (hb); have n2_ := Aside0.mk (hi); clear HK; clear HB; clear HI0; have HK := n0_; have HB := n1_; have HI0 := n2_; clear n0_ n1_ n2_; (try clear hb); (try clear hb2); (try clear hk); (try clear hi)))
                    have n0_ := Aside0.mk (IsS138.drew HI0.out)
                    have n1_ := Aside0.mk (keep_drew HK.out)
                    have n2_ := Aside0.mk (below_drew1 HB.out)
                    clear HI0
                    clear HK
                    clear HB
                    have HI0 := n0_
                    have HK := n1_
                    have HB := n2_
                    clear n0_ n1_ n2_
                    refine start_ (n := 9) (S := fun w' => True) (ds := []) #[false, false, false, false, false, false, false, false, false] (by kernel_rfl) rfl rfl trivial (fun hHeld => ?_); refine with_tabW spec_l01Damage.tab9 spec_l01Damage.bits9 (fun HT_ HW_ => ?_)
                    generalize w38.drew = w39 at HI0 HK HB hHeld ⊢
                    refine pure_ (i := 0) (N := some 39) (v := ?_) (a' := ?_) #[true, false, false, false, false, false, false, false, false] rfl rfl (any_of HT_.out (by kernel_rfl)) (fun _ _ _ h => h) (Or.inl ⟨by rfl, ?_⟩) ?_ ?_
                    rotate_left
                    · intro w'
                      go_simp
                      with_reducible rfl
                    rotate_left
                    · simp only [Act.put, List.setIfInBounds_toArray, List.set_cons_zero, List.set_cons_succ, i64_w, i32_w]
                      rfl
                    refine pure_ (i := 1) (N := some 40) (v := ?_) (a' := ?_) #[true, true, false, false, false, false, false, false, false] rfl rfl (any_of HT_.out (by kernel_rfl)) (fun _ _ _ h => h) (Or.inl ⟨by rfl, ?_⟩) ?_ ?_
                    rotate_left
                    · intro w'
                      go_simp
                      with_reducible rfl
                    rotate_left
                    · simp only [Act.put, List.setIfInBounds_toArray, List.set_cons_zero, List.set_cons_succ, i64_w, i32_w]
                      rfl
                    refine pure_ (i := 2) (N := some 41) (v := ?_) (a' := ?_) #[true, true, true, false, false, false, false, false, false] rfl rfl (any_of HT_.out (by kernel_rfl)) (fun _ _ _ h => h) (Or.inl ⟨by rfl, ?_⟩) ?_ ?_
                    rotate_left
                    · intro w'
                      go_simp
                      with_reducible rfl
                    rotate_left
                    · simp only [Act.put, List.setIfInBounds_toArray, List.set_cons_zero, List.set_cons_succ, i64_w, i32_w]
                      rfl
                    refine pure_ (i := 3) (N := some 42) (v := ?_) (a' := ?_) #[true, true, true, true, false, false, false, false, false] rfl rfl (any_of HT_.out (by kernel_rfl)) (fun _ _ _ h => h) (Or.inl ⟨by rfl, ?_⟩) ?_ ?_
                    rotate_left
                    · intro w'
                      go_simp
                      with_reducible rfl
                    rotate_left
                    · simp only [Act.put, List.setIfInBounds_toArray, List.set_cons_zero, List.set_cons_succ, i64_w, i32_w]
                      rfl
                    refine pure_ (i := 4) (N := some 43) (v := ?_) (a' := ?_) #[true, true, true, true, true, false, false, false, false] rfl rfl (any_of HT_.out (by kernel_rfl)) (fun _ _ _ h => h) (Or.inl ⟨by rfl, ?_⟩) ?_ ?_
                    rotate_left
                    · intro w'
                      go_simp
                      with_reducible rfl
                    rotate_left
                    · simp only [Act.put, List.setIfInBounds_toArray, List.set_cons_zero, List.set_cons_succ, i64_w, i32_w]
                      rfl
                    refine pure_ (i := 5) (N := some 44) (v := ?_) (a' := ?_) #[true, true, true, true, true, true, false, false, false] rfl rfl (any_of HT_.out (by kernel_rfl)) (fun _ _ _ h => h) (Or.inl ⟨by rfl, ?_⟩) ?_ ?_
                    rotate_left
                    · intro w'
                      go_simp
                      with_reducible rfl
                    rotate_left
                    · simp only [Act.put, List.setIfInBounds_toArray, List.set_cons_zero, List.set_cons_succ, i64_w, i32_w]
                      rfl
                    refine pure_ (i := 6) (N := some 45) (v := ?_) (a' := ?_) #[true, true, true, true, true, true, true, false, false] rfl rfl (any_of HT_.out (by kernel_rfl)) (fun _ _ _ h => h) (Or.inl ⟨by rfl, ?_⟩) ?_ ?_
                    rotate_left
                    · intro w'
                      go_simp
                      with_reducible rfl
                    rotate_left
                    · simp only [Act.put, List.setIfInBounds_toArray, List.set_cons_zero, List.set_cons_succ, i64_w, i32_w]
                      rfl
                    refine pure_ (i := 7) (N := some 46) (v := ?_) (a' := ?_) #[true, true, true, true, true, true, true, true, false] rfl rfl (any_of HT_.out (by kernel_rfl)) (fun _ _ _ h => h) (Or.inl ⟨by rfl, ?_⟩) ?_ ?_
                    rotate_left
                    · intro w'
                      go_simp
                      with_reducible rfl
                    rotate_left
                    · simp only [Act.put, List.setIfInBounds_toArray, List.set_cons_zero, List.set_cons_succ, i64_w, i32_w]
                      rfl
                    refine pure_ (i := 8) (N := some 4) (v := ?_) (a' := ?_) #[true, true, true, true, true, true, true, true, true] rfl rfl (any_of HT_.out (by kernel_rfl)) (fun _ _ _ h => h) (Or.inl ⟨by rfl, ?_⟩) ?_ ?_
                    rotate_left
                    · intro w'
                      go_simp
                      with_reducible rfl
                    rotate_left
                    · simp only [Act.put, List.setIfInBounds_toArray, List.set_cons_zero, List.set_cons_succ, i64_w, i32_w]
                      rfl
                    refine done_ (done_of HT_.out (by kernel_rfl)) ?_
                    try go_wp2
                    go_ret
                    exact ⟨by first | rfl | (simp [errW_none, errW_some] <;> rfl) | (simp only [← hji33]; first | rfl | (simp [errW_none, errW_some] <;> rfl)) | (simp [*, errW_none, errW_some] <;> rfl), by repeat (first | (with_reducible first | exact HI0.out | apply IsS138.alloc | apply IsS138.drewN | apply IsS138.drew | apply IsS138.set_1 | apply IsS138.set_2) | exact HI0.out), by repeat (first | (with_reducible first | exact HB.out | apply below_alloc | apply pw_below_drewN | apply below_drew1 | refine below_set ?_ (IsS138.ge HI0.out)) | exact HB.out), by repeat (first | (with_reducible first | exact HK.out | apply KeepBut.set_ | apply keep_drewN | apply keep_drew | apply keep_alloc) | exact HK.out)⟩
                  · rw [if_neg c36] at H
                    exact absurd H (by simp)
                · rw [if_neg c35] at H
                  exact absurd H (by simp)
              · rw [if_neg c34] at H
                exact absurd H (by simp)
            · rw [if_neg c32] at H
              exact absurd H (by simp)
          · rw [if_neg c31] at H
            exact absurd H (by simp)
        · rw [if_neg c30] at H
          have c30b0 : decide (t267 < (a1.size : Int)) = false := decide_eq_false c30
          clear c30
          simp only [Option.some.injEq, Prod.mk.injEq] at H
          obtain ⟨rfl, rfl, rfl⟩ := H
          go_enter Try.func111, Try.ntmps111
          go_wp2_with (first | ((with_reducible refine gate_callee (f := 105) rfl ?_); refine goesL_ (some 10) rfl rfl Try.func105 (by kernel_rfl) rfl #[.pointer (some ⟨g, 0, none⟩), .int .i64 (wrap64 ((a1.size : Int) + 1))] rfl (by (try simp only [List.map_toArray, List.map_cons, List.map_nil]); first | done | rfl | (simp only [List.length_drop, List.length_take]; rfl)) ?_; (with_reducible refine (spec_l01Next.calls g s0_0 s0_1 s0_2 (wrap64 ((a1.size : Int) + 1)) t267 t268 t269 w0 _ ?side1 ?side2 A3.out).mono ?_); (case side1 => repeat (first | (with_reducible first | exact HI0.out | apply IsS138.alloc | apply IsS138.drewN | apply IsS138.drew | apply IsS138.set_1 | apply IsS138.set_2) | exact HI0.out)); (case side2 => repeat (first | (with_reducible first | exact HB.out | apply below_alloc | apply pw_below_drewN | apply below_drew1 | refine below_set ?_ (IsS138.ge HI0.out)) | exact HB.out)); rintro e w40 ⟨rfl, hi, hb, hk⟩; refine ⟨_, rfl, ?_⟩; have n0_ := Aside0.mk (KeepBut.trans (by repeat (first | (with_reducible first | exact HK.out | apply KeepBut.set_ | apply keep_drewN | apply keep_drew | apply keep_alloc) | exact HK.out)) hk (.inl rfl)); have n1_ := Aside0.mk (hb); have n2_ := Aside0.mk (hi); clear HK; clear HB; clear HI0; have HK := n0_; have HB := n1_; have HI0 := n2_; clear n0_ n1_ n2_; (try clear hb); (try clear hb2); (try clear hk); (try clear hi)) | ((with_reducible refine gate_callee (f := 105) rfl ?_); refine goesL_ (some 12) rfl rfl Try.func105 (by kernel_rfl) rfl #[.pointer (some ⟨g, 0, none⟩), .int .i64 8] rfl (by (try simp only [List.map_toArray, List.map_cons, List.map_nil]); first | done | rfl | (simp only [List.length_drop, List.length_take]; rfl)) ?_; (with_reducible refine (spec_l01Next.calls g s0_0 t268 t269 8 t270 t271 t272 w0 _ ?side1 ?side2 A4.out).mono ?_); (case side1 => repeat (first | (with_reducible first | exact HI0.out | apply IsS138.alloc | apply IsS138.drewN | apply IsS138.drew | apply IsS138.set_1 | apply IsS138.set_2) | exact HI0.out)); (case side2 => repeat (first | (with_reducible first | exact HB.out | apply below_alloc | apply pw_below_drewN | apply below_drew1 | refine below_set ?_ (IsS138.ge HI0.out)) | exact HB.out)); rintro e w41 ⟨rfl, hi, hb, hk⟩; refine ⟨_, rfl, ?_⟩; have n0_ := Aside0.mk (KeepBut.trans (by repeat (first | (with_reducible first | exact HK.out | apply KeepBut.set_ | apply keep_drewN | apply keep_drew | apply keep_alloc) | exact HK.out)) hk (.inl rfl)); have n1_ := Aside0.mk (hb); have n2_ := Aside0.mk (hi); clear HK; clear HB; clear HI0; have HK := n0_; have HB := n1_; have HI0 := n2_; clear n0_ n1_ n2_; (try clear hb); (try clear hb2); (try clear hk); (try clear hi)))
          go_ret
          exact ⟨by first | rfl | (simp [errW_none, errW_some] <;> rfl) | (simp [*, errW_none, errW_some] <;> rfl), by repeat (first | (with_reducible first | exact HI0.out | apply IsS138.alloc | apply IsS138.drewN | apply IsS138.drew | apply IsS138.set_1 | apply IsS138.set_2) | exact HI0.out), by repeat (first | (with_reducible first | exact HB.out | apply below_alloc | apply pw_below_drewN | apply below_drew1 | refine below_set ?_ (IsS138.ge HI0.out)) | exact HB.out), by repeat (first | (with_reducible first | exact HK.out | apply KeepBut.set_ | apply keep_drewN | apply keep_drew | apply keep_alloc) | exact HK.out)⟩
      · rw [if_neg c29] at H
        have c29b0 : (t270 == 2) = false := beq_eq_false_iff_ne.mpr c29
        have c29b1 : (t270 != 2) = true := bne_iff_ne.mpr c29
        simp only [Option.some.injEq, Prod.mk.injEq] at H
        obtain ⟨rfl, rfl, rfl⟩ := H
        go_enter Try.func111, Try.ntmps111
        go_wp2_with (first | ((with_reducible refine gate_callee (f := 105) rfl ?_); refine goesL_ (some 10) rfl rfl Try.func105 (by kernel_rfl) rfl #[.pointer (some ⟨g, 0, none⟩), .int .i64 (wrap64 ((a1.size : Int) + 1))] rfl (by (try simp only [List.map_toArray, List.map_cons, List.map_nil]); first | done | rfl | (simp only [List.length_drop, List.length_take]; rfl)) ?_; (with_reducible refine (spec_l01Next.calls g s0_0 s0_1 s0_2 (wrap64 ((a1.size : Int) + 1)) t267 t268 t269 w0 _ ?side1 ?side2 A3.out).mono ?_); (case side1 => repeat (first | (with_reducible first | exact HI0.out | apply IsS138.alloc | apply IsS138.drewN | apply IsS138.drew | apply IsS138.set_1 | apply IsS138.set_2) | exact HI0.out)); (case side2 => repeat (first | (with_reducible first | exact HB.out | apply below_alloc | apply pw_below_drewN | apply below_drew1 | refine below_set ?_ (IsS138.ge HI0.out)) | exact HB.out)); rintro e w42 ⟨rfl, hi, hb, hk⟩; refine ⟨_, rfl, ?_⟩; have n0_ := Aside0.mk (KeepBut.trans (by repeat (first | (with_reducible first | exact HK.out | apply KeepBut.set_ | apply keep_drewN | apply keep_drew | apply keep_alloc) | exact HK.out)) hk (.inl rfl)); have n1_ := Aside0.mk (hb); have n2_ := Aside0.mk (hi); clear HK; clear HB; clear HI0; have HK := n0_; have HB := n1_; have HI0 := n2_; clear n0_ n1_ n2_; (try clear hb); (try clear hb2); (try clear hk); (try clear hi)) | ((with_reducible refine gate_callee (f := 105) rfl ?_); refine goesL_ (some 12) rfl rfl Try.func105 (by kernel_rfl) rfl #[.pointer (some ⟨g, 0, none⟩), .int .i64 8] rfl (by (try simp only [List.map_toArray, List.map_cons, List.map_nil]); first | done | rfl | (simp only [List.length_drop, List.length_take]; rfl)) ?_; (with_reducible refine (spec_l01Next.calls g s0_0 t268 t269 8 t270 t271 t272 w0 _ ?side1 ?side2 A4.out).mono ?_); (case side1 => repeat (first | (with_reducible first | exact HI0.out | apply IsS138.alloc | apply IsS138.drewN | apply IsS138.drew | apply IsS138.set_1 | apply IsS138.set_2) | exact HI0.out)); (case side2 => repeat (first | (with_reducible first | exact HB.out | apply below_alloc | apply pw_below_drewN | apply below_drew1 | refine below_set ?_ (IsS138.ge HI0.out)) | exact HB.out)); rintro e w43 ⟨rfl, hi, hb, hk⟩; refine ⟨_, rfl, ?_⟩; have n0_ := Aside0.mk (KeepBut.trans (by repeat (first | (with_reducible first | exact HK.out | apply KeepBut.set_ | apply keep_drewN | apply keep_drew | apply keep_alloc) | exact HK.out)) hk (.inl rfl)); have n1_ := Aside0.mk (hb); have n2_ := Aside0.mk (hi); clear HK; clear HB; clear HI0; have HK := n0_; have HB := n1_; have HI0 := n2_; clear n0_ n1_ n2_; (try clear hb); (try clear hb2); (try clear hk); (try clear hi)))
        go_ret
        exact ⟨by first | rfl | (simp [errW_none, errW_some] <;> rfl) | (simp [*, errW_none, errW_some] <;> rfl), by repeat (first | (with_reducible first | exact HI0.out | apply IsS138.alloc | apply IsS138.drewN | apply IsS138.drew | apply IsS138.set_1 | apply IsS138.set_2) | exact HI0.out), by repeat (first | (with_reducible first | exact HB.out | apply below_alloc | apply pw_below_drewN | apply below_drew1 | refine below_set ?_ (IsS138.ge HI0.out)) | exact HB.out), by repeat (first | (with_reducible first | exact HK.out | apply KeepBut.set_ | apply keep_drewN | apply keep_drew | apply keep_alloc) | exact HK.out)⟩

/-! ### spec_DrawReadClass: function 59 -/
def spec_DrawReadClass.f (k : Nat) (l0 : List Int) : Option (ByteArray) := (spec_l01From.f k l0).bind fun bt280 => ((spec_l01Next.f bt280.1 bt280.2.1 bt280.2.2 169).bind fun bt284 => ((spec_l07Text.f bt284.1).bind fun t287 => ((spec_l01Next.f bt280.1 bt284.2.1 bt284.2.2 3).bind fun bt288 => (if bt288.1 = 0 then ((spec_l01Damage.f bt280.1 bt288.2.1 bt288.2.2 t287).bind fun bt291 => (some bt291.1)) else (some t287)))))
theorem spec_DrawReadClass.mono : ∀ a0 k, LeO (spec_DrawReadClass.f k a0) (spec_DrawReadClass.f (k + 1) a0) := by
  intro a0 k
  unfold spec_DrawReadClass.f
  repeat' first
      | (with_reducible exact spec_l01From.mono _ _)
      | (with_reducible exact LeO.refl _)
      | (with_reducible exact LeO.none _)
      | (with_reducible refine LeO.ite ?_ ?_)
      | (with_reducible refine LeO.bind ?_ (fun _ => ?_))
      | exact spec_l01From.mono _ _
      | exact LeO.none _
      | refine LeO.ite ?_ ?_
      | refine LeO.bind ?_ (fun _ => ?_)
set_option maxHeartbeats 8000000 in
set_option maxRecDepth 100000 in
theorem spec_DrawReadClass.calls (k : Nat) (A0 : Option Addr) (c0 : Nat) (l0 : List Int) (r : ByteArray) (w : World) (hr0 : Kd.C (Kd.int .u8) w A0 l0.length l0) (hc0 : l0.length ≤ c0) (h : spec_DrawReadClass.f k l0 = some r) :
    Calls Try.prog 59 #[.slice A0 l0.length c0] w fun e w' => e = .returned (.string r) ∧ Below w.heap.size w w' := by
  have HR0 := Aside0.mk hr0
  have HC0 := Aside0.mk hc0
  clear hr0 hc0
  have HB := Aside0.mk (Below.refl w.heap.size w)
  have H : ((spec_l01From.f k l0).bind fun bt280 => ((spec_l01Next.f bt280.1 bt280.2.1 bt280.2.2 169).bind fun bt284 => ((spec_l07Text.f bt284.1).bind fun t287 => ((spec_l01Next.f bt280.1 bt284.2.1 bt284.2.2 3).bind fun bt288 => (if bt288.1 = 0 then ((spec_l01Damage.f bt280.1 bt288.2.1 bt288.2.2 t287).bind fun bt291 => (some bt291.1)) else (some t287)))))) = some r := h
  clear h
  replace H := Option.bind_eq_some_iff.mp H
  obtain ⟨⟨t280, t281, t282⟩, A20, H⟩ := H
  replace H : ((spec_l01Next.f t280 t281 t282 169).bind fun bt284 => ((spec_l07Text.f bt284.1).bind fun t287 => ((spec_l01Next.f t280 bt284.2.1 bt284.2.2 3).bind fun bt288 => (if bt288.1 = 0 then ((spec_l01Damage.f t280 bt288.2.1 bt288.2.2 t287).bind fun bt291 => (some bt291.1)) else (some t287))))) = some r := H
  have A2 := Aside0.mk A20
  clear A20
  replace H := Option.bind_eq_some_iff.mp H
  obtain ⟨⟨t284, t285, t286⟩, A30, H⟩ := H
  replace H : ((spec_l07Text.f t284).bind fun t287 => ((spec_l01Next.f t280 t285 t286 3).bind fun bt288 => (if bt288.1 = 0 then ((spec_l01Damage.f t280 bt288.2.1 bt288.2.2 t287).bind fun bt291 => (some bt291.1)) else (some t287)))) = some r := H
  have A3 := Aside0.mk A30
  clear A30
  replace H := Option.bind_eq_some_iff.mp H
  obtain ⟨t287, A40, H⟩ := H
  replace H : ((spec_l01Next.f t280 t285 t286 3).bind fun bt288 => (if bt288.1 = 0 then ((spec_l01Damage.f t280 bt288.2.1 bt288.2.2 t287).bind fun bt291 => (some bt291.1)) else (some t287))) = some r := H
  have A4 := Aside0.mk A40
  clear A40
  replace H := Option.bind_eq_some_iff.mp H
  obtain ⟨⟨t288, t289, t290⟩, A50, H⟩ := H
  replace H : (if t288 = 0 then ((spec_l01Damage.f t280 t289 t290 t287).bind fun bt291 => (some bt291.1)) else (some t287)) = some r := H
  have A5 := Aside0.mk A50
  clear A50
  by_cases c6 : t288 = 0
  · rw [if_pos c6] at H
    have c6b0 : (t288 == 0) = true := beq_iff_eq.mpr c6
    have c6b1 : (t288 != 0) = false := bne_eq_false_iff_eq.mpr c6
    clear c6
    replace H := Option.bind_eq_some_iff.mp H
    obtain ⟨⟨t291, t292, t293⟩, A70, H⟩ := H
    replace H : (some t291) = some r := H
    have A7 := Aside0.mk A70
    clear A70
    obtain rfl := Option.some.inj H
    go_enter Try.func59, Try.ntmps59
    go_wp2_with (first | ((with_reducible refine gate_callee (f := 102) rfl ?_); refine goesL_ (some 6) rfl rfl Try.func102 (by kernel_rfl) rfl #[.slice A0 l0.length c0] rfl (by (try simp only [List.map_toArray, List.map_cons, List.map_nil]); first | done | rfl | (simp only [List.length_drop, List.length_take]; rfl)) ?_; (with_reducible refine (spec_l01From.calls k _ _ l0 t280 t281 t282 w _ ?side1 ?side2 ?side3 A2.out).mono ?_); (case side1 => repeat (first | (with_reducible first | exact HB.out | apply below_alloc | apply pw_below_drewN | apply below_drew1) | exact HB.out)); (case side2 => exact HR0.out); (case side3 => exact HC0.out); rintro e w8 ⟨g283, rfl, hi, hb, hb2⟩; refine ⟨_, rfl, ?_⟩; have n0_ := Aside0.mk (hb); have n1_ := Aside0.mk (hi); clear HB; have HB := n0_; have HI283 := n1_; clear n0_ n1_; (try clear hb); (try clear hb2); (try clear hk); (try clear hi)) | ((with_reducible refine gate_callee (f := 105) rfl ?_); refine goesL_ (some 8) rfl rfl Try.func105 (by kernel_rfl) rfl #[.pointer (some ⟨g283, 0, none⟩), .int .i64 169] rfl (by (try simp only [List.map_toArray, List.map_cons, List.map_nil]); first | done | rfl | (simp only [List.length_drop, List.length_take]; rfl)) ?_; (with_reducible refine (spec_l01Next.calls g283 t280 t281 t282 169 t284 t285 t286 w _ ?side1 ?side2 A3.out).mono ?_); (case side1 => repeat (first | (with_reducible first | exact HI283.out | apply IsS138.alloc | apply IsS138.drewN | apply IsS138.drew | apply IsS138.set_1 | apply IsS138.set_2) | exact HI283.out)); (case side2 => repeat (first | (with_reducible first | exact HB.out | apply below_alloc | apply pw_below_drewN | apply below_drew1 | refine below_set ?_ (IsS138.ge HI283.out)) | exact HB.out)); rintro e w9 ⟨rfl, hi, hb, hk⟩; refine ⟨_, rfl, ?_⟩; have n0_ := Aside0.mk (hb); have n1_ := Aside0.mk (hi); clear HB; clear HI283; have HB := n0_; have HI283 := n1_; clear n0_ n1_; (try clear hb); (try clear hb2); (try clear hk); (try clear hi)) | ((with_reducible refine gate_callee (f := 110) rfl ?_); refine goesL_ (some 9) rfl rfl Try.func110 (by kernel_rfl) rfl #[.int .i64 t284] rfl (by (try simp only [List.map_toArray, List.map_cons, List.map_nil]); first | done | rfl | (simp only [List.length_drop, List.length_take]; rfl)) ?_; (with_reducible refine (spec_l07Text.calls t284 t287 _ A4.out).mono ?_); rintro e w10 ⟨rfl, hb⟩; refine ⟨_, rfl, ?_⟩; have n0_ := Aside0.mk (IsS138.below (by repeat (first | (with_reducible first | exact HI283.out | apply IsS138.alloc | apply IsS138.drewN | apply IsS138.drew | apply IsS138.set_1 | apply IsS138.set_2) | exact HI283.out)) hb); have n1_ := Aside0.mk (below_step (by repeat (first | (with_reducible first | exact HB.out | apply below_alloc | apply pw_below_drewN | apply below_drew1 | refine below_set ?_ (IsS138.ge HI283.out)) | exact HB.out)) hb); clear HI283; clear HB; have HI283 := n0_; have HB := n1_; clear n0_ n1_; (try clear hb); (try clear hb2); (try clear hk); (try clear hi)) | ((with_reducible refine gate_callee (f := 105) rfl ?_); refine goesL_ (some 11) rfl rfl Try.func105 (by kernel_rfl) rfl #[.pointer (some ⟨g283, 0, none⟩), .int .i64 3] rfl (by (try simp only [List.map_toArray, List.map_cons, List.map_nil]); first | done | rfl | (simp only [List.length_drop, List.length_take]; rfl)) ?_; (with_reducible refine (spec_l01Next.calls g283 t280 t285 t286 3 t288 t289 t290 w _ ?side1 ?side2 A5.out).mono ?_); (case side1 => repeat (first | (with_reducible first | exact HI283.out | apply IsS138.alloc | apply IsS138.drewN | apply IsS138.drew | apply IsS138.set_1 | apply IsS138.set_2) | exact HI283.out)); (case side2 => repeat (first | (with_reducible first | exact HB.out | apply below_alloc | apply pw_below_drewN | apply below_drew1 | refine below_set ?_ (IsS138.ge HI283.out)) | exact HB.out)); rintro e w11 ⟨rfl, hi, hb, hk⟩; refine ⟨_, rfl, ?_⟩; have n0_ := Aside0.mk (hb); have n1_ := Aside0.mk (hi); clear HB; clear HI283; have HB := n0_; have HI283 := n1_; clear n0_ n1_; (try clear hb); (try clear hb2); (try clear hk); (try clear hi)) | ((with_reducible refine gate_callee (f := 111) rfl ?_); refine goesL_ (some 15) rfl rfl Try.func111 (by kernel_rfl) rfl #[.pointer (some ⟨g283, 0, none⟩), .string t287] rfl (by (try simp only [List.map_toArray, List.map_cons, List.map_nil]); first | done | rfl | (simp only [List.length_drop, List.length_take]; rfl)) ?_; (with_reducible refine (spec_l01Damage.calls g283 t280 t289 t290 t287 t291 t292 t293 w _ ?side1 ?side2 A7.out).mono ?_); (case side1 => repeat (first | (with_reducible first | exact HI283.out | apply IsS138.alloc | apply IsS138.drewN | apply IsS138.drew | apply IsS138.set_1 | apply IsS138.set_2) | exact HI283.out)); (case side2 => repeat (first | (with_reducible first | exact HB.out | apply below_alloc | apply pw_below_drewN | apply below_drew1 | refine below_set ?_ (IsS138.ge HI283.out)) | exact HB.out)); rintro e w12 ⟨rfl, hi, hb, hk⟩; refine ⟨_, rfl, ?_⟩; have n0_ := Aside0.mk (hb); have n1_ := Aside0.mk (hi); clear HB; clear HI283; have HB := n0_; have HI283 := n1_; clear n0_ n1_; (try clear hb); (try clear hb2); (try clear hk); (try clear hi)))
    go_ret
    exact ⟨by first | rfl | (simp [errW_none, errW_some] <;> rfl) | (simp [*, errW_none, errW_some] <;> rfl), by repeat (first | (with_reducible first | exact HB.out | apply below_alloc | apply pw_below_drewN | apply below_drew1 | refine below_set ?_ (IsS138.ge HI283.out)) | exact HB.out)⟩
  · rw [if_neg c6] at H
    have c6b0 : (t288 == 0) = false := beq_eq_false_iff_ne.mpr c6
    have c6b1 : (t288 != 0) = true := bne_iff_ne.mpr c6
    obtain rfl := Option.some.inj H
    go_enter Try.func59, Try.ntmps59
    go_wp2_with (first | ((with_reducible refine gate_callee (f := 102) rfl ?_); refine goesL_ (some 6) rfl rfl Try.func102 (by kernel_rfl) rfl #[.slice A0 l0.length c0] rfl (by (try simp only [List.map_toArray, List.map_cons, List.map_nil]); first | done | rfl | (simp only [List.length_drop, List.length_take]; rfl)) ?_; (with_reducible refine (spec_l01From.calls k _ _ l0 t280 t281 t282 w _ ?side1 ?side2 ?side3 A2.out).mono ?_); (case side1 => repeat (first | (with_reducible first | exact HB.out | apply below_alloc | apply pw_below_drewN | apply below_drew1) | exact HB.out)); (case side2 => exact HR0.out); (case side3 => exact HC0.out); rintro e w13 ⟨g283, rfl, hi, hb, hb2⟩; refine ⟨_, rfl, ?_⟩; have n0_ := Aside0.mk (hb); have n1_ := Aside0.mk (hi); clear HB; have HB := n0_; have HI283 := n1_; clear n0_ n1_; (try clear hb); (try clear hb2); (try clear hk); (try clear hi)) | ((with_reducible refine gate_callee (f := 105) rfl ?_); refine goesL_ (some 8) rfl rfl Try.func105 (by kernel_rfl) rfl #[.pointer (some ⟨g283, 0, none⟩), .int .i64 169] rfl (by (try simp only [List.map_toArray, List.map_cons, List.map_nil]); first | done | rfl | (simp only [List.length_drop, List.length_take]; rfl)) ?_; (with_reducible refine (spec_l01Next.calls g283 t280 t281 t282 169 t284 t285 t286 w _ ?side1 ?side2 A3.out).mono ?_); (case side1 => repeat (first | (with_reducible first | exact HI283.out | apply IsS138.alloc | apply IsS138.drewN | apply IsS138.drew | apply IsS138.set_1 | apply IsS138.set_2) | exact HI283.out)); (case side2 => repeat (first | (with_reducible first | exact HB.out | apply below_alloc | apply pw_below_drewN | apply below_drew1 | refine below_set ?_ (IsS138.ge HI283.out)) | exact HB.out)); rintro e w14 ⟨rfl, hi, hb, hk⟩; refine ⟨_, rfl, ?_⟩; have n0_ := Aside0.mk (hb); have n1_ := Aside0.mk (hi); clear HB; clear HI283; have HB := n0_; have HI283 := n1_; clear n0_ n1_; (try clear hb); (try clear hb2); (try clear hk); (try clear hi)) | ((with_reducible refine gate_callee (f := 110) rfl ?_); refine goesL_ (some 9) rfl rfl Try.func110 (by kernel_rfl) rfl #[.int .i64 t284] rfl (by (try simp only [List.map_toArray, List.map_cons, List.map_nil]); first | done | rfl | (simp only [List.length_drop, List.length_take]; rfl)) ?_; (with_reducible refine (spec_l07Text.calls t284 t287 _ A4.out).mono ?_); rintro e w15 ⟨rfl, hb⟩; refine ⟨_, rfl, ?_⟩; have n0_ := Aside0.mk (IsS138.below (by repeat (first | (with_reducible first | exact HI283.out | apply IsS138.alloc | apply IsS138.drewN | apply IsS138.drew | apply IsS138.set_1 | apply IsS138.set_2) | exact HI283.out)) hb); have n1_ := Aside0.mk (below_step (by repeat (first | (with_reducible first | exact HB.out | apply below_alloc | apply pw_below_drewN | apply below_drew1 | refine below_set ?_ (IsS138.ge HI283.out)) | exact HB.out)) hb); clear HI283; clear HB; have HI283 := n0_; have HB := n1_; clear n0_ n1_; (try clear hb); (try clear hb2); (try clear hk); (try clear hi)) | ((with_reducible refine gate_callee (f := 105) rfl ?_); refine goesL_ (some 11) rfl rfl Try.func105 (by kernel_rfl) rfl #[.pointer (some ⟨g283, 0, none⟩), .int .i64 3] rfl (by (try simp only [List.map_toArray, List.map_cons, List.map_nil]); first | done | rfl | (simp only [List.length_drop, List.length_take]; rfl)) ?_; (with_reducible refine (spec_l01Next.calls g283 t280 t285 t286 3 t288 t289 t290 w _ ?side1 ?side2 A5.out).mono ?_); (case side1 => repeat (first | (with_reducible first | exact HI283.out | apply IsS138.alloc | apply IsS138.drewN | apply IsS138.drew | apply IsS138.set_1 | apply IsS138.set_2) | exact HI283.out)); (case side2 => repeat (first | (with_reducible first | exact HB.out | apply below_alloc | apply pw_below_drewN | apply below_drew1 | refine below_set ?_ (IsS138.ge HI283.out)) | exact HB.out)); rintro e w16 ⟨rfl, hi, hb, hk⟩; refine ⟨_, rfl, ?_⟩; have n0_ := Aside0.mk (hb); have n1_ := Aside0.mk (hi); clear HB; clear HI283; have HB := n0_; have HI283 := n1_; clear n0_ n1_; (try clear hb); (try clear hb2); (try clear hk); (try clear hi)))
    go_ret
    exact ⟨by first | rfl | (simp [errW_none, errW_some] <;> rfl) | (simp [*, errW_none, errW_some] <;> rfl), by repeat (first | (with_reducible first | exact HB.out | apply below_alloc | apply pw_below_drewN | apply below_drew1 | refine below_set ?_ (IsS138.ge HI283.out)) | exact HB.out)⟩

/-! ### impl_ReadClass: function 60 -/
def impl_ReadClass.l0 : Nat → ByteArray → Int → Option (Int × Int)
  | 0, _, _ => none
  | k + 1, x0, x5 => if x5 < 169 then ((impl_classText.f x5).bind fun t294 => (if t294.toList = x0.toList then (some (x5, 0)) else (impl_ReadClass.l0 k x0 (wrap64 (x5 + 1))))) else (some (0, 6))
def impl_ReadClass.f (k : Nat) (a0 : ByteArray) : Option (Int × Int) := impl_ReadClass.l0 k a0 0
theorem impl_ReadClass.mono_l : ∀ k, (∀ y0 y1, LeO (impl_ReadClass.l0 k y0 y1) (impl_ReadClass.l0 (k + 1) y0 y1))
  | 0 => fun _ _ r h => by simp [impl_ReadClass.l0] at h
  | k + 1 => by
    have ih0 := impl_ReadClass.mono_l k
    · intro y0 y1
      unfold impl_ReadClass.l0
      repeat' first
      | (with_reducible exact ih0 _ _)
      | (with_reducible exact LeO.refl _)
      | (with_reducible exact LeO.none _)
      | (with_reducible refine LeO.ite ?_ ?_)
      | (with_reducible refine LeO.bind ?_ (fun _ => ?_))
      | exact ih0 _ _
      | exact LeO.none _
      | refine LeO.ite ?_ ?_
      | refine LeO.bind ?_ (fun _ => ?_)
theorem impl_ReadClass.mono : ∀ a0 k, LeO (impl_ReadClass.f k a0) (impl_ReadClass.f (k + 1) a0) := by
  intro a0 k
  have ih0 := impl_ReadClass.mono_l k
  unfold impl_ReadClass.f
  repeat' first
      | (with_reducible exact ih0 _ _)
      | (with_reducible exact LeO.refl _)
      | (with_reducible exact LeO.none _)
      | (with_reducible refine LeO.ite ?_ ?_)
      | (with_reducible refine LeO.bind ?_ (fun _ => ?_))
      | exact ih0 _ _
      | exact LeO.none _
      | refine LeO.ite ?_ ?_
      | refine LeO.bind ?_ (fun _ => ?_)
set_option maxHeartbeats 8000000 in
set_option maxRecDepth 100000 in
theorem impl_ReadClass.calls (k : Nat) (a0 : ByteArray) (r1 : Int) (r2 : Int) (w : World) (h : impl_ReadClass.f k a0 = some (r1, r2)) :
    Calls Try.prog 60 #[.string a0] w fun e w' => e = .returned (.tuple #[.int .i64 r1, .int .i64 r2]) ∧ Below w.heap.size w w' := by
  have HB := Aside0.mk (Below.refl w.heap.size w)
  have H : (impl_ReadClass.l0 k a0 0) = some (r1, r2) := h
  clear h
  have H' := Aside0.mk H
  clear H
  go_enter Try.func60, Try.ntmps60
  go_wp2
  go_loopg [5] k (fun kq v5 w' => ∃ (x5_1 : Int), v5 = .int .i64 x5_1 ∧ Aside0 (impl_ReadClass.l0 kq a0 x5_1 = some (r1, r2)) ∧ Aside0 (kq ≤ k) ∧ Aside0 (Below w.heap.size w w'))
  case atStart => exact ⟨(0), (by first | rfl | (simp; done) | (simp [*]; done)), H', ⟨Nat.le_refl _⟩, ⟨by repeat (first | (with_reducible first | exact HB.out | apply below_alloc | apply pw_below_drewN | apply below_drew1) | exact HB.out)⟩⟩
  case round =>
    clear H'
    obtain ⟨x5_1, rfl, HA, HK1, HB⟩ := hrel
    cases gk with
    | zero => exact absurd HA.out (by simp [impl_ReadClass.l0])
    | succ k1 =>
      have H := HA.out
      clear HA
      simp only [impl_ReadClass.l0] at H
      by_cases c2 : x5_1 < 169
      · rw [if_pos c2] at H
        have c2b0 : decide (x5_1 < 169) = true := decide_eq_true c2
        clear c2
        replace H := Option.bind_eq_some_iff.mp H
        obtain ⟨t294, A30, H⟩ := H
        replace H : (if t294.toList = a0.toList then (some (x5_1, 0)) else (impl_ReadClass.l0 k1 a0 (wrap64 (x5_1 + 1)))) = some (r1, r2) := H
        have A3 := Aside0.mk A30
        clear A30
        by_cases c4 : t294.toList = a0.toList
        · rw [if_pos c4] at H
          have c4b0 : (t294.toList == a0.toList) = true := beq_iff_eq.mpr c4
          have c4b1 : (t294.toList != a0.toList) = false := bne_eq_false_iff_eq.mpr c4
          clear c4
          simp only [Option.some.injEq, Prod.mk.injEq] at H
          obtain ⟨rfl, rfl⟩ := H
          go_wp2_with (first | ((with_reducible refine gate_callee (f := 74) rfl ?_); refine goesL_ (some 9) rfl rfl Try.func74 (by kernel_rfl) rfl #[.int .i64 x5_1] rfl (by (try simp only [List.map_toArray, List.map_cons, List.map_nil]); first | done | rfl | (simp only [List.length_drop, List.length_take]; rfl)) ?_; (with_reducible refine (impl_classText.calls x5_1 t294 _ A3.out).mono ?_); rintro e w5 ⟨rfl, hb⟩; refine ⟨_, rfl, ?_⟩; have n0_ := Aside0.mk (below_step (by repeat (first | (with_reducible first | exact HB.out | apply below_alloc | apply pw_below_drewN | apply below_drew1) | exact HB.out)) hb); clear HB; have HB := n0_; clear n0_; (try clear hb); (try clear hb2); (try clear hk); (try clear hi)))
          go_ret2
          exact ⟨by first | rfl | (simp [errW_none, errW_some] <;> rfl) | (simp [*, errW_none, errW_some] <;> rfl), by repeat (first | (with_reducible first | exact HB.out | apply below_alloc | apply pw_below_drewN | apply below_drew1) | exact HB.out)⟩
        · rw [if_neg c4] at H
          have c4b0 : (t294.toList == a0.toList) = false := beq_eq_false_iff_ne.mpr c4
          have c4b1 : (t294.toList != a0.toList) = true := bne_iff_ne.mpr c4
          have H' := Aside0.mk H
          clear H
          go_wp2_with (first | ((with_reducible refine gate_callee (f := 74) rfl ?_); refine goesL_ (some 9) rfl rfl Try.func74 (by kernel_rfl) rfl #[.int .i64 x5_1] rfl (by (try simp only [List.map_toArray, List.map_cons, List.map_nil]); first | done | rfl | (simp only [List.length_drop, List.length_take]; rfl)) ?_; (with_reducible refine (impl_classText.calls x5_1 t294 _ A3.out).mono ?_); rintro e w6 ⟨rfl, hb⟩; refine ⟨_, rfl, ?_⟩; have n0_ := Aside0.mk (below_step (by repeat (first | (with_reducible first | exact HB.out | apply below_alloc | apply pw_below_drewN | apply below_drew1) | exact HB.out)) hb); clear HB; have HB := n0_; clear n0_; (try clear hb); (try clear hb2); (try clear hk); (try clear hi)))
          go_roundg k1
          case measure => have := HK1.out; omega
          case rel => exact ⟨(wrap64 (x5_1 + 1)), (by first | rfl | (simp; done) | (simp [*]; done)), H', ⟨by have := HK1.out; omega⟩, ⟨by repeat (first | (with_reducible first | exact HB.out | apply below_alloc | apply pw_below_drewN | apply below_drew1) | exact HB.out)⟩⟩
      · rw [if_neg c2] at H
        have c2b0 : decide (x5_1 < 169) = false := decide_eq_false c2
        clear c2
        simp only [Option.some.injEq, Prod.mk.injEq] at H
        obtain ⟨rfl, rfl⟩ := H
        go_wp2
        go_ret2
        exact ⟨by first | rfl | (simp [errW_none, errW_some] <;> rfl) | (simp [*, errW_none, errW_some] <;> rfl), by repeat (first | (with_reducible first | exact HB.out | apply below_alloc | apply pw_below_drewN | apply below_drew1) | exact HB.out)⟩

/-! ### spec_l07Read: function 112 -/
def spec_l07Read.l0 : Nat → ByteArray → Int → Option (Int)
  | 0, _, _ => none
  | k + 1, x0, x3 => if x3 < 169 then ((spec_l07Text.f x3).bind fun t295 => (if t295.toList = x0.toList then (some x3) else (spec_l07Read.l0 k x0 (wrap64 (x3 + 1))))) else (some (-1))
def spec_l07Read.f (k : Nat) (a0 : ByteArray) : Option (Int) := spec_l07Read.l0 k a0 0
theorem spec_l07Read.mono_l : ∀ k, (∀ y0 y1, LeO (spec_l07Read.l0 k y0 y1) (spec_l07Read.l0 (k + 1) y0 y1))
  | 0 => fun _ _ r h => by simp [spec_l07Read.l0] at h
  | k + 1 => by
    have ih0 := spec_l07Read.mono_l k
    · intro y0 y1
      unfold spec_l07Read.l0
      repeat' first
      | (with_reducible exact ih0 _ _)
      | (with_reducible exact LeO.refl _)
      | (with_reducible exact LeO.none _)
      | (with_reducible refine LeO.ite ?_ ?_)
      | (with_reducible refine LeO.bind ?_ (fun _ => ?_))
      | exact ih0 _ _
      | exact LeO.none _
      | refine LeO.ite ?_ ?_
      | refine LeO.bind ?_ (fun _ => ?_)
theorem spec_l07Read.mono : ∀ a0 k, LeO (spec_l07Read.f k a0) (spec_l07Read.f (k + 1) a0) := by
  intro a0 k
  have ih0 := spec_l07Read.mono_l k
  unfold spec_l07Read.f
  repeat' first
      | (with_reducible exact ih0 _ _)
      | (with_reducible exact LeO.refl _)
      | (with_reducible exact LeO.none _)
      | (with_reducible refine LeO.ite ?_ ?_)
      | (with_reducible refine LeO.bind ?_ (fun _ => ?_))
      | exact ih0 _ _
      | exact LeO.none _
      | refine LeO.ite ?_ ?_
      | refine LeO.bind ?_ (fun _ => ?_)
set_option maxHeartbeats 8000000 in
set_option maxRecDepth 100000 in
theorem spec_l07Read.calls (k : Nat) (a0 : ByteArray) (r : Int) (w : World) (h : spec_l07Read.f k a0 = some r) :
    Calls Try.prog 112 #[.string a0] w fun e w' => e = .returned (.int .i64 r) ∧ Below w.heap.size w w' := by
  have HB := Aside0.mk (Below.refl w.heap.size w)
  have H : (spec_l07Read.l0 k a0 0) = some r := h
  clear h
  have H' := Aside0.mk H
  clear H
  go_enter Try.func112, Try.ntmps112
  go_wp2
  go_loopg [3] k (fun kq v3 w' => ∃ (x3_1 : Int), v3 = .int .i64 x3_1 ∧ Aside0 (spec_l07Read.l0 kq a0 x3_1 = some r) ∧ Aside0 (kq ≤ k) ∧ Aside0 (Below w.heap.size w w'))
  case atStart => exact ⟨(0), (by first | rfl | (simp; done) | (simp [*]; done)), H', ⟨Nat.le_refl _⟩, ⟨by repeat (first | (with_reducible first | exact HB.out | apply below_alloc | apply pw_below_drewN | apply below_drew1) | exact HB.out)⟩⟩
  case round =>
    clear H'
    try clear c1
    obtain ⟨x3_1, rfl, HA, HK1, HB⟩ := hrel
    cases gk with
    | zero => exact absurd HA.out (by simp [spec_l07Read.l0])
    | succ k1 =>
      have H := HA.out
      clear HA
      simp only [spec_l07Read.l0] at H
      by_cases c2 : x3_1 < 169
      · rw [if_pos c2] at H
        have c2b0 : decide (x3_1 < 169) = true := decide_eq_true c2
        clear c2
        replace H := Option.bind_eq_some_iff.mp H
        obtain ⟨t295, A30, H⟩ := H
        replace H : (if t295.toList = a0.toList then (some x3_1) else (spec_l07Read.l0 k1 a0 (wrap64 (x3_1 + 1)))) = some r := H
        have A3 := Aside0.mk A30
        clear A30
        by_cases c4 : t295.toList = a0.toList
        · rw [if_pos c4] at H
          have c4b0 : (t295.toList == a0.toList) = true := beq_iff_eq.mpr c4
          have c4b1 : (t295.toList != a0.toList) = false := bne_eq_false_iff_eq.mpr c4
          clear c4
          obtain rfl := Option.some.inj H
          go_wp2_with (first | ((with_reducible refine gate_callee (f := 110) rfl ?_); refine goesL_ (some 9) rfl rfl Try.func110 (by kernel_rfl) rfl #[.int .i64 x3_1] rfl (by (try simp only [List.map_toArray, List.map_cons, List.map_nil]); first | done | rfl | (simp only [List.length_drop, List.length_take]; rfl)) ?_; (with_reducible refine (spec_l07Text.calls x3_1 t295 _ A3.out).mono ?_); rintro e w5 ⟨rfl, hb⟩; refine ⟨_, rfl, ?_⟩; have n0_ := Aside0.mk (below_step (by repeat (first | (with_reducible first | exact HB.out | apply below_alloc | apply pw_below_drewN | apply below_drew1) | exact HB.out)) hb); clear HB; have HB := n0_; clear n0_; (try clear hb); (try clear hb2); (try clear hk); (try clear hi)))
          go_ret
          exact ⟨by first | rfl | (simp [errW_none, errW_some] <;> rfl) | (simp [*, errW_none, errW_some] <;> rfl), by repeat (first | (with_reducible first | exact HB.out | apply below_alloc | apply pw_below_drewN | apply below_drew1) | exact HB.out)⟩
        · rw [if_neg c4] at H
          have c4b0 : (t295.toList == a0.toList) = false := beq_eq_false_iff_ne.mpr c4
          have c4b1 : (t295.toList != a0.toList) = true := bne_iff_ne.mpr c4
          have H' := Aside0.mk H
          clear H
          go_wp2_with (first | ((with_reducible refine gate_callee (f := 110) rfl ?_); refine goesL_ (some 9) rfl rfl Try.func110 (by kernel_rfl) rfl #[.int .i64 x3_1] rfl (by (try simp only [List.map_toArray, List.map_cons, List.map_nil]); first | done | rfl | (simp only [List.length_drop, List.length_take]; rfl)) ?_; (with_reducible refine (spec_l07Text.calls x3_1 t295 _ A3.out).mono ?_); rintro e w6 ⟨rfl, hb⟩; refine ⟨_, rfl, ?_⟩; have n0_ := Aside0.mk (below_step (by repeat (first | (with_reducible first | exact HB.out | apply below_alloc | apply pw_below_drewN | apply below_drew1) | exact HB.out)) hb); clear HB; have HB := n0_; clear n0_; (try clear hb); (try clear hb2); (try clear hk); (try clear hi)))
          go_roundg k1
          case measure => have := HK1.out; omega
          case rel => exact ⟨(wrap64 (x3_1 + 1)), (by first | rfl | (simp; done) | (simp [*]; done)), H', ⟨by have := HK1.out; omega⟩, ⟨by repeat (first | (with_reducible first | exact HB.out | apply below_alloc | apply pw_below_drewN | apply below_drew1) | exact HB.out)⟩⟩
      · rw [if_neg c2] at H
        have c2b0 : decide (x3_1 < 169) = false := decide_eq_false c2
        clear c2
        obtain rfl := Option.some.inj H
        go_wp2
        go_ret
        exact ⟨by first | rfl | (simp [errW_none, errW_some] <;> rfl) | (simp [*, errW_none, errW_some] <;> rfl), by repeat (first | (with_reducible first | exact HB.out | apply below_alloc | apply pw_below_drewN | apply below_drew1) | exact HB.out)⟩

/-! ### spec_ReadClass: function 61 -/
def spec_ReadClass.f (k : Nat) (a0 : ByteArray) : Option (Int × Int) := (spec_l07Read.f k a0).bind fun t296 => (if t296 < 0 then (some (0, 6)) else (some (t296, 0)))
theorem spec_ReadClass.mono : ∀ a0 k, LeO (spec_ReadClass.f k a0) (spec_ReadClass.f (k + 1) a0) := by
  intro a0 k
  unfold spec_ReadClass.f
  repeat' first
      | (with_reducible exact spec_l07Read.mono _ _)
      | (with_reducible exact LeO.refl _)
      | (with_reducible exact LeO.none _)
      | (with_reducible refine LeO.ite ?_ ?_)
      | (with_reducible refine LeO.bind ?_ (fun _ => ?_))
      | exact spec_l07Read.mono _ _
      | exact LeO.none _
      | refine LeO.ite ?_ ?_
      | refine LeO.bind ?_ (fun _ => ?_)
set_option maxHeartbeats 8000000 in
set_option maxRecDepth 100000 in
theorem spec_ReadClass.calls (k : Nat) (a0 : ByteArray) (r1 : Int) (r2 : Int) (w : World) (h : spec_ReadClass.f k a0 = some (r1, r2)) :
    Calls Try.prog 61 #[.string a0] w fun e w' => e = .returned (.tuple #[.int .i64 r1, .int .i64 r2]) ∧ Below w.heap.size w w' := by
  have HB := Aside0.mk (Below.refl w.heap.size w)
  have H : ((spec_l07Read.f k a0).bind fun t296 => (if t296 < 0 then (some (0, 6)) else (some (t296, 0)))) = some (r1, r2) := h
  clear h
  replace H := Option.bind_eq_some_iff.mp H
  obtain ⟨t296, A20, H⟩ := H
  replace H : (if t296 < 0 then (some (0, 6)) else (some (t296, 0))) = some (r1, r2) := H
  have A2 := Aside0.mk A20
  clear A20
  by_cases c3 : t296 < 0
  · rw [if_pos c3] at H
    have c3b0 : decide (t296 < 0) = true := decide_eq_true c3
    clear c3
    simp only [Option.some.injEq, Prod.mk.injEq] at H
    obtain ⟨rfl, rfl⟩ := H
    go_enter Try.func61, Try.ntmps61
    go_wp2_with (first | ((with_reducible refine gate_callee (f := 112) rfl ?_); refine goesL_ (some 6) rfl rfl Try.func112 (by kernel_rfl) rfl #[.string a0] rfl (by (try simp only [List.map_toArray, List.map_cons, List.map_nil]); first | done | rfl | (simp only [List.length_drop, List.length_take]; rfl)) ?_; (with_reducible refine (spec_l07Read.calls k a0 t296 _ A2.out).mono ?_); rintro e w4 ⟨rfl, hb⟩; refine ⟨_, rfl, ?_⟩; have n0_ := Aside0.mk (below_step (by repeat (first | (with_reducible first | exact HB.out | apply below_alloc | apply pw_below_drewN | apply below_drew1) | exact HB.out)) hb); clear HB; have HB := n0_; clear n0_; (try clear hb); (try clear hb2); (try clear hk); (try clear hi)))
    go_ret2
    exact ⟨by first | rfl | (simp [errW_none, errW_some] <;> rfl) | (simp [*, errW_none, errW_some] <;> rfl), by repeat (first | (with_reducible first | exact HB.out | apply below_alloc | apply pw_below_drewN | apply below_drew1) | exact HB.out)⟩
  · rw [if_neg c3] at H
    have c3b0 : decide (t296 < 0) = false := decide_eq_false c3
    clear c3
    simp only [Option.some.injEq, Prod.mk.injEq] at H
    obtain ⟨rfl, rfl⟩ := H
    go_enter Try.func61, Try.ntmps61
    go_wp2_with (first | ((with_reducible refine gate_callee (f := 112) rfl ?_); refine goesL_ (some 6) rfl rfl Try.func112 (by kernel_rfl) rfl #[.string a0] rfl (by (try simp only [List.map_toArray, List.map_cons, List.map_nil]); first | done | rfl | (simp only [List.length_drop, List.length_take]; rfl)) ?_; (with_reducible refine (spec_l07Read.calls k a0 t296 _ A2.out).mono ?_); rintro e w5 ⟨rfl, hb⟩; refine ⟨_, rfl, ?_⟩; have n0_ := Aside0.mk (below_step (by repeat (first | (with_reducible first | exact HB.out | apply below_alloc | apply pw_below_drewN | apply below_drew1) | exact HB.out)) hb); clear HB; have HB := n0_; clear n0_; (try clear hb); (try clear hb2); (try clear hk); (try clear hi)))
    go_ret2
    exact ⟨by first | rfl | (simp [errW_none, errW_some] <;> rfl) | (simp [*, errW_none, errW_some] <;> rfl), by repeat (first | (with_reducible first | exact HB.out | apply below_alloc | apply pw_below_drewN | apply below_drew1) | exact HB.out)⟩

end Go.Proofs.Ytblfemlheolhoaa.QFnClasses
