import Derived.Test.YtdagljakajpdjaaZFnBlindsx0
import Derived.Test.YtdagljakajpdjaaZFnBlindsx1
import Derived.Test.YtdagljakajpdjaaZFnBlindsx2
import Derived.Test.YtdagljakajpdjaaZFnBlindsx3
import Derived.Test.YtdagljakajpdjaaZFnBlindsx4
import Derived.Test.YtdagljakajpdjaaZFnBlindsx7
namespace Go.Proofs.Ytdagljakajpdjaa.QFnBlinds
open Go.RowKit Go.Proofs.YtdagljakajpdjaaW.PrintWords Go.Proofs.YtdagljakajpdjaaW.PrintLast Go.Proofs.YtdagljakajpdjaaW.PrintMore
attribute [local go_sem] max2_int min2_int max_two min_two max_three min_three max_four min_four
set_option linter.unusedVariables false
set_option linter.unusedSimpArgs false
mutual
def laws_FnBlinds.j0 : Nat → List Int → Int → List Int → Int → Int → Bool → List Int → Int → Int → Int → Int → Int → Option (Bool)
  | 0, _, _, _, _, _, _, _, _, _, _, _, _ => none
  | k + 1, x4, x5, x8, x12, x13, x96, x345000, x345001, x345002, x345003, x345004, x345005 => if x96 = true then (some false) else (if x5 = 0 then (laws_FnBlinds.l0 k x4 x8 x12 x13 0 x345000 x345001 x345002 x345003 x345004 x345005) else (some true))
def laws_FnBlinds.l0 : Nat → List Int → List Int → Int → Int → Int → List Int → Int → Int → Int → Int → Int → Option (Bool)
  | 0, _, _, _, _, _, _, _, _, _, _, _ => none
  | k + 1, x4, x8, x12, x13, x18, x345000, x345001, x345002, x345003, x345004, x345005 => if x18 < (x4.length : Int) then (if 0 ≤ x18 then (if x18 < (x8.length : Int) then (if x18 < (x345000.length : Int) then (if (wrap64 ((rd x8 x18) + (rd x4 x18))) > (rd x345000 x18) then (some false) else (if (rd x8 x18) < 0 then (some false) else (if (rd x4 x18) < 0 then (some false) else (if (rd x4 x18) > 0 then (if x18 = x12 then (laws_FnBlinds.l0 k x4 x8 x12 x13 (wrap64 (x18 + 1)) x345000 x345001 x345002 x345003 x345004 x345005) else (if x18 = x13 then (laws_FnBlinds.l0 k x4 x8 x12 x13 (wrap64 (x18 + 1)) x345000 x345001 x345002 x345003 x345004 x345005) else (some false))) else (laws_FnBlinds.l0 k x4 x8 x12 x13 (wrap64 (x18 + 1)) x345000 x345001 x345002 x345003 x345004 x345005))))) else (none)) else (none)) else (none)) else (some (x12 != x13))
end
def laws_FnBlinds.f (k : Nat) (l0 : List Int) : Option (Bool) := (laws_big.f l0).bind fun t335 => (if t335 = true then (some true) else ((spec_DrawBlindsOf.f k l0).bind fun bt336 => ((impl_BlindsOf.f k bt336.1 bt336.2.1 bt336.2.2.1 bt336.2.2.2.1 bt336.2.2.2.2.1 bt336.2.2.2.2.2).bind fun bt345 => ((spec_BlindsOf.f k bt336.1 bt336.2.1 bt336.2.2.1 bt336.2.2.2.1 bt336.2.2.2.2.1 bt336.2.2.2.2.2).bind fun bt349 => ((impl_AntesOf.f k bt336.1 bt336.2.1 bt336.2.2.1 bt336.2.2.2.1 bt336.2.2.2.2.1 bt336.2.2.2.2.2).bind fun bt353 => ((spec_AntesOf.f k bt336.1 bt336.2.1 bt336.2.2.1 bt336.2.2.2.1 bt336.2.2.2.2.1 bt336.2.2.2.2.2).bind fun bt357 => ((impl_BlindSeats.f k bt336.1 bt336.2.1 bt336.2.2.1 bt336.2.2.2.1 bt336.2.2.2.2.1 bt336.2.2.2.2.2).bind fun bt361 => ((spec_BlindSeats.f k bt336.1 bt336.2.1 bt336.2.2.1 bt336.2.2.2.1 bt336.2.2.2.2.1 bt336.2.2.2.2.2).bind fun bt364 => (if bt345.2 = bt349.2 then ((laws_likeInts.f k bt345.1 bt349.1).bind fun t367 => (if t367 = true then (if bt353.2 = bt357.2 then ((laws_likeInts.f k bt353.1 bt357.1).bind fun t368 => (if t368 = true then (if bt361.2.2 = bt364.2.2 then (if bt361.1 = bt364.1 then (if bt361.2.1 = bt364.2.1 then ((impl_IsTable.f k bt336.1 bt336.2.1 bt336.2.2.1 bt336.2.2.2.1 bt336.2.2.2.2.1 bt336.2.2.2.2.2).bind fun t369 => (laws_FnBlinds.j0 k bt345.1 bt345.2 bt353.1 bt361.1 bt361.2.1 (t369 != (bt349.2 == 0)) bt336.1 bt336.2.1 bt336.2.2.1 bt336.2.2.2.1 bt336.2.2.2.2.1 bt336.2.2.2.2.2)) else (laws_FnBlinds.j0 k bt345.1 bt345.2 bt353.1 bt361.1 bt361.2.1 true bt336.1 bt336.2.1 bt336.2.2.1 bt336.2.2.2.1 bt336.2.2.2.2.1 bt336.2.2.2.2.2)) else (laws_FnBlinds.j0 k bt345.1 bt345.2 bt353.1 bt361.1 bt361.2.1 true bt336.1 bt336.2.1 bt336.2.2.1 bt336.2.2.2.1 bt336.2.2.2.2.1 bt336.2.2.2.2.2)) else (laws_FnBlinds.j0 k bt345.1 bt345.2 bt353.1 bt361.1 bt361.2.1 true bt336.1 bt336.2.1 bt336.2.2.1 bt336.2.2.2.1 bt336.2.2.2.2.1 bt336.2.2.2.2.2)) else (laws_FnBlinds.j0 k bt345.1 bt345.2 bt353.1 bt361.1 bt361.2.1 true bt336.1 bt336.2.1 bt336.2.2.1 bt336.2.2.2.1 bt336.2.2.2.2.1 bt336.2.2.2.2.2))) else (laws_FnBlinds.j0 k bt345.1 bt345.2 bt353.1 bt361.1 bt361.2.1 true bt336.1 bt336.2.1 bt336.2.2.1 bt336.2.2.2.1 bt336.2.2.2.2.1 bt336.2.2.2.2.2)) else (laws_FnBlinds.j0 k bt345.1 bt345.2 bt353.1 bt361.1 bt361.2.1 true bt336.1 bt336.2.1 bt336.2.2.1 bt336.2.2.2.1 bt336.2.2.2.2.1 bt336.2.2.2.2.2))) else (laws_FnBlinds.j0 k bt345.1 bt345.2 bt353.1 bt361.1 bt361.2.1 true bt336.1 bt336.2.1 bt336.2.2.1 bt336.2.2.2.1 bt336.2.2.2.2.1 bt336.2.2.2.2.2))))))))))
theorem laws_FnBlinds.mono_l : ∀ k, (∀ y0 y1 y2 y3 y4 y5 y6 y7 y8 y9 y10 y11, LeO (laws_FnBlinds.j0 k y0 y1 y2 y3 y4 y5 y6 y7 y8 y9 y10 y11) (laws_FnBlinds.j0 (k + 1) y0 y1 y2 y3 y4 y5 y6 y7 y8 y9 y10 y11)) ∧ (∀ y0 y1 y2 y3 y4 y5 y6 y7 y8 y9 y10, LeO (laws_FnBlinds.l0 k y0 y1 y2 y3 y4 y5 y6 y7 y8 y9 y10) (laws_FnBlinds.l0 (k + 1) y0 y1 y2 y3 y4 y5 y6 y7 y8 y9 y10))
  | 0 => ⟨fun _ _ _ _ _ _ _ _ _ _ _ _ r h => by simp [laws_FnBlinds.j0] at h, fun _ _ _ _ _ _ _ _ _ _ _ r h => by simp [laws_FnBlinds.l0] at h⟩
  | k + 1 => by
    obtain ⟨ih0, ih1⟩ := laws_FnBlinds.mono_l k
    refine ⟨?_, ?_⟩
    · intro y0 y1 y2 y3 y4 y5 y6 y7 y8 y9 y10 y11
      unfold laws_FnBlinds.j0
      repeat' first
      | (with_reducible exact ih0 _ _ _ _ _ _ _ _ _ _ _ _)
      | (with_reducible exact ih1 _ _ _ _ _ _ _ _ _ _ _)
      | (with_reducible exact impl_AntesOf.mono _ _ _ _ _ _ _)
      | (with_reducible exact impl_BlindSeats.mono _ _ _ _ _ _ _)
      | (with_reducible exact impl_BlindsOf.mono _ _ _ _ _ _ _)
      | (with_reducible exact impl_IsTable.mono _ _ _ _ _ _ _)
      | (with_reducible exact laws_likeInts.mono _ _ _)
      | (with_reducible exact spec_AntesOf.mono _ _ _ _ _ _ _)
      | (with_reducible exact spec_BlindSeats.mono _ _ _ _ _ _ _)
      | (with_reducible exact spec_BlindsOf.mono _ _ _ _ _ _ _)
      | (with_reducible exact spec_DrawBlindsOf.mono _ _)
      | (with_reducible exact LeO.refl _)
      | (with_reducible exact LeO.none _)
      | (with_reducible refine LeO.ite ?_ ?_)
      | (with_reducible refine LeO.bind ?_ (fun _ => ?_))
      | exact ih0 _ _ _ _ _ _ _ _ _ _ _ _
      | exact ih1 _ _ _ _ _ _ _ _ _ _ _
      | exact impl_AntesOf.mono _ _ _ _ _ _ _
      | exact impl_BlindSeats.mono _ _ _ _ _ _ _
      | exact impl_BlindsOf.mono _ _ _ _ _ _ _
      | exact impl_IsTable.mono _ _ _ _ _ _ _
      | exact laws_likeInts.mono _ _ _
      | exact spec_AntesOf.mono _ _ _ _ _ _ _
      | exact spec_BlindSeats.mono _ _ _ _ _ _ _
      | exact spec_BlindsOf.mono _ _ _ _ _ _ _
      | exact spec_DrawBlindsOf.mono _ _
      | exact LeO.none _
      | refine LeO.ite ?_ ?_
      | refine LeO.bind ?_ (fun _ => ?_)
    · intro y0 y1 y2 y3 y4 y5 y6 y7 y8 y9 y10
      unfold laws_FnBlinds.l0
      repeat' first
      | (with_reducible exact ih0 _ _ _ _ _ _ _ _ _ _ _ _)
      | (with_reducible exact ih1 _ _ _ _ _ _ _ _ _ _ _)
      | (with_reducible exact impl_AntesOf.mono _ _ _ _ _ _ _)
      | (with_reducible exact impl_BlindSeats.mono _ _ _ _ _ _ _)
      | (with_reducible exact impl_BlindsOf.mono _ _ _ _ _ _ _)
      | (with_reducible exact impl_IsTable.mono _ _ _ _ _ _ _)
      | (with_reducible exact laws_likeInts.mono _ _ _)
      | (with_reducible exact spec_AntesOf.mono _ _ _ _ _ _ _)
      | (with_reducible exact spec_BlindSeats.mono _ _ _ _ _ _ _)
      | (with_reducible exact spec_BlindsOf.mono _ _ _ _ _ _ _)
      | (with_reducible exact spec_DrawBlindsOf.mono _ _)
      | (with_reducible exact LeO.refl _)
      | (with_reducible exact LeO.none _)
      | (with_reducible refine LeO.ite ?_ ?_)
      | (with_reducible refine LeO.bind ?_ (fun _ => ?_))
      | exact ih0 _ _ _ _ _ _ _ _ _ _ _ _
      | exact ih1 _ _ _ _ _ _ _ _ _ _ _
      | exact impl_AntesOf.mono _ _ _ _ _ _ _
      | exact impl_BlindSeats.mono _ _ _ _ _ _ _
      | exact impl_BlindsOf.mono _ _ _ _ _ _ _
      | exact impl_IsTable.mono _ _ _ _ _ _ _
      | exact laws_likeInts.mono _ _ _
      | exact spec_AntesOf.mono _ _ _ _ _ _ _
      | exact spec_BlindSeats.mono _ _ _ _ _ _ _
      | exact spec_BlindsOf.mono _ _ _ _ _ _ _
      | exact spec_DrawBlindsOf.mono _ _
      | exact LeO.none _
      | refine LeO.ite ?_ ?_
      | refine LeO.bind ?_ (fun _ => ?_)
theorem laws_FnBlinds.mono : ∀ a0 k, LeO (laws_FnBlinds.f k a0) (laws_FnBlinds.f (k + 1) a0) := by
  intro a0 k
  obtain ⟨ih0, ih1⟩ := laws_FnBlinds.mono_l k
  unfold laws_FnBlinds.f
  repeat' first
      | (with_reducible exact ih0 _ _ _ _ _ _ _ _ _ _ _ _)
      | (with_reducible exact ih1 _ _ _ _ _ _ _ _ _ _ _)
      | (with_reducible exact impl_AntesOf.mono _ _ _ _ _ _ _)
      | (with_reducible exact impl_BlindSeats.mono _ _ _ _ _ _ _)
      | (with_reducible exact impl_BlindsOf.mono _ _ _ _ _ _ _)
      | (with_reducible exact impl_IsTable.mono _ _ _ _ _ _ _)
      | (with_reducible exact laws_likeInts.mono _ _ _)
      | (with_reducible exact spec_AntesOf.mono _ _ _ _ _ _ _)
      | (with_reducible exact spec_BlindSeats.mono _ _ _ _ _ _ _)
      | (with_reducible exact spec_BlindsOf.mono _ _ _ _ _ _ _)
      | (with_reducible exact spec_DrawBlindsOf.mono _ _)
      | (with_reducible exact LeO.refl _)
      | (with_reducible exact LeO.none _)
      | (with_reducible refine LeO.ite ?_ ?_)
      | (with_reducible refine LeO.bind ?_ (fun _ => ?_))
      | exact ih0 _ _ _ _ _ _ _ _ _ _ _ _
      | exact ih1 _ _ _ _ _ _ _ _ _ _ _
      | exact impl_AntesOf.mono _ _ _ _ _ _ _
      | exact impl_BlindSeats.mono _ _ _ _ _ _ _
      | exact impl_BlindsOf.mono _ _ _ _ _ _ _
      | exact impl_IsTable.mono _ _ _ _ _ _ _
      | exact laws_likeInts.mono _ _ _
      | exact spec_AntesOf.mono _ _ _ _ _ _ _
      | exact spec_BlindSeats.mono _ _ _ _ _ _ _
      | exact spec_BlindsOf.mono _ _ _ _ _ _ _
      | exact spec_DrawBlindsOf.mono _ _
      | exact LeO.none _
      | refine LeO.ite ?_ ?_
      | refine LeO.bind ?_ (fun _ => ?_)
set_option maxHeartbeats 8000000 in
set_option maxRecDepth 100000 in
theorem laws_FnBlinds.calls (k : Nat) (A0 : Option Addr) (c0 : Nat) (l0 : List Int) (r : Bool) (w : World) (hr0 : Kd.C (Kd.int .u8) w A0 l0.length l0) (hc0 : l0.length ≤ c0) (h : laws_FnBlinds.f k l0 = some r) :
    Calls Try.prog 11 #[.slice A0 l0.length c0] w fun e w' => e = .returned (.bool r) ∧ Below w.heap.size w w' := by
  have hu27 := Try.underlying27
  have HR0 := Aside0.mk hr0
  have HC0 := Aside0.mk hc0
  clear hr0 hc0
  have HB := Aside0.mk (Below.refl w.heap.size w)
  have H : ((laws_big.f l0).bind fun t335 => (if t335 = true then (some true) else ((spec_DrawBlindsOf.f k l0).bind fun bt336 => ((impl_BlindsOf.f k bt336.1 bt336.2.1 bt336.2.2.1 bt336.2.2.2.1 bt336.2.2.2.2.1 bt336.2.2.2.2.2).bind fun bt345 => ((spec_BlindsOf.f k bt336.1 bt336.2.1 bt336.2.2.1 bt336.2.2.2.1 bt336.2.2.2.2.1 bt336.2.2.2.2.2).bind fun bt349 => ((impl_AntesOf.f k bt336.1 bt336.2.1 bt336.2.2.1 bt336.2.2.2.1 bt336.2.2.2.2.1 bt336.2.2.2.2.2).bind fun bt353 => ((spec_AntesOf.f k bt336.1 bt336.2.1 bt336.2.2.1 bt336.2.2.2.1 bt336.2.2.2.2.1 bt336.2.2.2.2.2).bind fun bt357 => ((impl_BlindSeats.f k bt336.1 bt336.2.1 bt336.2.2.1 bt336.2.2.2.1 bt336.2.2.2.2.1 bt336.2.2.2.2.2).bind fun bt361 => ((spec_BlindSeats.f k bt336.1 bt336.2.1 bt336.2.2.1 bt336.2.2.2.1 bt336.2.2.2.2.1 bt336.2.2.2.2.2).bind fun bt364 => (if bt345.2 = bt349.2 then ((laws_likeInts.f k bt345.1 bt349.1).bind fun t367 => (if t367 = true then (if bt353.2 = bt357.2 then ((laws_likeInts.f k bt353.1 bt357.1).bind fun t368 => (if t368 = true then (if bt361.2.2 = bt364.2.2 then (if bt361.1 = bt364.1 then (if bt361.2.1 = bt364.2.1 then ((impl_IsTable.f k bt336.1 bt336.2.1 bt336.2.2.1 bt336.2.2.2.1 bt336.2.2.2.2.1 bt336.2.2.2.2.2).bind fun t369 => (laws_FnBlinds.j0 k bt345.1 bt345.2 bt353.1 bt361.1 bt361.2.1 (t369 != (bt349.2 == 0)) bt336.1 bt336.2.1 bt336.2.2.1 bt336.2.2.2.1 bt336.2.2.2.2.1 bt336.2.2.2.2.2)) else (laws_FnBlinds.j0 k bt345.1 bt345.2 bt353.1 bt361.1 bt361.2.1 true bt336.1 bt336.2.1 bt336.2.2.1 bt336.2.2.2.1 bt336.2.2.2.2.1 bt336.2.2.2.2.2)) else (laws_FnBlinds.j0 k bt345.1 bt345.2 bt353.1 bt361.1 bt361.2.1 true bt336.1 bt336.2.1 bt336.2.2.1 bt336.2.2.2.1 bt336.2.2.2.2.1 bt336.2.2.2.2.2)) else (laws_FnBlinds.j0 k bt345.1 bt345.2 bt353.1 bt361.1 bt361.2.1 true bt336.1 bt336.2.1 bt336.2.2.1 bt336.2.2.2.1 bt336.2.2.2.2.1 bt336.2.2.2.2.2)) else (laws_FnBlinds.j0 k bt345.1 bt345.2 bt353.1 bt361.1 bt361.2.1 true bt336.1 bt336.2.1 bt336.2.2.1 bt336.2.2.2.1 bt336.2.2.2.2.1 bt336.2.2.2.2.2))) else (laws_FnBlinds.j0 k bt345.1 bt345.2 bt353.1 bt361.1 bt361.2.1 true bt336.1 bt336.2.1 bt336.2.2.1 bt336.2.2.2.1 bt336.2.2.2.2.1 bt336.2.2.2.2.2)) else (laws_FnBlinds.j0 k bt345.1 bt345.2 bt353.1 bt361.1 bt361.2.1 true bt336.1 bt336.2.1 bt336.2.2.1 bt336.2.2.2.1 bt336.2.2.2.2.1 bt336.2.2.2.2.2))) else (laws_FnBlinds.j0 k bt345.1 bt345.2 bt353.1 bt361.1 bt361.2.1 true bt336.1 bt336.2.1 bt336.2.2.1 bt336.2.2.2.1 bt336.2.2.2.2.1 bt336.2.2.2.2.2))))))))))) = some r := h
  clear h
  replace H := Option.bind_eq_some_iff.mp H
  obtain ⟨t335, A20, H⟩ := H
  replace H : (if t335 = true then (some true) else ((spec_DrawBlindsOf.f k l0).bind fun bt336 => ((impl_BlindsOf.f k bt336.1 bt336.2.1 bt336.2.2.1 bt336.2.2.2.1 bt336.2.2.2.2.1 bt336.2.2.2.2.2).bind fun bt345 => ((spec_BlindsOf.f k bt336.1 bt336.2.1 bt336.2.2.1 bt336.2.2.2.1 bt336.2.2.2.2.1 bt336.2.2.2.2.2).bind fun bt349 => ((impl_AntesOf.f k bt336.1 bt336.2.1 bt336.2.2.1 bt336.2.2.2.1 bt336.2.2.2.2.1 bt336.2.2.2.2.2).bind fun bt353 => ((spec_AntesOf.f k bt336.1 bt336.2.1 bt336.2.2.1 bt336.2.2.2.1 bt336.2.2.2.2.1 bt336.2.2.2.2.2).bind fun bt357 => ((impl_BlindSeats.f k bt336.1 bt336.2.1 bt336.2.2.1 bt336.2.2.2.1 bt336.2.2.2.2.1 bt336.2.2.2.2.2).bind fun bt361 => ((spec_BlindSeats.f k bt336.1 bt336.2.1 bt336.2.2.1 bt336.2.2.2.1 bt336.2.2.2.2.1 bt336.2.2.2.2.2).bind fun bt364 => (if bt345.2 = bt349.2 then ((laws_likeInts.f k bt345.1 bt349.1).bind fun t367 => (if t367 = true then (if bt353.2 = bt357.2 then ((laws_likeInts.f k bt353.1 bt357.1).bind fun t368 => (if t368 = true then (if bt361.2.2 = bt364.2.2 then (if bt361.1 = bt364.1 then (if bt361.2.1 = bt364.2.1 then ((impl_IsTable.f k bt336.1 bt336.2.1 bt336.2.2.1 bt336.2.2.2.1 bt336.2.2.2.2.1 bt336.2.2.2.2.2).bind fun t369 => (laws_FnBlinds.j0 k bt345.1 bt345.2 bt353.1 bt361.1 bt361.2.1 (t369 != (bt349.2 == 0)) bt336.1 bt336.2.1 bt336.2.2.1 bt336.2.2.2.1 bt336.2.2.2.2.1 bt336.2.2.2.2.2)) else (laws_FnBlinds.j0 k bt345.1 bt345.2 bt353.1 bt361.1 bt361.2.1 true bt336.1 bt336.2.1 bt336.2.2.1 bt336.2.2.2.1 bt336.2.2.2.2.1 bt336.2.2.2.2.2)) else (laws_FnBlinds.j0 k bt345.1 bt345.2 bt353.1 bt361.1 bt361.2.1 true bt336.1 bt336.2.1 bt336.2.2.1 bt336.2.2.2.1 bt336.2.2.2.2.1 bt336.2.2.2.2.2)) else (laws_FnBlinds.j0 k bt345.1 bt345.2 bt353.1 bt361.1 bt361.2.1 true bt336.1 bt336.2.1 bt336.2.2.1 bt336.2.2.2.1 bt336.2.2.2.2.1 bt336.2.2.2.2.2)) else (laws_FnBlinds.j0 k bt345.1 bt345.2 bt353.1 bt361.1 bt361.2.1 true bt336.1 bt336.2.1 bt336.2.2.1 bt336.2.2.2.1 bt336.2.2.2.2.1 bt336.2.2.2.2.2))) else (laws_FnBlinds.j0 k bt345.1 bt345.2 bt353.1 bt361.1 bt361.2.1 true bt336.1 bt336.2.1 bt336.2.2.1 bt336.2.2.2.1 bt336.2.2.2.2.1 bt336.2.2.2.2.2)) else (laws_FnBlinds.j0 k bt345.1 bt345.2 bt353.1 bt361.1 bt361.2.1 true bt336.1 bt336.2.1 bt336.2.2.1 bt336.2.2.2.1 bt336.2.2.2.2.1 bt336.2.2.2.2.2))) else (laws_FnBlinds.j0 k bt345.1 bt345.2 bt353.1 bt361.1 bt361.2.1 true bt336.1 bt336.2.1 bt336.2.2.1 bt336.2.2.2.1 bt336.2.2.2.2.1 bt336.2.2.2.2.2)))))))))) = some r := H
  have A2 := Aside0.mk A20
  clear A20
  by_cases c3 : t335 = true
  · subst c3
    have H1 : (some true) = some r := by rw [if_pos rfl] at H; exact H
    clear H
    have H := H1
    clear H1
    obtain rfl := Option.some.inj H
    go_enter Try.func11, Try.ntmps11
    go_wp2_with (first | (go_at_call 39; (with_reducible refine (laws_big.calls _ _ l0 true _ ?side1 ?side2 A2.out).mono ?_); (case side1 => repeat (first | exact HR0.out | (with_reducible refine Kd.C_alloc ?_ _) | (with_reducible refine Kd.C_drewN ?_ _) | (with_reducible refine Kd.C_drew ?_))); (case side2 => exact HC0.out); rintro e w' ⟨rfl, ⟨nd, rfl⟩⟩; (try first | exact ⟨rfl, _, World.drewN_drewN _ _ _⟩ | exact ⟨rfl, _, Eq.trans (World.drewN_drewN _ _ _) (congrArg (World.drewN _) (Nat.add_assoc _ _ _))⟩)))
    repeat (go_quiet (first | (go_at_call 39; (with_reducible refine (laws_big.calls _ _ l0 true _ ?side1 ?side2 A2.out).mono ?_); (case side1 => repeat (first | exact HR0.out | (with_reducible refine Kd.C_alloc ?_ _) | (with_reducible refine Kd.C_drewN ?_ _) | (with_reducible refine Kd.C_drew ?_))); (case side2 => exact HC0.out); rintro e w' ⟨rfl, ⟨nd, rfl⟩⟩; (try first | exact ⟨rfl, _, World.drewN_drewN _ _ _⟩ | exact ⟨rfl, _, Eq.trans (World.drewN_drewN _ _ _) (congrArg (World.drewN _) (Nat.add_assoc _ _ _))⟩))); try go_wp2_with (first | (go_at_call 39; (with_reducible refine (laws_big.calls _ _ l0 true _ ?side1 ?side2 A2.out).mono ?_); (case side1 => repeat (first | exact HR0.out | (with_reducible refine Kd.C_alloc ?_ _) | (with_reducible refine Kd.C_drewN ?_ _) | (with_reducible refine Kd.C_drew ?_))); (case side2 => exact HC0.out); rintro e w' ⟨rfl, ⟨nd, rfl⟩⟩; (try first | exact ⟨rfl, _, World.drewN_drewN _ _ _⟩ | exact ⟨rfl, _, Eq.trans (World.drewN_drewN _ _ _) (congrArg (World.drewN _) (Nat.add_assoc _ _ _))⟩))))
    go_ret
    exact ⟨by first | rfl | (simp [errW_none, errW_some] <;> rfl) | (simp [*, errW_none, errW_some] <;> rfl), by repeat (first | (with_reducible first | exact HB.out | apply below_alloc | apply pw_below_drewN | apply below_drew1) | exact HB.out)⟩
  · replace c3 := Bool.eq_false_iff.mpr c3
    subst c3
    have H1 : ((spec_DrawBlindsOf.f k l0).bind fun bt336 => ((impl_BlindsOf.f k bt336.1 bt336.2.1 bt336.2.2.1 bt336.2.2.2.1 bt336.2.2.2.2.1 bt336.2.2.2.2.2).bind fun bt345 => ((spec_BlindsOf.f k bt336.1 bt336.2.1 bt336.2.2.1 bt336.2.2.2.1 bt336.2.2.2.2.1 bt336.2.2.2.2.2).bind fun bt349 => ((impl_AntesOf.f k bt336.1 bt336.2.1 bt336.2.2.1 bt336.2.2.2.1 bt336.2.2.2.2.1 bt336.2.2.2.2.2).bind fun bt353 => ((spec_AntesOf.f k bt336.1 bt336.2.1 bt336.2.2.1 bt336.2.2.2.1 bt336.2.2.2.2.1 bt336.2.2.2.2.2).bind fun bt357 => ((impl_BlindSeats.f k bt336.1 bt336.2.1 bt336.2.2.1 bt336.2.2.2.1 bt336.2.2.2.2.1 bt336.2.2.2.2.2).bind fun bt361 => ((spec_BlindSeats.f k bt336.1 bt336.2.1 bt336.2.2.1 bt336.2.2.2.1 bt336.2.2.2.2.1 bt336.2.2.2.2.2).bind fun bt364 => (if bt345.2 = bt349.2 then ((laws_likeInts.f k bt345.1 bt349.1).bind fun t367 => (if t367 = true then (if bt353.2 = bt357.2 then ((laws_likeInts.f k bt353.1 bt357.1).bind fun t368 => (if t368 = true then (if bt361.2.2 = bt364.2.2 then (if bt361.1 = bt364.1 then (if bt361.2.1 = bt364.2.1 then ((impl_IsTable.f k bt336.1 bt336.2.1 bt336.2.2.1 bt336.2.2.2.1 bt336.2.2.2.2.1 bt336.2.2.2.2.2).bind fun t369 => (laws_FnBlinds.j0 k bt345.1 bt345.2 bt353.1 bt361.1 bt361.2.1 (t369 != (bt349.2 == 0)) bt336.1 bt336.2.1 bt336.2.2.1 bt336.2.2.2.1 bt336.2.2.2.2.1 bt336.2.2.2.2.2)) else (laws_FnBlinds.j0 k bt345.1 bt345.2 bt353.1 bt361.1 bt361.2.1 true bt336.1 bt336.2.1 bt336.2.2.1 bt336.2.2.2.1 bt336.2.2.2.2.1 bt336.2.2.2.2.2)) else (laws_FnBlinds.j0 k bt345.1 bt345.2 bt353.1 bt361.1 bt361.2.1 true bt336.1 bt336.2.1 bt336.2.2.1 bt336.2.2.2.1 bt336.2.2.2.2.1 bt336.2.2.2.2.2)) else (laws_FnBlinds.j0 k bt345.1 bt345.2 bt353.1 bt361.1 bt361.2.1 true bt336.1 bt336.2.1 bt336.2.2.1 bt336.2.2.2.1 bt336.2.2.2.2.1 bt336.2.2.2.2.2)) else (laws_FnBlinds.j0 k bt345.1 bt345.2 bt353.1 bt361.1 bt361.2.1 true bt336.1 bt336.2.1 bt336.2.2.1 bt336.2.2.2.1 bt336.2.2.2.2.1 bt336.2.2.2.2.2))) else (laws_FnBlinds.j0 k bt345.1 bt345.2 bt353.1 bt361.1 bt361.2.1 true bt336.1 bt336.2.1 bt336.2.2.1 bt336.2.2.2.1 bt336.2.2.2.2.1 bt336.2.2.2.2.2)) else (laws_FnBlinds.j0 k bt345.1 bt345.2 bt353.1 bt361.1 bt361.2.1 true bt336.1 bt336.2.1 bt336.2.2.1 bt336.2.2.2.1 bt336.2.2.2.2.1 bt336.2.2.2.2.2))) else (laws_FnBlinds.j0 k bt345.1 bt345.2 bt353.1 bt361.1 bt361.2.1 true bt336.1 bt336.2.1 bt336.2.2.1 bt336.2.2.2.1 bt336.2.2.2.2.1 bt336.2.2.2.2.2))))))))) = some r := by rw [if_neg (show ¬ (false = true) by decide)] at H; exact H
    clear H
    have H := H1
    clear H1
    replace H := Option.bind_eq_some_iff.mp H
    obtain ⟨⟨t336, t339, t340, t341, t342, t343⟩, A40, H⟩ := H
    replace H : ((impl_BlindsOf.f k t336 t339 t340 t341 t342 t343).bind fun bt345 => ((spec_BlindsOf.f k t336 t339 t340 t341 t342 t343).bind fun bt349 => ((impl_AntesOf.f k t336 t339 t340 t341 t342 t343).bind fun bt353 => ((spec_AntesOf.f k t336 t339 t340 t341 t342 t343).bind fun bt357 => ((impl_BlindSeats.f k t336 t339 t340 t341 t342 t343).bind fun bt361 => ((spec_BlindSeats.f k t336 t339 t340 t341 t342 t343).bind fun bt364 => (if bt345.2 = bt349.2 then ((laws_likeInts.f k bt345.1 bt349.1).bind fun t367 => (if t367 = true then (if bt353.2 = bt357.2 then ((laws_likeInts.f k bt353.1 bt357.1).bind fun t368 => (if t368 = true then (if bt361.2.2 = bt364.2.2 then (if bt361.1 = bt364.1 then (if bt361.2.1 = bt364.2.1 then ((impl_IsTable.f k t336 t339 t340 t341 t342 t343).bind fun t369 => (laws_FnBlinds.j0 k bt345.1 bt345.2 bt353.1 bt361.1 bt361.2.1 (t369 != (bt349.2 == 0)) t336 t339 t340 t341 t342 t343)) else (laws_FnBlinds.j0 k bt345.1 bt345.2 bt353.1 bt361.1 bt361.2.1 true t336 t339 t340 t341 t342 t343)) else (laws_FnBlinds.j0 k bt345.1 bt345.2 bt353.1 bt361.1 bt361.2.1 true t336 t339 t340 t341 t342 t343)) else (laws_FnBlinds.j0 k bt345.1 bt345.2 bt353.1 bt361.1 bt361.2.1 true t336 t339 t340 t341 t342 t343)) else (laws_FnBlinds.j0 k bt345.1 bt345.2 bt353.1 bt361.1 bt361.2.1 true t336 t339 t340 t341 t342 t343))) else (laws_FnBlinds.j0 k bt345.1 bt345.2 bt353.1 bt361.1 bt361.2.1 true t336 t339 t340 t341 t342 t343)) else (laws_FnBlinds.j0 k bt345.1 bt345.2 bt353.1 bt361.1 bt361.2.1 true t336 t339 t340 t341 t342 t343))) else (laws_FnBlinds.j0 k bt345.1 bt345.2 bt353.1 bt361.1 bt361.2.1 true t336 t339 t340 t341 t342 t343)))))))) = some r := H
    have A4 := Aside0.mk A40
    clear A40
    replace H := Option.bind_eq_some_iff.mp H
    obtain ⟨⟨t345, t348⟩, A50, H⟩ := H
    replace H : ((spec_BlindsOf.f k t336 t339 t340 t341 t342 t343).bind fun bt349 => ((impl_AntesOf.f k t336 t339 t340 t341 t342 t343).bind fun bt353 => ((spec_AntesOf.f k t336 t339 t340 t341 t342 t343).bind fun bt357 => ((impl_BlindSeats.f k t336 t339 t340 t341 t342 t343).bind fun bt361 => ((spec_BlindSeats.f k t336 t339 t340 t341 t342 t343).bind fun bt364 => (if t348 = bt349.2 then ((laws_likeInts.f k t345 bt349.1).bind fun t367 => (if t367 = true then (if bt353.2 = bt357.2 then ((laws_likeInts.f k bt353.1 bt357.1).bind fun t368 => (if t368 = true then (if bt361.2.2 = bt364.2.2 then (if bt361.1 = bt364.1 then (if bt361.2.1 = bt364.2.1 then ((impl_IsTable.f k t336 t339 t340 t341 t342 t343).bind fun t369 => (laws_FnBlinds.j0 k t345 t348 bt353.1 bt361.1 bt361.2.1 (t369 != (bt349.2 == 0)) t336 t339 t340 t341 t342 t343)) else (laws_FnBlinds.j0 k t345 t348 bt353.1 bt361.1 bt361.2.1 true t336 t339 t340 t341 t342 t343)) else (laws_FnBlinds.j0 k t345 t348 bt353.1 bt361.1 bt361.2.1 true t336 t339 t340 t341 t342 t343)) else (laws_FnBlinds.j0 k t345 t348 bt353.1 bt361.1 bt361.2.1 true t336 t339 t340 t341 t342 t343)) else (laws_FnBlinds.j0 k t345 t348 bt353.1 bt361.1 bt361.2.1 true t336 t339 t340 t341 t342 t343))) else (laws_FnBlinds.j0 k t345 t348 bt353.1 bt361.1 bt361.2.1 true t336 t339 t340 t341 t342 t343)) else (laws_FnBlinds.j0 k t345 t348 bt353.1 bt361.1 bt361.2.1 true t336 t339 t340 t341 t342 t343))) else (laws_FnBlinds.j0 k t345 t348 bt353.1 bt361.1 bt361.2.1 true t336 t339 t340 t341 t342 t343))))))) = some r := H
    have A5 := Aside0.mk A50
    clear A50
    replace H := Option.bind_eq_some_iff.mp H
    obtain ⟨⟨t349, t352⟩, A60, H⟩ := H
    replace H : ((impl_AntesOf.f k t336 t339 t340 t341 t342 t343).bind fun bt353 => ((spec_AntesOf.f k t336 t339 t340 t341 t342 t343).bind fun bt357 => ((impl_BlindSeats.f k t336 t339 t340 t341 t342 t343).bind fun bt361 => ((spec_BlindSeats.f k t336 t339 t340 t341 t342 t343).bind fun bt364 => (if t348 = t352 then ((laws_likeInts.f k t345 t349).bind fun t367 => (if t367 = true then (if bt353.2 = bt357.2 then ((laws_likeInts.f k bt353.1 bt357.1).bind fun t368 => (if t368 = true then (if bt361.2.2 = bt364.2.2 then (if bt361.1 = bt364.1 then (if bt361.2.1 = bt364.2.1 then ((impl_IsTable.f k t336 t339 t340 t341 t342 t343).bind fun t369 => (laws_FnBlinds.j0 k t345 t348 bt353.1 bt361.1 bt361.2.1 (t369 != (t352 == 0)) t336 t339 t340 t341 t342 t343)) else (laws_FnBlinds.j0 k t345 t348 bt353.1 bt361.1 bt361.2.1 true t336 t339 t340 t341 t342 t343)) else (laws_FnBlinds.j0 k t345 t348 bt353.1 bt361.1 bt361.2.1 true t336 t339 t340 t341 t342 t343)) else (laws_FnBlinds.j0 k t345 t348 bt353.1 bt361.1 bt361.2.1 true t336 t339 t340 t341 t342 t343)) else (laws_FnBlinds.j0 k t345 t348 bt353.1 bt361.1 bt361.2.1 true t336 t339 t340 t341 t342 t343))) else (laws_FnBlinds.j0 k t345 t348 bt353.1 bt361.1 bt361.2.1 true t336 t339 t340 t341 t342 t343)) else (laws_FnBlinds.j0 k t345 t348 bt353.1 bt361.1 bt361.2.1 true t336 t339 t340 t341 t342 t343))) else (laws_FnBlinds.j0 k t345 t348 bt353.1 bt361.1 bt361.2.1 true t336 t339 t340 t341 t342 t343)))))) = some r := H
    have A6 := Aside0.mk A60
    clear A60
    replace H := Option.bind_eq_some_iff.mp H
    obtain ⟨⟨t353, t356⟩, A70, H⟩ := H
    replace H : ((spec_AntesOf.f k t336 t339 t340 t341 t342 t343).bind fun bt357 => ((impl_BlindSeats.f k t336 t339 t340 t341 t342 t343).bind fun bt361 => ((spec_BlindSeats.f k t336 t339 t340 t341 t342 t343).bind fun bt364 => (if t348 = t352 then ((laws_likeInts.f k t345 t349).bind fun t367 => (if t367 = true then (if t356 = bt357.2 then ((laws_likeInts.f k t353 bt357.1).bind fun t368 => (if t368 = true then (if bt361.2.2 = bt364.2.2 then (if bt361.1 = bt364.1 then (if bt361.2.1 = bt364.2.1 then ((impl_IsTable.f k t336 t339 t340 t341 t342 t343).bind fun t369 => (laws_FnBlinds.j0 k t345 t348 t353 bt361.1 bt361.2.1 (t369 != (t352 == 0)) t336 t339 t340 t341 t342 t343)) else (laws_FnBlinds.j0 k t345 t348 t353 bt361.1 bt361.2.1 true t336 t339 t340 t341 t342 t343)) else (laws_FnBlinds.j0 k t345 t348 t353 bt361.1 bt361.2.1 true t336 t339 t340 t341 t342 t343)) else (laws_FnBlinds.j0 k t345 t348 t353 bt361.1 bt361.2.1 true t336 t339 t340 t341 t342 t343)) else (laws_FnBlinds.j0 k t345 t348 t353 bt361.1 bt361.2.1 true t336 t339 t340 t341 t342 t343))) else (laws_FnBlinds.j0 k t345 t348 t353 bt361.1 bt361.2.1 true t336 t339 t340 t341 t342 t343)) else (laws_FnBlinds.j0 k t345 t348 t353 bt361.1 bt361.2.1 true t336 t339 t340 t341 t342 t343))) else (laws_FnBlinds.j0 k t345 t348 t353 bt361.1 bt361.2.1 true t336 t339 t340 t341 t342 t343))))) = some r := H
    have A7 := Aside0.mk A70
    clear A70
    replace H := Option.bind_eq_some_iff.mp H
    obtain ⟨⟨t357, t360⟩, A80, H⟩ := H
    replace H : ((impl_BlindSeats.f k t336 t339 t340 t341 t342 t343).bind fun bt361 => ((spec_BlindSeats.f k t336 t339 t340 t341 t342 t343).bind fun bt364 => (if t348 = t352 then ((laws_likeInts.f k t345 t349).bind fun t367 => (if t367 = true then (if t356 = t360 then ((laws_likeInts.f k t353 t357).bind fun t368 => (if t368 = true then (if bt361.2.2 = bt364.2.2 then (if bt361.1 = bt364.1 then (if bt361.2.1 = bt364.2.1 then ((impl_IsTable.f k t336 t339 t340 t341 t342 t343).bind fun t369 => (laws_FnBlinds.j0 k t345 t348 t353 bt361.1 bt361.2.1 (t369 != (t352 == 0)) t336 t339 t340 t341 t342 t343)) else (laws_FnBlinds.j0 k t345 t348 t353 bt361.1 bt361.2.1 true t336 t339 t340 t341 t342 t343)) else (laws_FnBlinds.j0 k t345 t348 t353 bt361.1 bt361.2.1 true t336 t339 t340 t341 t342 t343)) else (laws_FnBlinds.j0 k t345 t348 t353 bt361.1 bt361.2.1 true t336 t339 t340 t341 t342 t343)) else (laws_FnBlinds.j0 k t345 t348 t353 bt361.1 bt361.2.1 true t336 t339 t340 t341 t342 t343))) else (laws_FnBlinds.j0 k t345 t348 t353 bt361.1 bt361.2.1 true t336 t339 t340 t341 t342 t343)) else (laws_FnBlinds.j0 k t345 t348 t353 bt361.1 bt361.2.1 true t336 t339 t340 t341 t342 t343))) else (laws_FnBlinds.j0 k t345 t348 t353 bt361.1 bt361.2.1 true t336 t339 t340 t341 t342 t343)))) = some r := H
    have A8 := Aside0.mk A80
    clear A80
    replace H := Option.bind_eq_some_iff.mp H
    obtain ⟨⟨t361, t362, t363⟩, A90, H⟩ := H
    replace H : ((spec_BlindSeats.f k t336 t339 t340 t341 t342 t343).bind fun bt364 => (if t348 = t352 then ((laws_likeInts.f k t345 t349).bind fun t367 => (if t367 = true then (if t356 = t360 then ((laws_likeInts.f k t353 t357).bind fun t368 => (if t368 = true then (if t363 = bt364.2.2 then (if t361 = bt364.1 then (if t362 = bt364.2.1 then ((impl_IsTable.f k t336 t339 t340 t341 t342 t343).bind fun t369 => (laws_FnBlinds.j0 k t345 t348 t353 t361 t362 (t369 != (t352 == 0)) t336 t339 t340 t341 t342 t343)) else (laws_FnBlinds.j0 k t345 t348 t353 t361 t362 true t336 t339 t340 t341 t342 t343)) else (laws_FnBlinds.j0 k t345 t348 t353 t361 t362 true t336 t339 t340 t341 t342 t343)) else (laws_FnBlinds.j0 k t345 t348 t353 t361 t362 true t336 t339 t340 t341 t342 t343)) else (laws_FnBlinds.j0 k t345 t348 t353 t361 t362 true t336 t339 t340 t341 t342 t343))) else (laws_FnBlinds.j0 k t345 t348 t353 t361 t362 true t336 t339 t340 t341 t342 t343)) else (laws_FnBlinds.j0 k t345 t348 t353 t361 t362 true t336 t339 t340 t341 t342 t343))) else (laws_FnBlinds.j0 k t345 t348 t353 t361 t362 true t336 t339 t340 t341 t342 t343))) = some r := H
    have A9 := Aside0.mk A90
    clear A90
    replace H := Option.bind_eq_some_iff.mp H
    obtain ⟨⟨t364, t365, t366⟩, A100, H⟩ := H
    replace H : (if t348 = t352 then ((laws_likeInts.f k t345 t349).bind fun t367 => (if t367 = true then (if t356 = t360 then ((laws_likeInts.f k t353 t357).bind fun t368 => (if t368 = true then (if t363 = t366 then (if t361 = t364 then (if t362 = t365 then ((impl_IsTable.f k t336 t339 t340 t341 t342 t343).bind fun t369 => (laws_FnBlinds.j0 k t345 t348 t353 t361 t362 (t369 != (t352 == 0)) t336 t339 t340 t341 t342 t343)) else (laws_FnBlinds.j0 k t345 t348 t353 t361 t362 true t336 t339 t340 t341 t342 t343)) else (laws_FnBlinds.j0 k t345 t348 t353 t361 t362 true t336 t339 t340 t341 t342 t343)) else (laws_FnBlinds.j0 k t345 t348 t353 t361 t362 true t336 t339 t340 t341 t342 t343)) else (laws_FnBlinds.j0 k t345 t348 t353 t361 t362 true t336 t339 t340 t341 t342 t343))) else (laws_FnBlinds.j0 k t345 t348 t353 t361 t362 true t336 t339 t340 t341 t342 t343)) else (laws_FnBlinds.j0 k t345 t348 t353 t361 t362 true t336 t339 t340 t341 t342 t343))) else (laws_FnBlinds.j0 k t345 t348 t353 t361 t362 true t336 t339 t340 t341 t342 t343)) = some r := H
    have A10 := Aside0.mk A100
    clear A100
    have HC11 := Aside0.mk H
    clear H
    go_enter Try.func11, Try.ntmps11
    go_upto_region 10 with (first | (go_at_call 39; (with_reducible refine (laws_big.calls _ _ l0 false _ ?side1 ?side2 A2.out).mono ?_); (case side1 => repeat (first | exact HR0.out | (with_reducible refine Kd.C_alloc ?_ _) | (with_reducible refine Kd.C_drewN ?_ _) | (with_reducible refine Kd.C_drew ?_))); (case side2 => exact HC0.out); rintro e w' ⟨rfl, ⟨nd, rfl⟩⟩; (try first | exact ⟨rfl, _, World.drewN_drewN _ _ _⟩ | exact ⟨rfl, _, Eq.trans (World.drewN_drewN _ _ _) (congrArg (World.drewN _) (Nat.add_assoc _ _ _))⟩)) | (go_at_call 40; (with_reducible refine (spec_DrawBlindsOf.calls k _ _ l0 t336 t339 t340 t341 t342 t343 _ ?side1 ?side2 A4.out).mono ?_); (case side1 => repeat (first | exact HR0.out | (with_reducible refine Kd.C_alloc ?_ _) | (with_reducible refine Kd.C_drewN ?_ _) | (with_reducible refine Kd.C_drew ?_))); (case side2 => exact HC0.out); rintro e w12 ⟨v337, rfl, ho0, hb⟩; have n0_ := Aside0.mk (Kd.R_lower ho0 (below_size (by repeat (first | (with_reducible first | exact HB.out | apply below_alloc | apply pw_below_drewN | apply below_drew1) | exact HB.out)))); have n1_ := Aside0.mk (below_step (by repeat (first | (with_reducible first | exact HB.out | apply below_alloc | apply pw_below_drewN | apply below_drew1) | exact HB.out)) hb); clear HB; have HO338 := n0_; have HB := n1_; clear n0_ n1_; (try clear hb); (try clear hb2); (try clear hk); (try clear hi); (try clear ho0)) | ((with_reducible refine gate_dst (N := 3) rfl ?_); refine box_event ?hg (N := 3) ?hd (cs := #[.slice none 0 0, .int .i64 0, .int .i64 0, .int .i64 0, .int .i64 0, .int .i64 0]) (t := 27) ?hr ?_; (case hd => rfl); (case hg => rfl); (case hr => first | (go_simp; done) | (go_simp; rfl)); intro gb344 hg w13 hbox hb; have n0_ := Aside0.mk (Kd.R_below (by (with_reducible repeat (first | apply Kd.R_alloc | apply Kd.R_drewN | apply Kd.R_drew)); exact HO338.out) hb); have n1_ := Aside0.mk (below_step (by repeat (first | (with_reducible first | exact HB.out | apply below_alloc | apply pw_below_drewN | apply below_drew1) | exact HB.out)) hb); have n2_ := Aside0.mk (hbox); have n3_ := Aside0.mk ((by rw [hg]; exact (below_size (by repeat (first | (with_reducible first | exact HB.out | apply below_alloc | apply pw_below_drewN | apply below_drew1) | exact HB.out))) : w.heap.size ≤ gb344)); have n4_ := Aside0.mk ((by rw [hg]; exact (below_size (by repeat (first | (with_reducible first | exact HB.out | apply below_alloc | apply pw_below_drewN | apply below_drew1) | exact HB.out))) : w.heap.size ≤ gb344)); clear HO338; clear HB; have HO338 := n0_; have HB := n1_; have BK344 := n2_; have GW344 := n3_; have GE344 := n4_; clear n0_ n1_ n2_ n3_ n4_; clear hb hbox hg; obtain ⟨Ao14, co14, eo14⟩ := Kd.R_slice HO338.out; subst eo14; have hcz15_0 : w13.cell? ⟨gb344, 0, none⟩ = some (.slice none 0 0) := (blk_cell BK344.out 0).trans rfl; have hcz15_1 : w13.cell? ⟨gb344, 1, none⟩ = some (.int .i64 0) := (blk_cell BK344.out 1).trans rfl; have hcz15_2 : w13.cell? ⟨gb344, 2, none⟩ = some (.int .i64 0) := (blk_cell BK344.out 2).trans rfl; have hcz15_3 : w13.cell? ⟨gb344, 3, none⟩ = some (.int .i64 0) := (blk_cell BK344.out 3).trans rfl; have hcz15_4 : w13.cell? ⟨gb344, 4, none⟩ = some (.int .i64 0) := (blk_cell BK344.out 4).trans rfl; have hcz15_5 : w13.cell? ⟨gb344, 5, none⟩ = some (.int .i64 0) := (blk_cell BK344.out 5).trans rfl; have hfz15_0 := blk_frozen BK344.out 0; have hfz15_1 := blk_frozen BK344.out 1; have hfz15_2 := blk_frozen BK344.out 2; have hfz15_3 := blk_frozen BK344.out 3; have hfz15_4 := blk_frozen BK344.out 4; have hfz15_5 := blk_frozen BK344.out 5) | (go_at_call 34; (with_reducible refine (impl_BlindsOf.calls k _ _ t336 t339 t340 t341 t342 t343 t345 t348 _ ?side1 ?side2 A5.out).mono ?_); (case side1 => refine (Kd.R_reads' (e := 2) (base := w.heap.size) (ok := fun k_ => True) (n := t336.length) (c := co14) ?_).2.2; exact (by (with_reducible repeat (first | apply Kd.R_alloc | apply Kd.R_drewN | apply Kd.R_drew)); exact (Kd.R_mono (Kd.R_far (p := ⟨gb344, 5, none⟩) (Kd.R_far (p := ⟨gb344, 4, none⟩) (Kd.R_far (p := ⟨gb344, 3, none⟩) (Kd.R_far (p := ⟨gb344, 2, none⟩) (Kd.R_far (p := ⟨gb344, 1, none⟩) (Kd.R_far (p := ⟨gb344, 0, none⟩) (Kd.R_types HO338.out BK344.out (by decide)) (fun _ hk => hk.2) (.slice Ao14 t336.length co14)) (fun _ hk => hk.2) (.int .i64 t339)) (fun _ hk => hk.2) (.int .i64 t340)) (fun _ hk => hk.2) (.int .i64 t341)) (fun _ hk => hk.2) (.int .i64 t342)) (fun _ hk => hk.2) (.int .i64 t343)) (fun _ h_ => h_.1)))); (case side2 => exact (Kd.R_reads' HO338.out).2.1); rintro e w16 ⟨v346, rfl, ho0, hb⟩; have n0_ := Aside0.mk (Kd.R_elder' (by (with_reducible repeat (first | apply Kd.R_alloc | apply Kd.R_drewN | apply Kd.R_drew)); exact (Kd.R_mono (Kd.R_far (p := ⟨gb344, 5, none⟩) (Kd.R_far (p := ⟨gb344, 4, none⟩) (Kd.R_far (p := ⟨gb344, 3, none⟩) (Kd.R_far (p := ⟨gb344, 2, none⟩) (Kd.R_far (p := ⟨gb344, 1, none⟩) (Kd.R_far (p := ⟨gb344, 0, none⟩) (Kd.R_types HO338.out BK344.out (by decide)) (fun _ hk => hk.2) (.slice Ao14 t336.length co14)) (fun _ hk => hk.2) (.int .i64 t339)) (fun _ hk => hk.2) (.int .i64 t340)) (fun _ hk => hk.2) (.int .i64 t341)) (fun _ hk => hk.2) (.int .i64 t342)) (fun _ hk => hk.2) (.int .i64 t343)) (fun _ h_ => h_.1))) (Kd.R_base ho0) hb); have n1_ := Aside0.mk (Kd.R_lower (Kd.R_new' ho0 (Kd.R_lt (by (with_reducible repeat (first | apply Kd.R_alloc | apply Kd.R_drewN | apply Kd.R_drew)); exact (Kd.R_mono (Kd.R_far (p := ⟨gb344, 5, none⟩) (Kd.R_far (p := ⟨gb344, 4, none⟩) (Kd.R_far (p := ⟨gb344, 3, none⟩) (Kd.R_far (p := ⟨gb344, 2, none⟩) (Kd.R_far (p := ⟨gb344, 1, none⟩) (Kd.R_far (p := ⟨gb344, 0, none⟩) (Kd.R_types HO338.out BK344.out (by decide)) (fun _ hk => hk.2) (.slice Ao14 t336.length co14)) (fun _ hk => hk.2) (.int .i64 t339)) (fun _ hk => hk.2) (.int .i64 t340)) (fun _ hk => hk.2) (.int .i64 t341)) (fun _ hk => hk.2) (.int .i64 t342)) (fun _ hk => hk.2) (.int .i64 t343)) (fun _ h_ => h_.1))))) (below_size (by repeat (first | (with_reducible first | exact HB.out | apply below_alloc | apply pw_below_drewN | apply below_drew1 | refine below_set ?_ GE344.out) | exact HB.out)))); have n2_ := Aside0.mk (blk_below (g := gb344) (o := .cells #[.slice Ao14 t336.length co14, .int .i64 t339, .int .i64 t340, .int .i64 t341, .int .i64 t342, .int .i64 t343] 27 (0, 0)) (by (with_reducible repeat (first | refine blk_drewN ?_ _ | refine blk_drew ?_ | refine blk_alloc ?_ _)); refine blk_put (cs := #[.slice Ao14 t336.length co14, .int .i64 t339, .int .i64 t340, .int .i64 t341, .int .i64 t342, .int .i64 0]) ?_ 5 _ rfl; (with_reducible repeat (first | refine blk_drewN ?_ _ | refine blk_drew ?_ | refine blk_alloc ?_ _)); refine blk_put (cs := #[.slice Ao14 t336.length co14, .int .i64 t339, .int .i64 t340, .int .i64 t341, .int .i64 0, .int .i64 0]) ?_ 4 _ rfl; (with_reducible repeat (first | refine blk_drewN ?_ _ | refine blk_drew ?_ | refine blk_alloc ?_ _)); refine blk_put (cs := #[.slice Ao14 t336.length co14, .int .i64 t339, .int .i64 t340, .int .i64 0, .int .i64 0, .int .i64 0]) ?_ 3 _ rfl; (with_reducible repeat (first | refine blk_drewN ?_ _ | refine blk_drew ?_ | refine blk_alloc ?_ _)); refine blk_put (cs := #[.slice Ao14 t336.length co14, .int .i64 t339, .int .i64 0, .int .i64 0, .int .i64 0, .int .i64 0]) ?_ 2 _ rfl; (with_reducible repeat (first | refine blk_drewN ?_ _ | refine blk_drew ?_ | refine blk_alloc ?_ _)); refine blk_put (cs := #[.slice Ao14 t336.length co14, .int .i64 0, .int .i64 0, .int .i64 0, .int .i64 0, .int .i64 0]) ?_ 1 _ rfl; (with_reducible repeat (first | refine blk_drewN ?_ _ | refine blk_drew ?_ | refine blk_alloc ?_ _)); refine blk_put (cs := #[.slice none 0 0, .int .i64 0, .int .i64 0, .int .i64 0, .int .i64 0, .int .i64 0]) ?_ 0 _ rfl; (with_reducible repeat (first | refine blk_drewN ?_ _ | refine blk_drew ?_ | refine blk_alloc ?_ _)); exact BK344.out) hb); have n3_ := Aside0.mk (below_step (by repeat (first | (with_reducible first | exact HB.out | apply below_alloc | apply pw_below_drewN | apply below_drew1 | refine below_set ?_ GE344.out) | exact HB.out)) hb); clear HO338; clear BK344; clear HB; have HO338 := n0_; have HO347 := n1_; have BK344 := n2_; have HB := n3_; clear n0_ n1_ n2_ n3_; (try clear hb); (try clear hb2); (try clear hk); (try clear hi); (try clear ho0); have hcz17_0 : w16.cell? ⟨gb344, 0, none⟩ = some (.slice Ao14 t336.length co14) := (blk_cell BK344.out 0).trans rfl; have hcz17_1 : w16.cell? ⟨gb344, 1, none⟩ = some (.int .i64 t339) := (blk_cell BK344.out 1).trans rfl; have hcz17_2 : w16.cell? ⟨gb344, 2, none⟩ = some (.int .i64 t340) := (blk_cell BK344.out 2).trans rfl; have hcz17_3 : w16.cell? ⟨gb344, 3, none⟩ = some (.int .i64 t341) := (blk_cell BK344.out 3).trans rfl; have hcz17_4 : w16.cell? ⟨gb344, 4, none⟩ = some (.int .i64 t342) := (blk_cell BK344.out 4).trans rfl; have hcz17_5 : w16.cell? ⟨gb344, 5, none⟩ = some (.int .i64 t343) := (blk_cell BK344.out 5).trans rfl; have hfz17_0 := blk_frozen BK344.out 0; have hfz17_1 := blk_frozen BK344.out 1; have hfz17_2 := blk_frozen BK344.out 2; have hfz17_3 := blk_frozen BK344.out 3; have hfz17_4 := blk_frozen BK344.out 4; have hfz17_5 := blk_frozen BK344.out 5) | (go_at_call 33; (with_reducible refine (spec_BlindsOf.calls k _ _ t336 t339 t340 t341 t342 t343 t349 t352 _ ?side1 ?side2 A6.out).mono ?_); (case side1 => repeat (first | exact (Kd.R_reads' HO338.out).2.2 | (with_reducible refine Kd.C_alloc ?_ _) | (with_reducible refine Kd.C_drewN ?_ _) | (with_reducible refine Kd.C_drew ?_))); (case side2 => exact (Kd.R_reads' HO338.out).2.1); rintro e w18 ⟨v350, rfl, ho0, hb⟩; have n0_ := Aside0.mk (Kd.R_elder' (by (with_reducible repeat (first | apply Kd.R_alloc | apply Kd.R_drewN | apply Kd.R_drew)); exact HO338.out) (Kd.R_base ho0) hb); have n1_ := Aside0.mk (Kd.R_elder' (by (with_reducible repeat (first | apply Kd.R_alloc | apply Kd.R_drewN | apply Kd.R_drew)); exact HO347.out) (Kd.R_base ho0) hb); have n2_ := Aside0.mk (Kd.R_lower (Kd.R_new' (Kd.R_new' ho0 (Kd.R_lt (by (with_reducible repeat (first | apply Kd.R_alloc | apply Kd.R_drewN | apply Kd.R_drew)); exact HO338.out))) (Kd.R_lt (by (with_reducible repeat (first | apply Kd.R_alloc | apply Kd.R_drewN | apply Kd.R_drew)); exact HO347.out))) (below_size (by repeat (first | (with_reducible first | exact HB.out | apply below_alloc | apply pw_below_drewN | apply below_drew1 | refine below_set ?_ GE344.out) | exact HB.out)))); have n3_ := Aside0.mk (blk_below (g := gb344) (o := .cells #[.slice Ao14 t336.length co14, .int .i64 t339, .int .i64 t340, .int .i64 t341, .int .i64 t342, .int .i64 t343] 27 (0, 0)) (by (with_reducible repeat (first | refine blk_drewN ?_ _ | refine blk_drew ?_ | refine blk_alloc ?_ _)); exact BK344.out) hb); have n4_ := Aside0.mk (below_step (by repeat (first | (with_reducible first | exact HB.out | apply below_alloc | apply pw_below_drewN | apply below_drew1 | refine below_set ?_ GE344.out) | exact HB.out)) hb); clear HO338; clear HO347; clear BK344; clear HB; have HO338 := n0_; have HO347 := n1_; have HO351 := n2_; have BK344 := n3_; have HB := n4_; clear n0_ n1_ n2_ n3_ n4_; (try clear hb); (try clear hb2); (try clear hk); (try clear hi); (try clear ho0); have hcz19_0 : w18.cell? ⟨gb344, 0, none⟩ = some (.slice Ao14 t336.length co14) := (blk_cell BK344.out 0).trans rfl; have hcz19_1 : w18.cell? ⟨gb344, 1, none⟩ = some (.int .i64 t339) := (blk_cell BK344.out 1).trans rfl; have hcz19_2 : w18.cell? ⟨gb344, 2, none⟩ = some (.int .i64 t340) := (blk_cell BK344.out 2).trans rfl; have hcz19_3 : w18.cell? ⟨gb344, 3, none⟩ = some (.int .i64 t341) := (blk_cell BK344.out 3).trans rfl; have hcz19_4 : w18.cell? ⟨gb344, 4, none⟩ = some (.int .i64 t342) := (blk_cell BK344.out 4).trans rfl; have hcz19_5 : w18.cell? ⟨gb344, 5, none⟩ = some (.int .i64 t343) := (blk_cell BK344.out 5).trans rfl; have hfz19_0 := blk_frozen BK344.out 0; have hfz19_1 := blk_frozen BK344.out 1; have hfz19_2 := blk_frozen BK344.out 2; have hfz19_3 := blk_frozen BK344.out 3; have hfz19_4 := blk_frozen BK344.out 4; have hfz19_5 := blk_frozen BK344.out 5) | (go_at_call 24; (with_reducible refine (impl_AntesOf.calls k _ _ t336 t339 t340 t341 t342 t343 t353 t356 _ ?side1 ?side2 A7.out).mono ?_); (case side1 => repeat (first | exact (Kd.R_reads' HO338.out).2.2 | (with_reducible refine Kd.C_alloc ?_ _) | (with_reducible refine Kd.C_drewN ?_ _) | (with_reducible refine Kd.C_drew ?_))); (case side2 => exact (Kd.R_reads' HO338.out).2.1); rintro e w20 ⟨v354, rfl, ho0, hb⟩; have n0_ := Aside0.mk (Kd.R_elder' (by (with_reducible repeat (first | apply Kd.R_alloc | apply Kd.R_drewN | apply Kd.R_drew)); exact HO338.out) (Kd.R_base ho0) hb); have n1_ := Aside0.mk (Kd.R_elder' (by (with_reducible repeat (first | apply Kd.R_alloc | apply Kd.R_drewN | apply Kd.R_drew)); exact HO347.out) (Kd.R_base ho0) hb); have n2_ := Aside0.mk (Kd.R_elder' (by (with_reducible repeat (first | apply Kd.R_alloc | apply Kd.R_drewN | apply Kd.R_drew)); exact HO351.out) (Kd.R_base ho0) hb); have n3_ := Aside0.mk (Kd.R_lower (Kd.R_new' (Kd.R_new' (Kd.R_new' ho0 (Kd.R_lt (by (with_reducible repeat (first | apply Kd.R_alloc | apply Kd.R_drewN | apply Kd.R_drew)); exact HO338.out))) (Kd.R_lt (by (with_reducible repeat (first | apply Kd.R_alloc | apply Kd.R_drewN | apply Kd.R_drew)); exact HO347.out))) (Kd.R_lt (by (with_reducible repeat (first | apply Kd.R_alloc | apply Kd.R_drewN | apply Kd.R_drew)); exact HO351.out))) (below_size (by repeat (first | (with_reducible first | exact HB.out | apply below_alloc | apply pw_below_drewN | apply below_drew1 | refine below_set ?_ GE344.out) | exact HB.out)))); have n4_ := Aside0.mk (blk_below (g := gb344) (o := .cells #[.slice Ao14 t336.length co14, .int .i64 t339, .int .i64 t340, .int .i64 t341, .int .i64 t342, .int .i64 t343] 27 (0, 0)) (by (with_reducible repeat (first | refine blk_drewN ?_ _ | refine blk_drew ?_ | refine blk_alloc ?_ _)); exact BK344.out) hb); have n5_ := Aside0.mk (below_step (by repeat (first | (with_reducible first | exact HB.out | apply below_alloc | apply pw_below_drewN | apply below_drew1 | refine below_set ?_ GE344.out) | exact HB.out)) hb); clear HO338; clear HO347; clear HO351; clear BK344; clear HB; have HO338 := n0_; have HO347 := n1_; have HO351 := n2_; have HO355 := n3_; have BK344 := n4_; have HB := n5_; clear n0_ n1_ n2_ n3_ n4_ n5_; (try clear hb); (try clear hb2); (try clear hk); (try clear hi); (try clear ho0); have hcz21_0 : w20.cell? ⟨gb344, 0, none⟩ = some (.slice Ao14 t336.length co14) := (blk_cell BK344.out 0).trans rfl; have hcz21_1 : w20.cell? ⟨gb344, 1, none⟩ = some (.int .i64 t339) := (blk_cell BK344.out 1).trans rfl; have hcz21_2 : w20.cell? ⟨gb344, 2, none⟩ = some (.int .i64 t340) := (blk_cell BK344.out 2).trans rfl; have hcz21_3 : w20.cell? ⟨gb344, 3, none⟩ = some (.int .i64 t341) := (blk_cell BK344.out 3).trans rfl; have hcz21_4 : w20.cell? ⟨gb344, 4, none⟩ = some (.int .i64 t342) := (blk_cell BK344.out 4).trans rfl; have hcz21_5 : w20.cell? ⟨gb344, 5, none⟩ = some (.int .i64 t343) := (blk_cell BK344.out 5).trans rfl; have hfz21_0 := blk_frozen BK344.out 0; have hfz21_1 := blk_frozen BK344.out 1; have hfz21_2 := blk_frozen BK344.out 2; have hfz21_3 := blk_frozen BK344.out 3; have hfz21_4 := blk_frozen BK344.out 4; have hfz21_5 := blk_frozen BK344.out 5) | (go_at_call 23; (with_reducible refine (spec_AntesOf.calls k _ _ t336 t339 t340 t341 t342 t343 t357 t360 _ ?side1 ?side2 A8.out).mono ?_); (case side1 => repeat (first | exact (Kd.R_reads' HO338.out).2.2 | (with_reducible refine Kd.C_alloc ?_ _) | (with_reducible refine Kd.C_drewN ?_ _) | (with_reducible refine Kd.C_drew ?_))); (case side2 => exact (Kd.R_reads' HO338.out).2.1); rintro e w22 ⟨v358, rfl, ho0, hb⟩; have n0_ := Aside0.mk (Kd.R_elder' (by (with_reducible repeat (first | apply Kd.R_alloc | apply Kd.R_drewN | apply Kd.R_drew)); exact HO338.out) (Kd.R_base ho0) hb); have n1_ := Aside0.mk (Kd.R_elder' (by (with_reducible repeat (first | apply Kd.R_alloc | apply Kd.R_drewN | apply Kd.R_drew)); exact HO347.out) (Kd.R_base ho0) hb); have n2_ := Aside0.mk (Kd.R_elder' (by (with_reducible repeat (first | apply Kd.R_alloc | apply Kd.R_drewN | apply Kd.R_drew)); exact HO351.out) (Kd.R_base ho0) hb); have n3_ := Aside0.mk (Kd.R_elder' (by (with_reducible repeat (first | apply Kd.R_alloc | apply Kd.R_drewN | apply Kd.R_drew)); exact HO355.out) (Kd.R_base ho0) hb); have n4_ := Aside0.mk (Kd.R_lower (Kd.R_new' (Kd.R_new' (Kd.R_new' (Kd.R_new' ho0 (Kd.R_lt (by (with_reducible repeat (first | apply Kd.R_alloc | apply Kd.R_drewN | apply Kd.R_drew)); exact HO338.out))) (Kd.R_lt (by (with_reducible repeat (first | apply Kd.R_alloc | apply Kd.R_drewN | apply Kd.R_drew)); exact HO347.out))) (Kd.R_lt (by (with_reducible repeat (first | apply Kd.R_alloc | apply Kd.R_drewN | apply Kd.R_drew)); exact HO351.out))) (Kd.R_lt (by (with_reducible repeat (first | apply Kd.R_alloc | apply Kd.R_drewN | apply Kd.R_drew)); exact HO355.out))) (below_size (by repeat (first | (with_reducible first | exact HB.out | apply below_alloc | apply pw_below_drewN | apply below_drew1 | refine below_set ?_ GE344.out) | exact HB.out)))); have n5_ := Aside0.mk (blk_below (g := gb344) (o := .cells #[.slice Ao14 t336.length co14, .int .i64 t339, .int .i64 t340, .int .i64 t341, .int .i64 t342, .int .i64 t343] 27 (0, 0)) (by (with_reducible repeat (first | refine blk_drewN ?_ _ | refine blk_drew ?_ | refine blk_alloc ?_ _)); exact BK344.out) hb); have n6_ := Aside0.mk (below_step (by repeat (first | (with_reducible first | exact HB.out | apply below_alloc | apply pw_below_drewN | apply below_drew1 | refine below_set ?_ GE344.out) | exact HB.out)) hb); clear HO338; clear HO347; clear HO351; clear HO355; clear BK344; clear HB; have HO338 := n0_; have HO347 := n1_; have HO351 := n2_; have HO355 := n3_; have HO359 := n4_; have BK344 := n5_; have HB := n6_; clear n0_ n1_ n2_ n3_ n4_ n5_ n6_; (try clear hb); (try clear hb2); (try clear hk); (try clear hi); (try clear ho0); have hcz23_0 : w22.cell? ⟨gb344, 0, none⟩ = some (.slice Ao14 t336.length co14) := (blk_cell BK344.out 0).trans rfl; have hcz23_1 : w22.cell? ⟨gb344, 1, none⟩ = some (.int .i64 t339) := (blk_cell BK344.out 1).trans rfl; have hcz23_2 : w22.cell? ⟨gb344, 2, none⟩ = some (.int .i64 t340) := (blk_cell BK344.out 2).trans rfl; have hcz23_3 : w22.cell? ⟨gb344, 3, none⟩ = some (.int .i64 t341) := (blk_cell BK344.out 3).trans rfl; have hcz23_4 : w22.cell? ⟨gb344, 4, none⟩ = some (.int .i64 t342) := (blk_cell BK344.out 4).trans rfl; have hcz23_5 : w22.cell? ⟨gb344, 5, none⟩ = some (.int .i64 t343) := (blk_cell BK344.out 5).trans rfl; have hfz23_0 := blk_frozen BK344.out 0; have hfz23_1 := blk_frozen BK344.out 1; have hfz23_2 := blk_frozen BK344.out 2; have hfz23_3 := blk_frozen BK344.out 3; have hfz23_4 := blk_frozen BK344.out 4; have hfz23_5 := blk_frozen BK344.out 5) | (go_at_call 22; (with_reducible refine (impl_BlindSeats.calls k _ _ t336 t339 t340 t341 t342 t343 t361 t362 t363 _ ?side1 ?side2 A9.out).mono ?_); (case side1 => repeat (first | exact (Kd.R_reads' HO338.out).2.2 | (with_reducible refine Kd.C_alloc ?_ _) | (with_reducible refine Kd.C_drewN ?_ _) | (with_reducible refine Kd.C_drew ?_))); (case side2 => exact (Kd.R_reads' HO338.out).2.1); rintro e w24 ⟨rfl, hb⟩; have n0_ := Aside0.mk (Kd.R_below (by (with_reducible repeat (first | apply Kd.R_alloc | apply Kd.R_drewN | apply Kd.R_drew)); exact HO338.out) hb); have n1_ := Aside0.mk (Kd.R_below (by (with_reducible repeat (first | apply Kd.R_alloc | apply Kd.R_drewN | apply Kd.R_drew)); exact HO347.out) hb); have n2_ := Aside0.mk (Kd.R_below (by (with_reducible repeat (first | apply Kd.R_alloc | apply Kd.R_drewN | apply Kd.R_drew)); exact HO351.out) hb); have n3_ := Aside0.mk (Kd.R_below (by (with_reducible repeat (first | apply Kd.R_alloc | apply Kd.R_drewN | apply Kd.R_drew)); exact HO355.out) hb); have n4_ := Aside0.mk (Kd.R_below (by (with_reducible repeat (first | apply Kd.R_alloc | apply Kd.R_drewN | apply Kd.R_drew)); exact HO359.out) hb); have n5_ := Aside0.mk (blk_below (g := gb344) (o := .cells #[.slice Ao14 t336.length co14, .int .i64 t339, .int .i64 t340, .int .i64 t341, .int .i64 t342, .int .i64 t343] 27 (0, 0)) (by (with_reducible repeat (first | refine blk_drewN ?_ _ | refine blk_drew ?_ | refine blk_alloc ?_ _)); exact BK344.out) hb); have n6_ := Aside0.mk (below_step (by repeat (first | (with_reducible first | exact HB.out | apply below_alloc | apply pw_below_drewN | apply below_drew1 | refine below_set ?_ GE344.out) | exact HB.out)) hb); clear HO338; clear HO347; clear HO351; clear HO355; clear HO359; clear BK344; clear HB; have HO338 := n0_; have HO347 := n1_; have HO351 := n2_; have HO355 := n3_; have HO359 := n4_; have BK344 := n5_; have HB := n6_; clear n0_ n1_ n2_ n3_ n4_ n5_ n6_; (try clear hb); (try clear hb2); (try clear hk); (try clear hi); have hcz25_0 : w24.cell? ⟨gb344, 0, none⟩ = some (.slice Ao14 t336.length co14) := (blk_cell BK344.out 0).trans rfl; have hcz25_1 : w24.cell? ⟨gb344, 1, none⟩ = some (.int .i64 t339) := (blk_cell BK344.out 1).trans rfl; have hcz25_2 : w24.cell? ⟨gb344, 2, none⟩ = some (.int .i64 t340) := (blk_cell BK344.out 2).trans rfl; have hcz25_3 : w24.cell? ⟨gb344, 3, none⟩ = some (.int .i64 t341) := (blk_cell BK344.out 3).trans rfl; have hcz25_4 : w24.cell? ⟨gb344, 4, none⟩ = some (.int .i64 t342) := (blk_cell BK344.out 4).trans rfl; have hcz25_5 : w24.cell? ⟨gb344, 5, none⟩ = some (.int .i64 t343) := (blk_cell BK344.out 5).trans rfl; have hfz25_0 := blk_frozen BK344.out 0; have hfz25_1 := blk_frozen BK344.out 1; have hfz25_2 := blk_frozen BK344.out 2; have hfz25_3 := blk_frozen BK344.out 3; have hfz25_4 := blk_frozen BK344.out 4; have hfz25_5 := blk_frozen BK344.out 5) | (go_at_call 21; (with_reducible refine (spec_BlindSeats.calls k _ _ t336 t339 t340 t341 t342 t343 t364 t365 t366 _ ?side1 ?side2 A10.out).mono ?_); (case side1 => repeat (first | exact (Kd.R_reads' HO338.out).2.2 | (with_reducible refine Kd.C_alloc ?_ _) | (with_reducible refine Kd.C_drewN ?_ _) | (with_reducible refine Kd.C_drew ?_))); (case side2 => exact (Kd.R_reads' HO338.out).2.1); rintro e w26 ⟨rfl, hb⟩; have n0_ := Aside0.mk (Kd.R_below (by (with_reducible repeat (first | apply Kd.R_alloc | apply Kd.R_drewN | apply Kd.R_drew)); exact HO338.out) hb); have n1_ := Aside0.mk (Kd.R_below (by (with_reducible repeat (first | apply Kd.R_alloc | apply Kd.R_drewN | apply Kd.R_drew)); exact HO347.out) hb); have n2_ := Aside0.mk (Kd.R_below (by (with_reducible repeat (first | apply Kd.R_alloc | apply Kd.R_drewN | apply Kd.R_drew)); exact HO351.out) hb); have n3_ := Aside0.mk (Kd.R_below (by (with_reducible repeat (first | apply Kd.R_alloc | apply Kd.R_drewN | apply Kd.R_drew)); exact HO355.out) hb); have n4_ := Aside0.mk (Kd.R_below (by (with_reducible repeat (first | apply Kd.R_alloc | apply Kd.R_drewN | apply Kd.R_drew)); exact HO359.out) hb); have n5_ := Aside0.mk (blk_below (g := gb344) (o := .cells #[.slice Ao14 t336.length co14, .int .i64 t339, .int .i64 t340, .int .i64 t341, .int .i64 t342, .int .i64 t343] 27 (0, 0)) (by (with_reducible repeat (first | refine blk_drewN ?_ _ | refine blk_drew ?_ | refine blk_alloc ?_ _)); exact BK344.out) hb); have n6_ := Aside0.mk (below_step (by repeat (first | (with_reducible first | exact HB.out | apply below_alloc | apply pw_below_drewN | apply below_drew1 | refine below_set ?_ GE344.out) | exact HB.out)) hb); clear HO338; clear HO347; clear HO351; clear HO355; clear HO359; clear BK344; clear HB; have HO338 := n0_; have HO347 := n1_; have HO351 := n2_; have HO355 := n3_; have HO359 := n4_; have BK344 := n5_; have HB := n6_; clear n0_ n1_ n2_ n3_ n4_ n5_ n6_; (try clear hb); (try clear hb2); (try clear hk); (try clear hi)))
    repeat (go_quiet (first | (go_at_call 39; (with_reducible refine (laws_big.calls _ _ l0 false _ ?side1 ?side2 A2.out).mono ?_); (case side1 => repeat (first | exact HR0.out | (with_reducible refine Kd.C_alloc ?_ _) | (with_reducible refine Kd.C_drewN ?_ _) | (with_reducible refine Kd.C_drew ?_))); (case side2 => exact HC0.out); rintro e w' ⟨rfl, ⟨nd, rfl⟩⟩; (try first | exact ⟨rfl, _, World.drewN_drewN _ _ _⟩ | exact ⟨rfl, _, Eq.trans (World.drewN_drewN _ _ _) (congrArg (World.drewN _) (Nat.add_assoc _ _ _))⟩)) | (go_at_call 40; (with_reducible refine (spec_DrawBlindsOf.calls k _ _ l0 t336 t339 t340 t341 t342 t343 _ ?side1 ?side2 A4.out).mono ?_); (case side1 => repeat (first | exact HR0.out | (with_reducible refine Kd.C_alloc ?_ _) | (with_reducible refine Kd.C_drewN ?_ _) | (with_reducible refine Kd.C_drew ?_))); (case side2 => exact HC0.out); rintro e w12 ⟨v337, rfl, ho0, hb⟩; have n0_ := Aside0.mk (Kd.R_lower ho0 (below_size (by repeat (first | (with_reducible first | exact HB.out | apply below_alloc | apply pw_below_drewN | apply below_drew1) | exact HB.out)))); have n1_ := Aside0.mk (below_step (by repeat (first | (with_reducible first | exact HB.out | apply below_alloc | apply pw_below_drewN | apply below_drew1) | exact HB.out)) hb); clear HB; have HO338 := n0_; have HB := n1_; clear n0_ n1_; (try clear hb); (try clear hb2); (try clear hk); (try clear hi); (try clear ho0)) | ((with_reducible refine gate_dst (N := 3) rfl ?_); refine box_event ?hg (N := 3) ?hd (cs := #[.slice none 0 0, .int .i64 0, .int .i64 0, .int .i64 0, .int .i64 0, .int .i64 0]) (t := 27) ?hr ?_; (case hd => rfl); (case hg => rfl); (case hr => first | (go_simp; done) | (go_simp; rfl)); intro gb344 hg w13 hbox hb; have n0_ := Aside0.mk (Kd.R_below (by (with_reducible repeat (first | apply Kd.R_alloc | apply Kd.R_drewN | apply Kd.R_drew)); exact HO338.out) hb); have n1_ := Aside0.mk (below_step (by repeat (first | (with_reducible first | exact HB.out | apply below_alloc | apply pw_below_drewN | apply below_drew1) | exact HB.out)) hb); have n2_ := Aside0.mk (hbox); have n3_ := Aside0.mk ((by rw [hg]; exact (below_size (by repeat (first | (with_reducible first | exact HB.out | apply below_alloc | apply pw_below_drewN | apply below_drew1) | exact HB.out))) : w.heap.size ≤ gb344)); have n4_ := Aside0.mk ((by rw [hg]; exact (below_size (by repeat (first | (with_reducible first | exact HB.out | apply below_alloc | apply pw_below_drewN | apply below_drew1) | exact HB.out))) : w.heap.size ≤ gb344)); clear HO338; clear HB; have HO338 := n0_; have HB := n1_; have BK344 := n2_; have GW344 := n3_; have GE344 := n4_; clear n0_ n1_ n2_ n3_ n4_; clear hb hbox hg; obtain ⟨Ao14, co14, eo14⟩ := Kd.R_slice HO338.out; subst eo14; have hcz15_0 : w13.cell? ⟨gb344, 0, none⟩ = some (.slice none 0 0) := (blk_cell BK344.out 0).trans rfl; have hcz15_1 : w13.cell? ⟨gb344, 1, none⟩ = some (.int .i64 0) := (blk_cell BK344.out 1).trans rfl; have hcz15_2 : w13.cell? ⟨gb344, 2, none⟩ = some (.int .i64 0) := (blk_cell BK344.out 2).trans rfl; have hcz15_3 : w13.cell? ⟨gb344, 3, none⟩ = some (.int .i64 0) := (blk_cell BK344.out 3).trans rfl; have hcz15_4 : w13.cell? ⟨gb344, 4, none⟩ = some (.int .i64 0) := (blk_cell BK344.out 4).trans rfl; have hcz15_5 : w13.cell? ⟨gb344, 5, none⟩ = some (.int .i64 0) := (blk_cell BK344.out 5).trans rfl; have hfz15_0 := blk_frozen BK344.out 0; have hfz15_1 := blk_frozen BK344.out 1; have hfz15_2 := blk_frozen BK344.out 2; have hfz15_3 := blk_frozen BK344.out 3; have hfz15_4 := blk_frozen BK344.out 4; have hfz15_5 := blk_frozen BK344.out 5) | (go_at_call 34; (with_reducible refine (impl_BlindsOf.calls k _ _ t336 t339 t340 t341 t342 t343 t345 t348 _ ?side1 ?side2 A5.out).mono ?_); (case side1 => refine (Kd.R_reads' (e := 2) (base := w.heap.size) (ok := fun k_ => True) (n := t336.length) (c := co14) ?_).2.2; exact (by (with_reducible repeat (first | apply Kd.R_alloc | apply Kd.R_drewN | apply Kd.R_drew)); exact (Kd.R_mono (Kd.R_far (p := ⟨gb344, 5, none⟩) (Kd.R_far (p := ⟨gb344, 4, none⟩) (Kd.R_far (p := ⟨gb344, 3, none⟩) (Kd.R_far (p := ⟨gb344, 2, none⟩) (Kd.R_far (p := ⟨gb344, 1, none⟩) (Kd.R_far (p := ⟨gb344, 0, none⟩) (Kd.R_types HO338.out BK344.out (by decide)) (fun _ hk => hk.2) (.slice Ao14 t336.length co14)) (fun _ hk => hk.2) (.int .i64 t339)) (fun _ hk => hk.2) (.int .i64 t340)) (fun _ hk => hk.2) (.int .i64 t341)) (fun _ hk => hk.2) (.int .i64 t342)) (fun _ hk => hk.2) (.int .i64 t343)) (fun _ h_ => h_.1)))); (case side2 => exact (Kd.R_reads' HO338.out).2.1); rintro e w16 ⟨v346, rfl, ho0, hb⟩; have n0_ := Aside0.mk (Kd.R_elder' (by (with_reducible repeat (first | apply Kd.R_alloc | apply Kd.R_drewN | apply Kd.R_drew)); exact (Kd.R_mono (Kd.R_far (p := ⟨gb344, 5, none⟩) (Kd.R_far (p := ⟨gb344, 4, none⟩) (Kd.R_far (p := ⟨gb344, 3, none⟩) (Kd.R_far (p := ⟨gb344, 2, none⟩) (Kd.R_far (p := ⟨gb344, 1, none⟩) (Kd.R_far (p := ⟨gb344, 0, none⟩) (Kd.R_types HO338.out BK344.out (by decide)) (fun _ hk => hk.2) (.slice Ao14 t336.length co14)) (fun _ hk => hk.2) (.int .i64 t339)) (fun _ hk => hk.2) (.int .i64 t340)) (fun _ hk => hk.2) (.int .i64 t341)) (fun _ hk => hk.2) (.int .i64 t342)) (fun _ hk => hk.2) (.int .i64 t343)) (fun _ h_ => h_.1))) (Kd.R_base ho0) hb); have n1_ := Aside0.mk (Kd.R_lower (Kd.R_new' ho0 (Kd.R_lt (by (with_reducible repeat (first | apply Kd.R_alloc | apply Kd.R_drewN | apply Kd.R_drew)); exact (Kd.R_mono (Kd.R_far (p := ⟨gb344, 5, none⟩) (Kd.R_far (p := ⟨gb344, 4, none⟩) (Kd.R_far (p := ⟨gb344, 3, none⟩) (Kd.R_far (p := ⟨gb344, 2, none⟩) (Kd.R_far (p := ⟨gb344, 1, none⟩) (Kd.R_far (p := ⟨gb344, 0, none⟩) (Kd.R_types HO338.out BK344.out (by decide)) (fun _ hk => hk.2) (.slice Ao14 t336.length co14)) (fun _ hk => hk.2) (.int .i64 t339)) (fun _ hk => hk.2) (.int .i64 t340)) (fun _ hk => hk.2) (.int .i64 t341)) (fun _ hk => hk.2) (.int .i64 t342)) (fun _ hk => hk.2) (.int .i64 t343)) (fun _ h_ => h_.1))))) (below_size (by repeat (first | (with_reducible first | exact HB.out | apply below_alloc | apply pw_below_drewN | apply below_drew1 | refine below_set ?_ GE344.out) | exact HB.out)))); have n2_ := Aside0.mk (blk_below (g := gb344) (o := .cells #[.slice Ao14 t336.length co14, .int .i64 t339, .int .i64 t340, .int .i64 t341, .int .i64 t342, .int .i64 t343] 27 (0, 0)) (by (with_reducible repeat (first | refine blk_drewN ?_ _ | refine blk_drew ?_ | refine blk_alloc ?_ _)); refine blk_put (cs := #[.slice Ao14 t336.length co14, .int .i64 t339, .int .i64 t340, .int .i64 t341, .int .i64 t342, .int .i64 0]) ?_ 5 _ rfl; (with_reducible repeat (first | refine blk_drewN ?_ _ | refine blk_drew ?_ | refine blk_alloc ?_ _)); refine blk_put (cs := #[.slice Ao14 t336.length co14, .int .i64 t339, .int .i64 t340, .int .i64 t341, .int .i64 0, .int .i64 0]) ?_ 4 _ rfl; (with_reducible repeat (first | refine blk_drewN ?_ _ | refine blk_drew ?_ | refine blk_alloc ?_ _)); refine blk_put (cs := #[.slice Ao14 t336.length co14, .int .i64 t339, .int .i64 t340, .int .i64 0, .int .i64 0, .int .i64 0]) ?_ 3 _ rfl; (with_reducible repeat (first | refine blk_drewN ?_ _ | refine blk_drew ?_ | refine blk_alloc ?_ _)); refine blk_put (cs := #[.slice Ao14 t336.length co14, .int .i64 t339, .int .i64 0, .int .i64 0, .int .i64 0, .int .i64 0]) ?_ 2 _ rfl; (with_reducible repeat (first | refine blk_drewN ?_ _ | refine blk_drew ?_ | refine blk_alloc ?_ _)); refine blk_put (cs := #[.slice Ao14 t336.length co14, .int .i64 0, .int .i64 0, .int .i64 0, .int .i64 0, .int .i64 0]) ?_ 1 _ rfl; (with_reducible repeat (first | refine blk_drewN ?_ _ | refine blk_drew ?_ | refine blk_alloc ?_ _)); refine blk_put (cs := #[.slice none 0 0, .int .i64 0, .int .i64 0, .int .i64 0, .int .i64 0, .int .i64 0]) ?_ 0 _ rfl; (with_reducible repeat (first | refine blk_drewN ?_ _ | refine blk_drew ?_ | refine blk_alloc ?_ _)); exact BK344.out) hb); have n3_ := Aside0.mk (below_step (by repeat (first | (with_reducible first | exact HB.out | apply below_alloc | apply pw_below_drewN | apply below_drew1 | refine below_set ?_ GE344.out) | exact HB.out)) hb); clear HO338; clear BK344; clear HB; have HO338 := n0_; have HO347 := n1_; have BK344 := n2_; have HB := n3_; clear n0_ n1_ n2_ n3_; (try clear hb); (try clear hb2); (try clear hk); (try clear hi); (try clear ho0); have hcz17_0 : w16.cell? ⟨gb344, 0, none⟩ = some (.slice Ao14 t336.length co14) := (blk_cell BK344.out 0).trans rfl; have hcz17_1 : w16.cell? ⟨gb344, 1, none⟩ = some (.int .i64 t339) := (blk_cell BK344.out 1).trans rfl; have hcz17_2 : w16.cell? ⟨gb344, 2, none⟩ = some (.int .i64 t340) := (blk_cell BK344.out 2).trans rfl; have hcz17_3 : w16.cell? ⟨gb344, 3, none⟩ = some (.int .i64 t341) := (blk_cell BK344.out 3).trans rfl; have hcz17_4 : w16.cell? ⟨gb344, 4, none⟩ = some (.int .i64 t342) := (blk_cell BK344.out 4).trans rfl; have hcz17_5 : w16.cell? ⟨gb344, 5, none⟩ = some (.int .i64 t343) := (blk_cell BK344.out 5).trans rfl; have hfz17_0 := blk_frozen BK344.out 0; have hfz17_1 := blk_frozen BK344.out 1; have hfz17_2 := blk_frozen BK344.out 2; have hfz17_3 := blk_frozen BK344.out 3; have hfz17_4 := blk_frozen BK344.out 4; have hfz17_5 := blk_frozen BK344.out 5) | (go_at_call 33; (with_reducible refine (spec_BlindsOf.calls k _ _ t336 t339 t340 t341 t342 t343 t349 t352 _ ?side1 ?side2 A6.out).mono ?_); (case side1 => repeat (first | exact (Kd.R_reads' HO338.out).2.2 | (with_reducible refine Kd.C_alloc ?_ _) | (with_reducible refine Kd.C_drewN ?_ _) | (with_reducible refine Kd.C_drew ?_))); (case side2 => exact (Kd.R_reads' HO338.out).2.1); rintro e w18 ⟨v350, rfl, ho0, hb⟩; have n0_ := Aside0.mk (Kd.R_elder' (by (with_reducible repeat (first | apply Kd.R_alloc | apply Kd.R_drewN | apply Kd.R_drew)); exact HO338.out) (Kd.R_base ho0) hb); have n1_ := Aside0.mk (Kd.R_elder' (by (with_reducible repeat (first | apply Kd.R_alloc | apply Kd.R_drewN | apply Kd.R_drew)); exact HO347.out) (Kd.R_base ho0) hb); have n2_ := Aside0.mk (Kd.R_lower (Kd.R_new' (Kd.R_new' ho0 (Kd.R_lt (by (with_reducible repeat (first | apply Kd.R_alloc | apply Kd.R_drewN | apply Kd.R_drew)); exact HO338.out))) (Kd.R_lt (by (with_reducible repeat (first | apply Kd.R_alloc | apply Kd.R_drewN | apply Kd.R_drew)); exact HO347.out))) (below_size (by repeat (first | (with_reducible first | exact HB.out | apply below_alloc | apply pw_below_drewN | apply below_drew1 | refine below_set ?_ GE344.out) | exact HB.out)))); have n3_ := Aside0.mk (blk_below (g := gb344) (o := .cells #[.slice Ao14 t336.length co14, .int .i64 t339, .int .i64 t340, .int .i64 t341, .int .i64 t342, .int .i64 t343] 27 (0, 0)) (by (with_reducible repeat (first | refine blk_drewN ?_ _ | refine blk_drew ?_ | refine blk_alloc ?_ _)); exact BK344.out) hb); have n4_ := Aside0.mk (below_step (by repeat (first | (with_reducible first | exact HB.out | apply below_alloc | apply pw_below_drewN | apply below_drew1 | refine below_set ?_ GE344.out) | exact HB.out)) hb); clear HO338; clear HO347; clear BK344; clear HB; have HO338 := n0_; have HO347 := n1_; have HO351 := n2_; have BK344 := n3_; have HB := n4_; clear n0_ n1_ n2_ n3_ n4_; (try clear hb); (try clear hb2); (try clear hk); (try clear hi); (try clear ho0); have hcz19_0 : w18.cell? ⟨gb344, 0, none⟩ = some (.slice Ao14 t336.length co14) := (blk_cell BK344.out 0).trans rfl; have hcz19_1 : w18.cell? ⟨gb344, 1, none⟩ = some (.int .i64 t339) := (blk_cell BK344.out 1).trans rfl; have hcz19_2 : w18.cell? ⟨gb344, 2, none⟩ = some (.int .i64 t340) := (blk_cell BK344.out 2).trans rfl; have hcz19_3 : w18.cell? ⟨gb344, 3, none⟩ = some (.int .i64 t341) := (blk_cell BK344.out 3).trans rfl; have hcz19_4 : w18.cell? ⟨gb344, 4, none⟩ = some (.int .i64 t342) := (blk_cell BK344.out 4).trans rfl; have hcz19_5 : w18.cell? ⟨gb344, 5, none⟩ = some (.int .i64 t343) := (blk_cell BK344.out 5).trans rfl; have hfz19_0 := blk_frozen BK344.out 0; have hfz19_1 := blk_frozen BK344.out 1; have hfz19_2 := blk_frozen BK344.out 2; have hfz19_3 := blk_frozen BK344.out 3; have hfz19_4 := blk_frozen BK344.out 4; have hfz19_5 := blk_frozen BK344.out 5) | (go_at_call 24; (with_reducible refine (impl_AntesOf.calls k _ _ t336 t339 t340 t341 t342 t343 t353 t356 _ ?side1 ?side2 A7.out).mono ?_); (case side1 => repeat (first | exact (Kd.R_reads' HO338.out).2.2 | (with_reducible refine Kd.C_alloc ?_ _) | (with_reducible refine Kd.C_drewN ?_ _) | (with_reducible refine Kd.C_drew ?_))); (case side2 => exact (Kd.R_reads' HO338.out).2.1); rintro e w20 ⟨v354, rfl, ho0, hb⟩; have n0_ := Aside0.mk (Kd.R_elder' (by (with_reducible repeat (first | apply Kd.R_alloc | apply Kd.R_drewN | apply Kd.R_drew)); exact HO338.out) (Kd.R_base ho0) hb); have n1_ := Aside0.mk (Kd.R_elder' (by (with_reducible repeat (first | apply Kd.R_alloc | apply Kd.R_drewN | apply Kd.R_drew)); exact HO347.out) (Kd.R_base ho0) hb); have n2_ := Aside0.mk (Kd.R_elder' (by (with_reducible repeat (first | apply Kd.R_alloc | apply Kd.R_drewN | apply Kd.R_drew)); exact HO351.out) (Kd.R_base ho0) hb); have n3_ := Aside0.mk (Kd.R_lower (Kd.R_new' (Kd.R_new' (Kd.R_new' ho0 (Kd.R_lt (by (with_reducible repeat (first | apply Kd.R_alloc | apply Kd.R_drewN | apply Kd.R_drew)); exact HO338.out))) (Kd.R_lt (by (with_reducible repeat (first | apply Kd.R_alloc | apply Kd.R_drewN | apply Kd.R_drew)); exact HO347.out))) (Kd.R_lt (by (with_reducible repeat (first | apply Kd.R_alloc | apply Kd.R_drewN | apply Kd.R_drew)); exact HO351.out))) (below_size (by repeat (first | (with_reducible first | exact HB.out | apply below_alloc | apply pw_below_drewN | apply below_drew1 | refine below_set ?_ GE344.out) | exact HB.out)))); have n4_ := Aside0.mk (blk_below (g := gb344) (o := .cells #[.slice Ao14 t336.length co14, .int .i64 t339, .int .i64 t340, .int .i64 t341, .int .i64 t342, .int .i64 t343] 27 (0, 0)) (by (with_reducible repeat (first | refine blk_drewN ?_ _ | refine blk_drew ?_ | refine blk_alloc ?_ _)); exact BK344.out) hb); have n5_ := Aside0.mk (below_step (by repeat (first | (with_reducible first | exact HB.out | apply below_alloc | apply pw_below_drewN | apply below_drew1 | refine below_set ?_ GE344.out) | exact HB.out)) hb); clear HO338; clear HO347; clear HO351; clear BK344; clear HB; have HO338 := n0_; have HO347 := n1_; have HO351 := n2_; have HO355 := n3_; have BK344 := n4_; have HB := n5_; clear n0_ n1_ n2_ n3_ n4_ n5_; (try clear hb); (try clear hb2); (try clear hk); (try clear hi); (try clear ho0); have hcz21_0 : w20.cell? ⟨gb344, 0, none⟩ = some (.slice Ao14 t336.length co14) := (blk_cell BK344.out 0).trans rfl; have hcz21_1 : w20.cell? ⟨gb344, 1, none⟩ = some (.int .i64 t339) := (blk_cell BK344.out 1).trans rfl; have hcz21_2 : w20.cell? ⟨gb344, 2, none⟩ = some (.int .i64 t340) := (blk_cell BK344.out 2).trans rfl; have hcz21_3 : w20.cell? ⟨gb344, 3, none⟩ = some (.int .i64 t341) := (blk_cell BK344.out 3).trans rfl; have hcz21_4 : w20.cell? ⟨gb344, 4, none⟩ = some (.int .i64 t342) := (blk_cell BK344.out 4).trans rfl; have hcz21_5 : w20.cell? ⟨gb344, 5, none⟩ = some (.int .i64 t343) := (blk_cell BK344.out 5).trans rfl; have hfz21_0 := blk_frozen BK344.out 0; have hfz21_1 := blk_frozen BK344.out 1; have hfz21_2 := blk_frozen BK344.out 2; have hfz21_3 := blk_frozen BK344.out 3; have hfz21_4 := blk_frozen BK344.out 4; have hfz21_5 := blk_frozen BK344.out 5) | (go_at_call 23; (with_reducible refine (spec_AntesOf.calls k _ _ t336 t339 t340 t341 t342 t343 t357 t360 _ ?side1 ?side2 A8.out).mono ?_); (case side1 => repeat (first | exact (Kd.R_reads' HO338.out).2.2 | (with_reducible refine Kd.C_alloc ?_ _) | (with_reducible refine Kd.C_drewN ?_ _) | (with_reducible refine Kd.C_drew ?_))); (case side2 => exact (Kd.R_reads' HO338.out).2.1); rintro e w22 ⟨v358, rfl, ho0, hb⟩; have n0_ := Aside0.mk (Kd.R_elder' (by (with_reducible repeat (first | apply Kd.R_alloc | apply Kd.R_drewN | apply Kd.R_drew)); exact HO338.out) (Kd.R_base ho0) hb); have n1_ := Aside0.mk (Kd.R_elder' (by (with_reducible repeat (first | apply Kd.R_alloc | apply Kd.R_drewN | apply Kd.R_drew)); exact HO347.out) (Kd.R_base ho0) hb); have n2_ := Aside0.mk (Kd.R_elder' (by (with_reducible repeat (first | apply Kd.R_alloc | apply Kd.R_drewN | apply Kd.R_drew)); exact HO351.out) (Kd.R_base ho0) hb); have n3_ := Aside0.mk (Kd.R_elder' (by (with_reducible repeat (first | apply Kd.R_alloc | apply Kd.R_drewN | apply Kd.R_drew)); exact HO355.out) (Kd.R_base ho0) hb); have n4_ := Aside0.mk (Kd.R_lower (Kd.R_new' (Kd.R_new' (Kd.R_new' (Kd.R_new' ho0 (Kd.R_lt (by (with_reducible repeat (first | apply Kd.R_alloc | apply Kd.R_drewN | apply Kd.R_drew)); exact HO338.out))) (Kd.R_lt (by (with_reducible repeat (first | apply Kd.R_alloc | apply Kd.R_drewN | apply Kd.R_drew)); exact HO347.out))) (Kd.R_lt (by (with_reducible repeat (first | apply Kd.R_alloc | apply Kd.R_drewN | apply Kd.R_drew)); exact HO351.out))) (Kd.R_lt (by (with_reducible repeat (first | apply Kd.R_alloc | apply Kd.R_drewN | apply Kd.R_drew)); exact HO355.out))) (below_size (by repeat (first | (with_reducible first | exact HB.out | apply below_alloc | apply pw_below_drewN | apply below_drew1 | refine below_set ?_ GE344.out) | exact HB.out)))); have n5_ := Aside0.mk (blk_below (g := gb344) (o := .cells #[.slice Ao14 t336.length co14, .int .i64 t339, .int .i64 t340, .int .i64 t341, .int .i64 t342, .int .i64 t343] 27 (0, 0)) (by (with_reducible repeat (first | refine blk_drewN ?_ _ | refine blk_drew ?_ | refine blk_alloc ?_ _)); exact BK344.out) hb); have n6_ := Aside0.mk (below_step (by repeat (first | (with_reducible first | exact HB.out | apply below_alloc | apply pw_below_drewN | apply below_drew1 | refine below_set ?_ GE344.out) | exact HB.out)) hb); clear HO338; clear HO347; clear HO351; clear HO355; clear BK344; clear HB; have HO338 := n0_; have HO347 := n1_; have HO351 := n2_; have HO355 := n3_; have HO359 := n4_; have BK344 := n5_; have HB := n6_; clear n0_ n1_ n2_ n3_ n4_ n5_ n6_; (try clear hb); (try clear hb2); (try clear hk); (try clear hi); (try clear ho0); have hcz23_0 : w22.cell? ⟨gb344, 0, none⟩ = some (.slice Ao14 t336.length co14) := (blk_cell BK344.out 0).trans rfl; have hcz23_1 : w22.cell? ⟨gb344, 1, none⟩ = some (.int .i64 t339) := (blk_cell BK344.out 1).trans rfl; have hcz23_2 : w22.cell? ⟨gb344, 2, none⟩ = some (.int .i64 t340) := (blk_cell BK344.out 2).trans rfl; have hcz23_3 : w22.cell? ⟨gb344, 3, none⟩ = some (.int .i64 t341) := (blk_cell BK344.out 3).trans rfl; have hcz23_4 : w22.cell? ⟨gb344, 4, none⟩ = some (.int .i64 t342) := (blk_cell BK344.out 4).trans rfl; have hcz23_5 : w22.cell? ⟨gb344, 5, none⟩ = some (.int .i64 t343) := (blk_cell BK344.out 5).trans rfl; have hfz23_0 := blk_frozen BK344.out 0; have hfz23_1 := blk_frozen BK344.out 1; have hfz23_2 := blk_frozen BK344.out 2; have hfz23_3 := blk_frozen BK344.out 3; have hfz23_4 := blk_frozen BK344.out 4; have hfz23_5 := blk_frozen BK344.out 5) | (go_at_call 22; (with_reducible refine (impl_BlindSeats.calls k _ _ t336 t339 t340 t341 t342 t343 t361 t362 t363 _ ?side1 ?side2 A9.out).mono ?_); (case side1 => repeat (first | exact (Kd.R_reads' HO338.out).2.2 | (with_reducible refine Kd.C_alloc ?_ _) | (with_reducible refine Kd.C_drewN ?_ _) | (with_reducible refine Kd.C_drew ?_))); (case side2 => exact (Kd.R_reads' HO338.out).2.1); rintro e w24 ⟨rfl, hb⟩; have n0_ := Aside0.mk (Kd.R_below (by (with_reducible repeat (first | apply Kd.R_alloc | apply Kd.R_drewN | apply Kd.R_drew)); exact HO338.out) hb); have n1_ := Aside0.mk (Kd.R_below (by (with_reducible repeat (first | apply Kd.R_alloc | apply Kd.R_drewN | apply Kd.R_drew)); exact HO347.out) hb); have n2_ := Aside0.mk (Kd.R_below (by (with_reducible repeat (first | apply Kd.R_alloc | apply Kd.R_drewN | apply Kd.R_drew)); exact HO351.out) hb); have n3_ := Aside0.mk (Kd.R_below (by (with_reducible repeat (first | apply Kd.R_alloc | apply Kd.R_drewN | apply Kd.R_drew)); exact HO355.out) hb); have n4_ := Aside0.mk (Kd.R_below (by (with_reducible repeat (first | apply Kd.R_alloc | apply Kd.R_drewN | apply Kd.R_drew)); exact HO359.out) hb); have n5_ := Aside0.mk (blk_below (g := gb344) (o := .cells #[.slice Ao14 t336.length co14, .int .i64 t339, .int .i64 t340, .int .i64 t341, .int .i64 t342, .int .i64 t343] 27 (0, 0)) (by (with_reducible repeat (first | refine blk_drewN ?_ _ | refine blk_drew ?_ | refine blk_alloc ?_ _)); exact BK344.out) hb); have n6_ := Aside0.mk (below_step (by repeat (first | (with_reducible first | exact HB.out | apply below_alloc | apply pw_below_drewN | apply below_drew1 | refine below_set ?_ GE344.out) | exact HB.out)) hb); clear HO338; clear HO347; clear HO351; clear HO355; clear HO359; clear BK344; clear HB; have HO338 := n0_; have HO347 := n1_; have HO351 := n2_; have HO355 := n3_; have HO359 := n4_; have BK344 := n5_; have HB := n6_; clear n0_ n1_ n2_ n3_ n4_ n5_ n6_; (try clear hb); (try clear hb2); (try clear hk); (try clear hi); have hcz25_0 : w24.cell? ⟨gb344, 0, none⟩ = some (.slice Ao14 t336.length co14) := (blk_cell BK344.out 0).trans rfl; have hcz25_1 : w24.cell? ⟨gb344, 1, none⟩ = some (.int .i64 t339) := (blk_cell BK344.out 1).trans rfl; have hcz25_2 : w24.cell? ⟨gb344, 2, none⟩ = some (.int .i64 t340) := (blk_cell BK344.out 2).trans rfl; have hcz25_3 : w24.cell? ⟨gb344, 3, none⟩ = some (.int .i64 t341) := (blk_cell BK344.out 3).trans rfl; have hcz25_4 : w24.cell? ⟨gb344, 4, none⟩ = some (.int .i64 t342) := (blk_cell BK344.out 4).trans rfl; have hcz25_5 : w24.cell? ⟨gb344, 5, none⟩ = some (.int .i64 t343) := (blk_cell BK344.out 5).trans rfl; have hfz25_0 := blk_frozen BK344.out 0; have hfz25_1 := blk_frozen BK344.out 1; have hfz25_2 := blk_frozen BK344.out 2; have hfz25_3 := blk_frozen BK344.out 3; have hfz25_4 := blk_frozen BK344.out 4; have hfz25_5 := blk_frozen BK344.out 5) | (go_at_call 21; (with_reducible refine (spec_BlindSeats.calls k _ _ t336 t339 t340 t341 t342 t343 t364 t365 t366 _ ?side1 ?side2 A10.out).mono ?_); (case side1 => repeat (first | exact (Kd.R_reads' HO338.out).2.2 | (with_reducible refine Kd.C_alloc ?_ _) | (with_reducible refine Kd.C_drewN ?_ _) | (with_reducible refine Kd.C_drew ?_))); (case side2 => exact (Kd.R_reads' HO338.out).2.1); rintro e w26 ⟨rfl, hb⟩; have n0_ := Aside0.mk (Kd.R_below (by (with_reducible repeat (first | apply Kd.R_alloc | apply Kd.R_drewN | apply Kd.R_drew)); exact HO338.out) hb); have n1_ := Aside0.mk (Kd.R_below (by (with_reducible repeat (first | apply Kd.R_alloc | apply Kd.R_drewN | apply Kd.R_drew)); exact HO347.out) hb); have n2_ := Aside0.mk (Kd.R_below (by (with_reducible repeat (first | apply Kd.R_alloc | apply Kd.R_drewN | apply Kd.R_drew)); exact HO351.out) hb); have n3_ := Aside0.mk (Kd.R_below (by (with_reducible repeat (first | apply Kd.R_alloc | apply Kd.R_drewN | apply Kd.R_drew)); exact HO355.out) hb); have n4_ := Aside0.mk (Kd.R_below (by (with_reducible repeat (first | apply Kd.R_alloc | apply Kd.R_drewN | apply Kd.R_drew)); exact HO359.out) hb); have n5_ := Aside0.mk (blk_below (g := gb344) (o := .cells #[.slice Ao14 t336.length co14, .int .i64 t339, .int .i64 t340, .int .i64 t341, .int .i64 t342, .int .i64 t343] 27 (0, 0)) (by (with_reducible repeat (first | refine blk_drewN ?_ _ | refine blk_drew ?_ | refine blk_alloc ?_ _)); exact BK344.out) hb); have n6_ := Aside0.mk (below_step (by repeat (first | (with_reducible first | exact HB.out | apply below_alloc | apply pw_below_drewN | apply below_drew1 | refine below_set ?_ GE344.out) | exact HB.out)) hb); clear HO338; clear HO347; clear HO351; clear HO355; clear HO359; clear BK344; clear HB; have HO338 := n0_; have HO347 := n1_; have HO351 := n2_; have HO355 := n3_; have HO359 := n4_; have BK344 := n5_; have HB := n6_; clear n0_ n1_ n2_ n3_ n4_ n5_ n6_; (try clear hb); (try clear hb2); (try clear hk); (try clear hi))); go_upto_region 10 with (first | (go_at_call 39; (with_reducible refine (laws_big.calls _ _ l0 false _ ?side1 ?side2 A2.out).mono ?_); (case side1 => repeat (first | exact HR0.out | (with_reducible refine Kd.C_alloc ?_ _) | (with_reducible refine Kd.C_drewN ?_ _) | (with_reducible refine Kd.C_drew ?_))); (case side2 => exact HC0.out); rintro e w' ⟨rfl, ⟨nd, rfl⟩⟩; (try first | exact ⟨rfl, _, World.drewN_drewN _ _ _⟩ | exact ⟨rfl, _, Eq.trans (World.drewN_drewN _ _ _) (congrArg (World.drewN _) (Nat.add_assoc _ _ _))⟩)) | (go_at_call 40; (with_reducible refine (spec_DrawBlindsOf.calls k _ _ l0 t336 t339 t340 t341 t342 t343 _ ?side1 ?side2 A4.out).mono ?_); (case side1 => repeat (first | exact HR0.out | (with_reducible refine Kd.C_alloc ?_ _) | (with_reducible refine Kd.C_drewN ?_ _) | (with_reducible refine Kd.C_drew ?_))); (case side2 => exact HC0.out); rintro e w12 ⟨v337, rfl, ho0, hb⟩; have n0_ := Aside0.mk (Kd.R_lower ho0 (below_size (by repeat (first | (with_reducible first | exact HB.out | apply below_alloc | apply pw_below_drewN | apply below_drew1) | exact HB.out)))); have n1_ := Aside0.mk (below_step (by repeat (first | (with_reducible first | exact HB.out | apply below_alloc | apply pw_below_drewN | apply below_drew1) | exact HB.out)) hb); clear HB; have HO338 := n0_; have HB := n1_; clear n0_ n1_; (try clear hb); (try clear hb2); (try clear hk); (try clear hi); (try clear ho0)) | ((with_reducible refine gate_dst (N := 3) rfl ?_); refine box_event ?hg (N := 3) ?hd (cs := #[.slice none 0 0, .int .i64 0, .int .i64 0, .int .i64 0, .int .i64 0, .int .i64 0]) (t := 27) ?hr ?_; (case hd => rfl); (case hg => rfl); (case hr => first | (go_simp; done) | (go_simp; rfl)); intro gb344 hg w13 hbox hb; have n0_ := Aside0.mk (Kd.R_below (by (with_reducible repeat (first | apply Kd.R_alloc | apply Kd.R_drewN | apply Kd.R_drew)); exact HO338.out) hb); have n1_ := Aside0.mk (below_step (by repeat (first | (with_reducible first | exact HB.out | apply below_alloc | apply pw_below_drewN | apply below_drew1) | exact HB.out)) hb); have n2_ := Aside0.mk (hbox); have n3_ := Aside0.mk ((by rw [hg]; exact (below_size (by repeat (first | (with_reducible first | exact HB.out | apply below_alloc | apply pw_below_drewN | apply below_drew1) | exact HB.out))) : w.heap.size ≤ gb344)); have n4_ := Aside0.mk ((by rw [hg]; exact (below_size (by repeat (first | (with_reducible first | exact HB.out | apply below_alloc | apply pw_below_drewN | apply below_drew1) | exact HB.out))) : w.heap.size ≤ gb344)); clear HO338; clear HB; have HO338 := n0_; have HB := n1_; have BK344 := n2_; have GW344 := n3_; have GE344 := n4_; clear n0_ n1_ n2_ n3_ n4_; clear hb hbox hg; obtain ⟨Ao14, co14, eo14⟩ := Kd.R_slice HO338.out; subst eo14; have hcz15_0 : w13.cell? ⟨gb344, 0, none⟩ = some (.slice none 0 0) := (blk_cell BK344.out 0).trans rfl; have hcz15_1 : w13.cell? ⟨gb344, 1, none⟩ = some (.int .i64 0) := (blk_cell BK344.out 1).trans rfl; have hcz15_2 : w13.cell? ⟨gb344, 2, none⟩ = some (.int .i64 0) := (blk_cell BK344.out 2).trans rfl; have hcz15_3 : w13.cell? ⟨gb344, 3, none⟩ = some (.int .i64 0) := (blk_cell BK344.out 3).trans rfl; have hcz15_4 : w13.cell? ⟨gb344, 4, none⟩ = some (.int .i64 0) := (blk_cell BK344.out 4).trans rfl; have hcz15_5 : w13.cell? ⟨gb344, 5, none⟩ = some (.int .i64 0) := (blk_cell BK344.out 5).trans rfl; have hfz15_0 := blk_frozen BK344.out 0; have hfz15_1 := blk_frozen BK344.out 1; have hfz15_2 := blk_frozen BK344.out 2; have hfz15_3 := blk_frozen BK344.out 3; have hfz15_4 := blk_frozen BK344.out 4; have hfz15_5 := blk_frozen BK344.out 5) | (go_at_call 34; (with_reducible refine (impl_BlindsOf.calls k _ _ t336 t339 t340 t341 t342 t343 t345 t348 _ ?side1 ?side2 A5.out).mono ?_); (case side1 => refine (Kd.R_reads' (e := 2) (base := w.heap.size) (ok := fun k_ => True) (n := t336.length) (c := co14) ?_).2.2; exact (by (with_reducible repeat (first | apply Kd.R_alloc | apply Kd.R_drewN | apply Kd.R_drew)); exact (Kd.R_mono (Kd.R_far (p := ⟨gb344, 5, none⟩) (Kd.R_far (p := ⟨gb344, 4, none⟩) (Kd.R_far (p := ⟨gb344, 3, none⟩) (Kd.R_far (p := ⟨gb344, 2, none⟩) (Kd.R_far (p := ⟨gb344, 1, none⟩) (Kd.R_far (p := ⟨gb344, 0, none⟩) (Kd.R_types HO338.out BK344.out (by decide)) (fun _ hk => hk.2) (.slice Ao14 t336.length co14)) (fun _ hk => hk.2) (.int .i64 t339)) (fun _ hk => hk.2) (.int .i64 t340)) (fun _ hk => hk.2) (.int .i64 t341)) (fun _ hk => hk.2) (.int .i64 t342)) (fun _ hk => hk.2) (.int .i64 t343)) (fun _ h_ => h_.1)))); (case side2 => exact (Kd.R_reads' HO338.out).2.1); rintro e w16 ⟨v346, rfl, ho0, hb⟩; have n0_ := Aside0.mk (Kd.R_elder' (by (with_reducible repeat (first | apply Kd.R_alloc | apply Kd.R_drewN | apply Kd.R_drew)); exact (Kd.R_mono (Kd.R_far (p := ⟨gb344, 5, none⟩) (Kd.R_far (p := ⟨gb344, 4, none⟩) (Kd.R_far (p := ⟨gb344, 3, none⟩) (Kd.R_far (p := ⟨gb344, 2, none⟩) (Kd.R_far (p := ⟨gb344, 1, none⟩) (Kd.R_far (p := ⟨gb344, 0, none⟩) (Kd.R_types HO338.out BK344.out (by decide)) (fun _ hk => hk.2) (.slice Ao14 t336.length co14)) (fun _ hk => hk.2) (.int .i64 t339)) (fun _ hk => hk.2) (.int .i64 t340)) (fun _ hk => hk.2) (.int .i64 t341)) (fun _ hk => hk.2) (.int .i64 t342)) (fun _ hk => hk.2) (.int .i64 t343)) (fun _ h_ => h_.1))) (Kd.R_base ho0) hb); have n1_ := Aside0.mk (Kd.R_lower (Kd.R_new' ho0 (Kd.R_lt (by (with_reducible repeat (first | apply Kd.R_alloc | apply Kd.R_drewN | apply Kd.R_drew)); exact (Kd.R_mono (Kd.R_far (p := ⟨gb344, 5, none⟩) (Kd.R_far (p := ⟨gb344, 4, none⟩) (Kd.R_far (p := ⟨gb344, 3, none⟩) (Kd.R_far (p := ⟨gb344, 2, none⟩) (Kd.R_far (p := ⟨gb344, 1, none⟩) (Kd.R_far (p := ⟨gb344, 0, none⟩) (Kd.R_types HO338.out BK344.out (by decide)) (fun _ hk => hk.2) (.slice Ao14 t336.length co14)) (fun _ hk => hk.2) (.int .i64 t339)) (fun _ hk => hk.2) (.int .i64 t340)) (fun _ hk => hk.2) (.int .i64 t341)) (fun _ hk => hk.2) (.int .i64 t342)) (fun _ hk => hk.2) (.int .i64 t343)) (fun _ h_ => h_.1))))) (below_size (by repeat (first | (with_reducible first | exact HB.out | apply below_alloc | apply pw_below_drewN | apply below_drew1 | refine below_set ?_ GE344.out) | exact HB.out)))); have n2_ := Aside0.mk (blk_below (g := gb344) (o := .cells #[.slice Ao14 t336.length co14, .int .i64 t339, .int .i64 t340, .int .i64 t341, .int .i64 t342, .int .i64 t343] 27 (0, 0)) (by (with_reducible repeat (first | refine blk_drewN ?_ _ | refine blk_drew ?_ | refine blk_alloc ?_ _)); refine blk_put (cs := #[.slice Ao14 t336.length co14, .int .i64 t339, .int .i64 t340, .int .i64 t341, .int .i64 t342, .int .i64 0]) ?_ 5 _ rfl; (with_reducible repeat (first | refine blk_drewN ?_ _ | refine blk_drew ?_ | refine blk_alloc ?_ _)); refine blk_put (cs := #[.slice Ao14 t336.length co14, .int .i64 t339, .int .i64 t340, .int .i64 t341, .int .i64 0, .int .i64 0]) ?_ 4 _ rfl; (with_reducible repeat (first | refine blk_drewN ?_ _ | refine blk_drew ?_ | refine blk_alloc ?_ _)); refine blk_put (cs := #[.slice Ao14 t336.length co14, .int .i64 t339, .int .i64 t340, .int .i64 0, .int .i64 0, .int .i64 0]) ?_ 3 _ rfl; (with_reducible repeat (first | refine blk_drewN ?_ _ | refine blk_drew ?_ | refine blk_alloc ?_ _)); refine blk_put (cs := #[.slice Ao14 t336.length co14, .int .i64 t339, .int .i64 0, .int .i64 0, .int .i64 0, .int .i64 0]) ?_ 2 _ rfl; (with_reducible repeat (first | refine blk_drewN ?_ _ | refine blk_drew ?_ | refine blk_alloc ?_ _)); refine blk_put (cs := #[.slice Ao14 t336.length co14, .int .i64 0, .int .i64 0, .int .i64 0, .int .i64 0, .int .i64 0]) ?_ 1 _ rfl; (with_reducible repeat (first | refine blk_drewN ?_ _ | refine blk_drew ?_ | refine blk_alloc ?_ _)); refine blk_put (cs := #[.slice none 0 0, .int .i64 0, .int .i64 0, .int .i64 0, .int .i64 0, .int .i64 0]) ?_ 0 _ rfl; (with_reducible repeat (first | refine blk_drewN ?_ _ | refine blk_drew ?_ | refine blk_alloc ?_ _)); exact BK344.out) hb); have n3_ := Aside0.mk (below_step (by repeat (first | (with_reducible first | exact HB.out | apply below_alloc | apply pw_below_drewN | apply below_drew1 | refine below_set ?_ GE344.out) | exact HB.out)) hb); clear HO338; clear BK344; clear HB; have HO338 := n0_; have HO347 := n1_; have BK344 := n2_; have HB := n3_; clear n0_ n1_ n2_ n3_; (try clear hb); (try clear hb2); (try clear hk); (try clear hi); (try clear ho0); have hcz17_0 : w16.cell? ⟨gb344, 0, none⟩ = some (.slice Ao14 t336.length co14) := (blk_cell BK344.out 0).trans rfl; have hcz17_1 : w16.cell? ⟨gb344, 1, none⟩ = some (.int .i64 t339) := (blk_cell BK344.out 1).trans rfl; have hcz17_2 : w16.cell? ⟨gb344, 2, none⟩ = some (.int .i64 t340) := (blk_cell BK344.out 2).trans rfl; have hcz17_3 : w16.cell? ⟨gb344, 3, none⟩ = some (.int .i64 t341) := (blk_cell BK344.out 3).trans rfl; have hcz17_4 : w16.cell? ⟨gb344, 4, none⟩ = some (.int .i64 t342) := (blk_cell BK344.out 4).trans rfl; have hcz17_5 : w16.cell? ⟨gb344, 5, none⟩ = some (.int .i64 t343) := (blk_cell BK344.out 5).trans rfl; have hfz17_0 := blk_frozen BK344.out 0; have hfz17_1 := blk_frozen BK344.out 1; have hfz17_2 := blk_frozen BK344.out 2; have hfz17_3 := blk_frozen BK344.out 3; have hfz17_4 := blk_frozen BK344.out 4; have hfz17_5 := blk_frozen BK344.out 5) | (go_at_call 33; (with_reducible refine (spec_BlindsOf.calls k _ _ t336 t339 t340 t341 t342 t343 t349 t352 _ ?side1 ?side2 A6.out).mono ?_); (case side1 => repeat (first | exact (Kd.R_reads' HO338.out).2.2 | (with_reducible refine Kd.C_alloc ?_ _) | (with_reducible refine Kd.C_drewN ?_ _) | (with_reducible refine Kd.C_drew ?_))); (case side2 => exact (Kd.R_reads' HO338.out).2.1); rintro e w18 ⟨v350, rfl, ho0, hb⟩; have n0_ := Aside0.mk (Kd.R_elder' (by (with_reducible repeat (first | apply Kd.R_alloc | apply Kd.R_drewN | apply Kd.R_drew)); exact HO338.out) (Kd.R_base ho0) hb); have n1_ := Aside0.mk (Kd.R_elder' (by (with_reducible repeat (first | apply Kd.R_alloc | apply Kd.R_drewN | apply Kd.R_drew)); exact HO347.out) (Kd.R_base ho0) hb); have n2_ := Aside0.mk (Kd.R_lower (Kd.R_new' (Kd.R_new' ho0 (Kd.R_lt (by (with_reducible repeat (first | apply Kd.R_alloc | apply Kd.R_drewN | apply Kd.R_drew)); exact HO338.out))) (Kd.R_lt (by (with_reducible repeat (first | apply Kd.R_alloc | apply Kd.R_drewN | apply Kd.R_drew)); exact HO347.out))) (below_size (by repeat (first | (with_reducible first | exact HB.out | apply below_alloc | apply pw_below_drewN | apply below_drew1 | refine below_set ?_ GE344.out) | exact HB.out)))); have n3_ := Aside0.mk (blk_below (g := gb344) (o := .cells #[.slice Ao14 t336.length co14, .int .i64 t339, .int .i64 t340, .int .i64 t341, .int .i64 t342, .int .i64 t343] 27 (0, 0)) (by (with_reducible repeat (first | refine blk_drewN ?_ _ | refine blk_drew ?_ | refine blk_alloc ?_ _)); exact BK344.out) hb); have n4_ := Aside0.mk (below_step (by repeat (first | (with_reducible first | exact HB.out | apply below_alloc | apply pw_below_drewN | apply below_drew1 | refine below_set ?_ GE344.out) | exact HB.out)) hb); clear HO338; clear HO347; clear BK344; clear HB; have HO338 := n0_; have HO347 := n1_; have HO351 := n2_; have BK344 := n3_; have HB := n4_; clear n0_ n1_ n2_ n3_ n4_; (try clear hb); (try clear hb2); (try clear hk); (try clear hi); (try clear ho0); have hcz19_0 : w18.cell? ⟨gb344, 0, none⟩ = some (.slice Ao14 t336.length co14) := (blk_cell BK344.out 0).trans rfl; have hcz19_1 : w18.cell? ⟨gb344, 1, none⟩ = some (.int .i64 t339) := (blk_cell BK344.out 1).trans rfl; have hcz19_2 : w18.cell? ⟨gb344, 2, none⟩ = some (.int .i64 t340) := (blk_cell BK344.out 2).trans rfl; have hcz19_3 : w18.cell? ⟨gb344, 3, none⟩ = some (.int .i64 t341) := (blk_cell BK344.out 3).trans rfl; have hcz19_4 : w18.cell? ⟨gb344, 4, none⟩ = some (.int .i64 t342) := (blk_cell BK344.out 4).trans rfl; have hcz19_5 : w18.cell? ⟨gb344, 5, none⟩ = some (.int .i64 t343) := (blk_cell BK344.out 5).trans rfl; have hfz19_0 := blk_frozen BK344.out 0; have hfz19_1 := blk_frozen BK344.out 1; have hfz19_2 := blk_frozen BK344.out 2; have hfz19_3 := blk_frozen BK344.out 3; have hfz19_4 := blk_frozen BK344.out 4; have hfz19_5 := blk_frozen BK344.out 5) | (go_at_call 24; (with_reducible refine (impl_AntesOf.calls k _ _ t336 t339 t340 t341 t342 t343 t353 t356 _ ?side1 ?side2 A7.out).mono ?_); (case side1 => repeat (first | exact (Kd.R_reads' HO338.out).2.2 | (with_reducible refine Kd.C_alloc ?_ _) | (with_reducible refine Kd.C_drewN ?_ _) | (with_reducible refine Kd.C_drew ?_))); (case side2 => exact (Kd.R_reads' HO338.out).2.1); rintro e w20 ⟨v354, rfl, ho0, hb⟩; have n0_ := Aside0.mk (Kd.R_elder' (by (with_reducible repeat (first | apply Kd.R_alloc | apply Kd.R_drewN | apply Kd.R_drew)); exact HO338.out) (Kd.R_base ho0) hb); have n1_ := Aside0.mk (Kd.R_elder' (by (with_reducible repeat (first | apply Kd.R_alloc | apply Kd.R_drewN | apply Kd.R_drew)); exact HO347.out) (Kd.R_base ho0) hb); have n2_ := Aside0.mk (Kd.R_elder' (by (with_reducible repeat (first | apply Kd.R_alloc | apply Kd.R_drewN | apply Kd.R_drew)); exact HO351.out) (Kd.R_base ho0) hb); have n3_ := Aside0.mk (Kd.R_lower (Kd.R_new' (Kd.R_new' (Kd.R_new' ho0 (Kd.R_lt (by (with_reducible repeat (first | apply Kd.R_alloc | apply Kd.R_drewN | apply Kd.R_drew)); exact HO338.out))) (Kd.R_lt (by (with_reducible repeat (first | apply Kd.R_alloc | apply Kd.R_drewN | apply Kd.R_drew)); exact HO347.out))) (Kd.R_lt (by (with_reducible repeat (first | apply Kd.R_alloc | apply Kd.R_drewN | apply Kd.R_drew)); exact HO351.out))) (below_size (by repeat (first | (with_reducible first | exact HB.out | apply below_alloc | apply pw_below_drewN | apply below_drew1 | refine below_set ?_ GE344.out) | exact HB.out)))); have n4_ := Aside0.mk (blk_below (g := gb344) (o := .cells #[.slice Ao14 t336.length co14, .int .i64 t339, .int .i64 t340, .int .i64 t341, .int .i64 t342, .int .i64 t343] 27 (0, 0)) (by (with_reducible repeat (first | refine blk_drewN ?_ _ | refine blk_drew ?_ | refine blk_alloc ?_ _)); exact BK344.out) hb); have n5_ := Aside0.mk (below_step (by repeat (first | (with_reducible first | exact HB.out | apply below_alloc | apply pw_below_drewN | apply below_drew1 | refine below_set ?_ GE344.out) | exact HB.out)) hb); clear HO338; clear HO347; clear HO351; clear BK344; clear HB; have HO338 := n0_; have HO347 := n1_; have HO351 := n2_; have HO355 := n3_; have BK344 := n4_; have HB := n5_; clear n0_ n1_ n2_ n3_ n4_ n5_; (try clear hb); (try clear hb2); (try clear hk); (try clear hi); (try clear ho0); have hcz21_0 : w20.cell? ⟨gb344, 0, none⟩ = some (.slice Ao14 t336.length co14) := (blk_cell BK344.out 0).trans rfl; have hcz21_1 : w20.cell? ⟨gb344, 1, none⟩ = some (.int .i64 t339) := (blk_cell BK344.out 1).trans rfl; have hcz21_2 : w20.cell? ⟨gb344, 2, none⟩ = some (.int .i64 t340) := (blk_cell BK344.out 2).trans rfl; have hcz21_3 : w20.cell? ⟨gb344, 3, none⟩ = some (.int .i64 t341) := (blk_cell BK344.out 3).trans rfl; have hcz21_4 : w20.cell? ⟨gb344, 4, none⟩ = some (.int .i64 t342) := (blk_cell BK344.out 4).trans rfl; have hcz21_5 : w20.cell? ⟨gb344, 5, none⟩ = some (.int .i64 t343) := (blk_cell BK344.out 5).trans rfl; have hfz21_0 := blk_frozen BK344.out 0; have hfz21_1 := blk_frozen BK344.out 1; have hfz21_2 := blk_frozen BK344.out 2; have hfz21_3 := blk_frozen BK344.out 3; have hfz21_4 := blk_frozen BK344.out 4; have hfz21_5 := blk_frozen BK344.out 5) | (go_at_call 23; (with_reducible refine (spec_AntesOf.calls k _ _ t336 t339 t340 t341 t342 t343 t357 t360 _ ?side1 ?side2 A8.out).mono ?_); (case side1 => repeat (first | exact (Kd.R_reads' HO338.out).2.2 | (with_reducible refine Kd.C_alloc ?_ _) | (with_reducible refine Kd.C_drewN ?_ _) | (with_reducible refine Kd.C_drew ?_))); (case side2 => exact (Kd.R_reads' HO338.out).2.1); rintro e w22 ⟨v358, rfl, ho0, hb⟩; have n0_ := Aside0.mk (Kd.R_elder' (by (with_reducible repeat (first | apply Kd.R_alloc | apply Kd.R_drewN | apply Kd.R_drew)); exact HO338.out) (Kd.R_base ho0) hb); have n1_ := Aside0.mk (Kd.R_elder' (by (with_reducible repeat (first | apply Kd.R_alloc | apply Kd.R_drewN | apply Kd.R_drew)); exact HO347.out) (Kd.R_base ho0) hb); have n2_ := Aside0.mk (Kd.R_elder' (by (with_reducible repeat (first | apply Kd.R_alloc | apply Kd.R_drewN | apply Kd.R_drew)); exact HO351.out) (Kd.R_base ho0) hb); have n3_ := Aside0.mk (Kd.R_elder' (by (with_reducible repeat (first | apply Kd.R_alloc | apply Kd.R_drewN | apply Kd.R_drew)); exact HO355.out) (Kd.R_base ho0) hb); have n4_ := Aside0.mk (Kd.R_lower (Kd.R_new' (Kd.R_new' (Kd.R_new' (Kd.R_new' ho0 (Kd.R_lt (by (with_reducible repeat (first | apply Kd.R_alloc | apply Kd.R_drewN | apply Kd.R_drew)); exact HO338.out))) (Kd.R_lt (by (with_reducible repeat (first | apply Kd.R_alloc | apply Kd.R_drewN | apply Kd.R_drew)); exact HO347.out))) (Kd.R_lt (by (with_reducible repeat (first | apply Kd.R_alloc | apply Kd.R_drewN | apply Kd.R_drew)); exact HO351.out))) (Kd.R_lt (by (with_reducible repeat (first | apply Kd.R_alloc | apply Kd.R_drewN | apply Kd.R_drew)); exact HO355.out))) (below_size (by repeat (first | (with_reducible first | exact HB.out | apply below_alloc | apply pw_below_drewN | apply below_drew1 | refine below_set ?_ GE344.out) | exact HB.out)))); have n5_ := Aside0.mk (blk_below (g := gb344) (o := .cells #[.slice Ao14 t336.length co14, .int .i64 t339, .int .i64 t340, .int .i64 t341, .int .i64 t342, .int .i64 t343] 27 (0, 0)) (by (with_reducible repeat (first | refine blk_drewN ?_ _ | refine blk_drew ?_ | refine blk_alloc ?_ _)); exact BK344.out) hb); have n6_ := Aside0.mk (below_step (by repeat (first | (with_reducible first | exact HB.out | apply below_alloc | apply pw_below_drewN | apply below_drew1 | refine below_set ?_ GE344.out) | exact HB.out)) hb); clear HO338; clear HO347; clear HO351; clear HO355; clear BK344; clear HB; have HO338 := n0_; have HO347 := n1_; have HO351 := n2_; have HO355 := n3_; have HO359 := n4_; have BK344 := n5_; have HB := n6_; clear n0_ n1_ n2_ n3_ n4_ n5_ n6_; (try clear hb); (try clear hb2); (try clear hk); (try clear hi); (try clear ho0); have hcz23_0 : w22.cell? ⟨gb344, 0, none⟩ = some (.slice Ao14 t336.length co14) := (blk_cell BK344.out 0).trans rfl; have hcz23_1 : w22.cell? ⟨gb344, 1, none⟩ = some (.int .i64 t339) := (blk_cell BK344.out 1).trans rfl; have hcz23_2 : w22.cell? ⟨gb344, 2, none⟩ = some (.int .i64 t340) := (blk_cell BK344.out 2).trans rfl; have hcz23_3 : w22.cell? ⟨gb344, 3, none⟩ = some (.int .i64 t341) := (blk_cell BK344.out 3).trans rfl; have hcz23_4 : w22.cell? ⟨gb344, 4, none⟩ = some (.int .i64 t342) := (blk_cell BK344.out 4).trans rfl; have hcz23_5 : w22.cell? ⟨gb344, 5, none⟩ = some (.int .i64 t343) := (blk_cell BK344.out 5).trans rfl; have hfz23_0 := blk_frozen BK344.out 0; have hfz23_1 := blk_frozen BK344.out 1; have hfz23_2 := blk_frozen BK344.out 2; have hfz23_3 := blk_frozen BK344.out 3; have hfz23_4 := blk_frozen BK344.out 4; have hfz23_5 := blk_frozen BK344.out 5) | (go_at_call 22; (with_reducible refine (impl_BlindSeats.calls k _ _ t336 t339 t340 t341 t342 t343 t361 t362 t363 _ ?side1 ?side2 A9.out).mono ?_); (case side1 => repeat (first | exact (Kd.R_reads' HO338.out).2.2 | (with_reducible refine Kd.C_alloc ?_ _) | (with_reducible refine Kd.C_drewN ?_ _) | (with_reducible refine Kd.C_drew ?_))); (case side2 => exact (Kd.R_reads' HO338.out).2.1); rintro e w24 ⟨rfl, hb⟩; have n0_ := Aside0.mk (Kd.R_below (by (with_reducible repeat (first | apply Kd.R_alloc | apply Kd.R_drewN | apply Kd.R_drew)); exact HO338.out) hb); have n1_ := Aside0.mk (Kd.R_below (by (with_reducible repeat (first | apply Kd.R_alloc | apply Kd.R_drewN | apply Kd.R_drew)); exact HO347.out) hb); have n2_ := Aside0.mk (Kd.R_below (by (with_reducible repeat (first | apply Kd.R_alloc | apply Kd.R_drewN | apply Kd.R_drew)); exact HO351.out) hb); have n3_ := Aside0.mk (Kd.R_below (by (with_reducible repeat (first | apply Kd.R_alloc | apply Kd.R_drewN | apply Kd.R_drew)); exact HO355.out) hb); have n4_ := Aside0.mk (Kd.R_below (by (with_reducible repeat (first | apply Kd.R_alloc | apply Kd.R_drewN | apply Kd.R_drew)); exact HO359.out) hb); have n5_ := Aside0.mk (blk_below (g := gb344) (o := .cells #[.slice Ao14 t336.length co14, .int .i64 t339, .int .i64 t340, .int .i64 t341, .int .i64 t342, .int .i64 t343] 27 (0, 0)) (by (with_reducible repeat (first | refine blk_drewN ?_ _ | refine blk_drew ?_ | refine blk_alloc ?_ _)); exact BK344.out) hb); have n6_ := Aside0.mk (below_step (by repeat (first | (with_reducible first | exact HB.out | apply below_alloc | apply pw_below_drewN | apply below_drew1 | refine below_set ?_ GE344.out) | exact HB.out)) hb); clear HO338; clear HO347; clear HO351; clear HO355; clear HO359; clear BK344; clear HB; have HO338 := n0_; have HO347 := n1_; have HO351 := n2_; have HO355 := n3_; have HO359 := n4_; have BK344 := n5_; have HB := n6_; clear n0_ n1_ n2_ n3_ n4_ n5_ n6_; (try clear hb); (try clear hb2); (try clear hk); (try clear hi); have hcz25_0 : w24.cell? ⟨gb344, 0, none⟩ = some (.slice Ao14 t336.length co14) := (blk_cell BK344.out 0).trans rfl; have hcz25_1 : w24.cell? ⟨gb344, 1, none⟩ = some (.int .i64 t339) := (blk_cell BK344.out 1).trans rfl; have hcz25_2 : w24.cell? ⟨gb344, 2, none⟩ = some (.int .i64 t340) := (blk_cell BK344.out 2).trans rfl; have hcz25_3 : w24.cell? ⟨gb344, 3, none⟩ = some (.int .i64 t341) := (blk_cell BK344.out 3).trans rfl; have hcz25_4 : w24.cell? ⟨gb344, 4, none⟩ = some (.int .i64 t342) := (blk_cell BK344.out 4).trans rfl; have hcz25_5 : w24.cell? ⟨gb344, 5, none⟩ = some (.int .i64 t343) := (blk_cell BK344.out 5).trans rfl; have hfz25_0 := blk_frozen BK344.out 0; have hfz25_1 := blk_frozen BK344.out 1; have hfz25_2 := blk_frozen BK344.out 2; have hfz25_3 := blk_frozen BK344.out 3; have hfz25_4 := blk_frozen BK344.out 4; have hfz25_5 := blk_frozen BK344.out 5) | (go_at_call 21; (with_reducible refine (spec_BlindSeats.calls k _ _ t336 t339 t340 t341 t342 t343 t364 t365 t366 _ ?side1 ?side2 A10.out).mono ?_); (case side1 => repeat (first | exact (Kd.R_reads' HO338.out).2.2 | (with_reducible refine Kd.C_alloc ?_ _) | (with_reducible refine Kd.C_drewN ?_ _) | (with_reducible refine Kd.C_drew ?_))); (case side2 => exact (Kd.R_reads' HO338.out).2.1); rintro e w26 ⟨rfl, hb⟩; have n0_ := Aside0.mk (Kd.R_below (by (with_reducible repeat (first | apply Kd.R_alloc | apply Kd.R_drewN | apply Kd.R_drew)); exact HO338.out) hb); have n1_ := Aside0.mk (Kd.R_below (by (with_reducible repeat (first | apply Kd.R_alloc | apply Kd.R_drewN | apply Kd.R_drew)); exact HO347.out) hb); have n2_ := Aside0.mk (Kd.R_below (by (with_reducible repeat (first | apply Kd.R_alloc | apply Kd.R_drewN | apply Kd.R_drew)); exact HO351.out) hb); have n3_ := Aside0.mk (Kd.R_below (by (with_reducible repeat (first | apply Kd.R_alloc | apply Kd.R_drewN | apply Kd.R_drew)); exact HO355.out) hb); have n4_ := Aside0.mk (Kd.R_below (by (with_reducible repeat (first | apply Kd.R_alloc | apply Kd.R_drewN | apply Kd.R_drew)); exact HO359.out) hb); have n5_ := Aside0.mk (blk_below (g := gb344) (o := .cells #[.slice Ao14 t336.length co14, .int .i64 t339, .int .i64 t340, .int .i64 t341, .int .i64 t342, .int .i64 t343] 27 (0, 0)) (by (with_reducible repeat (first | refine blk_drewN ?_ _ | refine blk_drew ?_ | refine blk_alloc ?_ _)); exact BK344.out) hb); have n6_ := Aside0.mk (below_step (by repeat (first | (with_reducible first | exact HB.out | apply below_alloc | apply pw_below_drewN | apply below_drew1 | refine below_set ?_ GE344.out) | exact HB.out)) hb); clear HO338; clear HO347; clear HO351; clear HO355; clear HO359; clear BK344; clear HB; have HO338 := n0_; have HO347 := n1_; have HO351 := n2_; have HO355 := n3_; have HO359 := n4_; have BK344 := n5_; have HB := n6_; clear n0_ n1_ n2_ n3_ n4_ n5_ n6_; (try clear hb); (try clear hb2); (try clear hk); (try clear hi))))
    (try simp only [Act.put, List.setIfInBounds_toArray, List.set_cons_zero, List.set_cons_succ])
    go_cut [96] (fun v96 wc => ∃ (kq : Nat) (x96_10 : Bool), v96 = .bool x96_10 ∧ Aside0 (laws_FnBlinds.j0 kq t345 t348 t353 t361 t362 x96_10 t336 t339 t340 t341 t342 t343 = some r) ∧ Aside0 (kq ≤ k) ∧ Aside0 (Kd.R (Kd.int .i64) 2 wc w.heap.size (fun k_ => some k_ ≠ (v354 : Value).ownBlock ∧ some k_ ≠ ((.slice Ao14 t336.length co14) : Value).ownBlock) v346 t345) ∧ Aside0 (Kd.R (Kd.int .i64) 2 wc w.heap.size (fun k_ => some k_ ≠ (v346 : Value).ownBlock ∧ some k_ ≠ ((.slice Ao14 t336.length co14) : Value).ownBlock) v354 t353) ∧ Aside0 (Kd.R (Kd.int .i64) 2 wc w.heap.size (fun k_ => some k_ ≠ (v346 : Value).ownBlock ∧ some k_ ≠ (v354 : Value).ownBlock) (.slice Ao14 t336.length co14) t336) ∧ Aside0 (wc.heap[gb344]? = some (.cells #[(.slice Ao14 t336.length co14), .int .i64 t339, .int .i64 t340, .int .i64 t341, .int .i64 t342, .int .i64 t343] 27 (0, 0))) ∧ Aside0 (Below w.heap.size w wc))
    case first =>
      have H := HC11.out
      clear HC11
      by_cases c27 : t348 = t352
      · rw [if_pos c27] at H
        have c27b0 : (t348 == t352) = true := beq_iff_eq.mpr c27
        have c27b1 : (t348 != t352) = false := bne_eq_false_iff_eq.mpr c27
        clear c27
        (first | rw [c27b0] | (simp only [i64_w, i32_w]; rw [c27b0]) | skip)
        replace H := Option.bind_eq_some_iff.mp H
        obtain ⟨t367, A280, H⟩ := H
        replace H : (if t367 = true then (if t356 = t360 then ((laws_likeInts.f k t353 t357).bind fun t368 => (if t368 = true then (if t363 = t366 then (if t361 = t364 then (if t362 = t365 then ((impl_IsTable.f k t336 t339 t340 t341 t342 t343).bind fun t369 => (laws_FnBlinds.j0 k t345 t348 t353 t361 t362 (t369 != (t352 == 0)) t336 t339 t340 t341 t342 t343)) else (laws_FnBlinds.j0 k t345 t348 t353 t361 t362 true t336 t339 t340 t341 t342 t343)) else (laws_FnBlinds.j0 k t345 t348 t353 t361 t362 true t336 t339 t340 t341 t342 t343)) else (laws_FnBlinds.j0 k t345 t348 t353 t361 t362 true t336 t339 t340 t341 t342 t343)) else (laws_FnBlinds.j0 k t345 t348 t353 t361 t362 true t336 t339 t340 t341 t342 t343))) else (laws_FnBlinds.j0 k t345 t348 t353 t361 t362 true t336 t339 t340 t341 t342 t343)) else (laws_FnBlinds.j0 k t345 t348 t353 t361 t362 true t336 t339 t340 t341 t342 t343)) = some r := H
        have A28 := Aside0.mk A280
        clear A280
        by_cases c29 : t367 = true
        · subst c29
          have H1 : (if t356 = t360 then ((laws_likeInts.f k t353 t357).bind fun t368 => (if t368 = true then (if t363 = t366 then (if t361 = t364 then (if t362 = t365 then ((impl_IsTable.f k t336 t339 t340 t341 t342 t343).bind fun t369 => (laws_FnBlinds.j0 k t345 t348 t353 t361 t362 (t369 != (t352 == 0)) t336 t339 t340 t341 t342 t343)) else (laws_FnBlinds.j0 k t345 t348 t353 t361 t362 true t336 t339 t340 t341 t342 t343)) else (laws_FnBlinds.j0 k t345 t348 t353 t361 t362 true t336 t339 t340 t341 t342 t343)) else (laws_FnBlinds.j0 k t345 t348 t353 t361 t362 true t336 t339 t340 t341 t342 t343)) else (laws_FnBlinds.j0 k t345 t348 t353 t361 t362 true t336 t339 t340 t341 t342 t343))) else (laws_FnBlinds.j0 k t345 t348 t353 t361 t362 true t336 t339 t340 t341 t342 t343)) = some r := by rw [if_pos rfl] at H; exact H
          clear H
          have H := H1
          clear H1
          by_cases c30 : t356 = t360
          · rw [if_pos c30] at H
            have c30b0 : (t356 == t360) = true := beq_iff_eq.mpr c30
            have c30b1 : (t356 != t360) = false := bne_eq_false_iff_eq.mpr c30
            clear c30
            replace H := Option.bind_eq_some_iff.mp H
            obtain ⟨t368, A310, H⟩ := H
            replace H : (if t368 = true then (if t363 = t366 then (if t361 = t364 then (if t362 = t365 then ((impl_IsTable.f k t336 t339 t340 t341 t342 t343).bind fun t369 => (laws_FnBlinds.j0 k t345 t348 t353 t361 t362 (t369 != (t352 == 0)) t336 t339 t340 t341 t342 t343)) else (laws_FnBlinds.j0 k t345 t348 t353 t361 t362 true t336 t339 t340 t341 t342 t343)) else (laws_FnBlinds.j0 k t345 t348 t353 t361 t362 true t336 t339 t340 t341 t342 t343)) else (laws_FnBlinds.j0 k t345 t348 t353 t361 t362 true t336 t339 t340 t341 t342 t343)) else (laws_FnBlinds.j0 k t345 t348 t353 t361 t362 true t336 t339 t340 t341 t342 t343)) = some r := H
            have A31 := Aside0.mk A310
            clear A310
            by_cases c32 : t368 = true
            · subst c32
              have H1 : (if t363 = t366 then (if t361 = t364 then (if t362 = t365 then ((impl_IsTable.f k t336 t339 t340 t341 t342 t343).bind fun t369 => (laws_FnBlinds.j0 k t345 t348 t353 t361 t362 (t369 != (t352 == 0)) t336 t339 t340 t341 t342 t343)) else (laws_FnBlinds.j0 k t345 t348 t353 t361 t362 true t336 t339 t340 t341 t342 t343)) else (laws_FnBlinds.j0 k t345 t348 t353 t361 t362 true t336 t339 t340 t341 t342 t343)) else (laws_FnBlinds.j0 k t345 t348 t353 t361 t362 true t336 t339 t340 t341 t342 t343)) = some r := by rw [if_pos rfl] at H; exact H
              clear H
              have H := H1
              clear H1
              by_cases c33 : t363 = t366
              · rw [if_pos c33] at H
                have c33b0 : (t363 == t366) = true := beq_iff_eq.mpr c33
                have c33b1 : (t363 != t366) = false := bne_eq_false_iff_eq.mpr c33
                clear c33
                by_cases c34 : t361 = t364
                · rw [if_pos c34] at H
                  have c34b0 : (t361 == t364) = true := beq_iff_eq.mpr c34
                  have c34b1 : (t361 != t364) = false := bne_eq_false_iff_eq.mpr c34
                  clear c34
                  by_cases c35 : t362 = t365
                  · rw [if_pos c35] at H
                    have c35b0 : (t362 == t365) = true := beq_iff_eq.mpr c35
                    have c35b1 : (t362 != t365) = false := bne_eq_false_iff_eq.mpr c35
                    clear c35
                    replace H := Option.bind_eq_some_iff.mp H
                    obtain ⟨t369, A360, H⟩ := H
                    replace H : (laws_FnBlinds.j0 k t345 t348 t353 t361 t362 (t369 != (t352 == 0)) t336 t339 t340 t341 t342 t343) = some r := H
                    have A36 := Aside0.mk A360
                    clear A360
                    have H' := Aside0.mk H
                    clear H
                    obtain ⟨Ao37, co37, eo37⟩ := Kd.R_slice HO347.out
                    subst eo37
                    obtain ⟨Ao38, co38, eo38⟩ := Kd.R_slice HO351.out
                    subst eo38
                    go_wp2_with (first | (go_at_call 41; (with_reducible refine (laws_likeInts.calls k _ _ t345 _ _ t349 true _ ?side1 ?side2 ?side3 ?side4 A28.out).mono ?_); (case side1 => repeat (first | exact (Kd.R_reads' HO347.out).2.2 | (with_reducible refine Kd.C_alloc ?_ _) | (with_reducible refine Kd.C_drewN ?_ _) | (with_reducible refine Kd.C_drew ?_))); (case side2 => exact (Kd.R_reads' HO347.out).2.1); (case side3 => repeat (first | exact (Kd.R_reads' HO351.out).2.2 | (with_reducible refine Kd.C_alloc ?_ _) | (with_reducible refine Kd.C_drewN ?_ _) | (with_reducible refine Kd.C_drew ?_))); (case side4 => exact (Kd.R_reads' HO351.out).2.1); rintro e w' ⟨rfl, ⟨nd, rfl⟩⟩; (try first | exact ⟨rfl, _, World.drewN_drewN _ _ _⟩ | exact ⟨rfl, _, Eq.trans (World.drewN_drewN _ _ _) (congrArg (World.drewN _) (Nat.add_assoc _ _ _))⟩); obtain ⟨Ao39, co39, eo39⟩ := Kd.R_slice HO355.out; subst eo39; obtain ⟨Ao40, co40, eo40⟩ := Kd.R_slice HO359.out; subst eo40) | (go_at_call 41; (with_reducible refine (laws_likeInts.calls k _ _ t353 _ _ t357 true _ ?side1 ?side2 ?side3 ?side4 A31.out).mono ?_); (case side1 => repeat (first | exact (Kd.R_reads' HO355.out).2.2 | (with_reducible refine Kd.C_alloc ?_ _) | (with_reducible refine Kd.C_drewN ?_ _) | (with_reducible refine Kd.C_drew ?_))); (case side2 => exact (Kd.R_reads' HO355.out).2.1); (case side3 => repeat (first | exact (Kd.R_reads' HO359.out).2.2 | (with_reducible refine Kd.C_alloc ?_ _) | (with_reducible refine Kd.C_drewN ?_ _) | (with_reducible refine Kd.C_drew ?_))); (case side4 => exact (Kd.R_reads' HO359.out).2.1); rintro e w' ⟨rfl, ⟨nd, rfl⟩⟩; (try first | exact ⟨rfl, _, World.drewN_drewN _ _ _⟩ | exact ⟨rfl, _, Eq.trans (World.drewN_drewN _ _ _) (congrArg (World.drewN _) (Nat.add_assoc _ _ _))⟩); have hcz41_0 : w26.cell? ⟨gb344, 0, none⟩ = some (.slice Ao14 t336.length co14) := (blk_cell BK344.out 0).trans rfl; have hcz41_1 : w26.cell? ⟨gb344, 1, none⟩ = some (.int .i64 t339) := (blk_cell BK344.out 1).trans rfl; have hcz41_2 : w26.cell? ⟨gb344, 2, none⟩ = some (.int .i64 t340) := (blk_cell BK344.out 2).trans rfl; have hcz41_3 : w26.cell? ⟨gb344, 3, none⟩ = some (.int .i64 t341) := (blk_cell BK344.out 3).trans rfl; have hcz41_4 : w26.cell? ⟨gb344, 4, none⟩ = some (.int .i64 t342) := (blk_cell BK344.out 4).trans rfl; have hcz41_5 : w26.cell? ⟨gb344, 5, none⟩ = some (.int .i64 t343) := (blk_cell BK344.out 5).trans rfl; have hfz41_0 := blk_frozen BK344.out 0; have hfz41_1 := blk_frozen BK344.out 1; have hfz41_2 := blk_frozen BK344.out 2; have hfz41_3 := blk_frozen BK344.out 3; have hfz41_4 := blk_frozen BK344.out 4; have hfz41_5 := blk_frozen BK344.out 5) | (go_at_call 17; (with_reducible refine (impl_IsTable.calls k _ _ t336 t339 t340 t341 t342 t343 t369 _ ?side1 ?side2 A36.out).mono ?_); (case side1 => repeat (first | exact (Kd.R_reads' HO338.out).2.2 | (with_reducible refine Kd.C_alloc ?_ _) | (with_reducible refine Kd.C_drewN ?_ _) | (with_reducible refine Kd.C_drew ?_))); (case side2 => exact (Kd.R_reads' HO338.out).2.1); rintro e w42 ⟨rfl, hb⟩; have n0_ := Aside0.mk (Kd.R_below (by (with_reducible repeat (first | apply Kd.R_alloc | apply Kd.R_drewN | apply Kd.R_drew)); exact HO338.out) hb); have n1_ := Aside0.mk (Kd.R_below (by (with_reducible repeat (first | apply Kd.R_alloc | apply Kd.R_drewN | apply Kd.R_drew)); exact HO347.out) hb); have n2_ := Aside0.mk (Kd.R_below (by (with_reducible repeat (first | apply Kd.R_alloc | apply Kd.R_drewN | apply Kd.R_drew)); exact HO351.out) hb); have n3_ := Aside0.mk (Kd.R_below (by (with_reducible repeat (first | apply Kd.R_alloc | apply Kd.R_drewN | apply Kd.R_drew)); exact HO355.out) hb); have n4_ := Aside0.mk (Kd.R_below (by (with_reducible repeat (first | apply Kd.R_alloc | apply Kd.R_drewN | apply Kd.R_drew)); exact HO359.out) hb); have n5_ := Aside0.mk (blk_below (g := gb344) (o := .cells #[.slice Ao14 t336.length co14, .int .i64 t339, .int .i64 t340, .int .i64 t341, .int .i64 t342, .int .i64 t343] 27 (0, 0)) (by (with_reducible repeat (first | refine blk_drewN ?_ _ | refine blk_drew ?_ | refine blk_alloc ?_ _)); exact BK344.out) hb); have n6_ := Aside0.mk (below_step (by repeat (first | (with_reducible first | exact HB.out | apply below_alloc | apply pw_below_drewN | apply below_drew1 | refine below_set ?_ GE344.out) | exact HB.out)) hb); clear HO338; clear HO347; clear HO351; clear HO355; clear HO359; clear BK344; clear HB; have HO338 := n0_; have HO347 := n1_; have HO351 := n2_; have HO355 := n3_; have HO359 := n4_; have BK344 := n5_; have HB := n6_; clear n0_ n1_ n2_ n3_ n4_ n5_ n6_; (try clear hb); (try clear hb2); (try clear hk); (try clear hi)))
                    repeat (go_quiet (first | (go_at_call 41; (with_reducible refine (laws_likeInts.calls k _ _ t345 _ _ t349 true _ ?side1 ?side2 ?side3 ?side4 A28.out).mono ?_); (case side1 => repeat (first | exact (Kd.R_reads' HO347.out).2.2 | (with_reducible refine Kd.C_alloc ?_ _) | (with_reducible refine Kd.C_drewN ?_ _) | (with_reducible refine Kd.C_drew ?_))); (case side2 => exact (Kd.R_reads' HO347.out).2.1); (case side3 => repeat (first | exact (Kd.R_reads' HO351.out).2.2 | (with_reducible refine Kd.C_alloc ?_ _) | (with_reducible refine Kd.C_drewN ?_ _) | (with_reducible refine Kd.C_drew ?_))); (case side4 => exact (Kd.R_reads' HO351.out).2.1); rintro e w' ⟨rfl, ⟨nd, rfl⟩⟩; (try first | exact ⟨rfl, _, World.drewN_drewN _ _ _⟩ | exact ⟨rfl, _, Eq.trans (World.drewN_drewN _ _ _) (congrArg (World.drewN _) (Nat.add_assoc _ _ _))⟩); obtain ⟨Ao39, co39, eo39⟩ := Kd.R_slice HO355.out; subst eo39; obtain ⟨Ao40, co40, eo40⟩ := Kd.R_slice HO359.out; subst eo40) | (go_at_call 41; (with_reducible refine (laws_likeInts.calls k _ _ t353 _ _ t357 true _ ?side1 ?side2 ?side3 ?side4 A31.out).mono ?_); (case side1 => repeat (first | exact (Kd.R_reads' HO355.out).2.2 | (with_reducible refine Kd.C_alloc ?_ _) | (with_reducible refine Kd.C_drewN ?_ _) | (with_reducible refine Kd.C_drew ?_))); (case side2 => exact (Kd.R_reads' HO355.out).2.1); (case side3 => repeat (first | exact (Kd.R_reads' HO359.out).2.2 | (with_reducible refine Kd.C_alloc ?_ _) | (with_reducible refine Kd.C_drewN ?_ _) | (with_reducible refine Kd.C_drew ?_))); (case side4 => exact (Kd.R_reads' HO359.out).2.1); rintro e w' ⟨rfl, ⟨nd, rfl⟩⟩; (try first | exact ⟨rfl, _, World.drewN_drewN _ _ _⟩ | exact ⟨rfl, _, Eq.trans (World.drewN_drewN _ _ _) (congrArg (World.drewN _) (Nat.add_assoc _ _ _))⟩); have hcz41_0 : w26.cell? ⟨gb344, 0, none⟩ = some (.slice Ao14 t336.length co14) := (blk_cell BK344.out 0).trans rfl; have hcz41_1 : w26.cell? ⟨gb344, 1, none⟩ = some (.int .i64 t339) := (blk_cell BK344.out 1).trans rfl; have hcz41_2 : w26.cell? ⟨gb344, 2, none⟩ = some (.int .i64 t340) := (blk_cell BK344.out 2).trans rfl; have hcz41_3 : w26.cell? ⟨gb344, 3, none⟩ = some (.int .i64 t341) := (blk_cell BK344.out 3).trans rfl; have hcz41_4 : w26.cell? ⟨gb344, 4, none⟩ = some (.int .i64 t342) := (blk_cell BK344.out 4).trans rfl; have hcz41_5 : w26.cell? ⟨gb344, 5, none⟩ = some (.int .i64 t343) := (blk_cell BK344.out 5).trans rfl; have hfz41_0 := blk_frozen BK344.out 0; have hfz41_1 := blk_frozen BK344.out 1; have hfz41_2 := blk_frozen BK344.out 2; have hfz41_3 := blk_frozen BK344.out 3; have hfz41_4 := blk_frozen BK344.out 4; have hfz41_5 := blk_frozen BK344.out 5) | (go_at_call 17; (with_reducible refine (impl_IsTable.calls k _ _ t336 t339 t340 t341 t342 t343 t369 _ ?side1 ?side2 A36.out).mono ?_); (case side1 => repeat (first | exact (Kd.R_reads' HO338.out).2.2 | (with_reducible refine Kd.C_alloc ?_ _) | (with_reducible refine Kd.C_drewN ?_ _) | (with_reducible refine Kd.C_drew ?_))); (case side2 => exact (Kd.R_reads' HO338.out).2.1); rintro e w42 ⟨rfl, hb⟩; have n0_ := Aside0.mk (Kd.R_below (by (with_reducible repeat (first | apply Kd.R_alloc | apply Kd.R_drewN | apply Kd.R_drew)); exact HO338.out) hb); have n1_ := Aside0.mk (Kd.R_below (by (with_reducible repeat (first | apply Kd.R_alloc | apply Kd.R_drewN | apply Kd.R_drew)); exact HO347.out) hb); have n2_ := Aside0.mk (Kd.R_below (by (with_reducible repeat (first | apply Kd.R_alloc | apply Kd.R_drewN | apply Kd.R_drew)); exact HO351.out) hb); have n3_ := Aside0.mk (Kd.R_below (by (with_reducible repeat (first | apply Kd.R_alloc | apply Kd.R_drewN | apply Kd.R_drew)); exact HO355.out) hb); have n4_ := Aside0.mk (Kd.R_below (by (with_reducible repeat (first | apply Kd.R_alloc | apply Kd.R_drewN | apply Kd.R_drew)); exact HO359.out) hb); have n5_ := Aside0.mk (blk_below (g := gb344) (o := .cells #[.slice Ao14 t336.length co14, .int .i64 t339, .int .i64 t340, .int .i64 t341, .int .i64 t342, .int .i64 t343] 27 (0, 0)) (by (with_reducible repeat (first | refine blk_drewN ?_ _ | refine blk_drew ?_ | refine blk_alloc ?_ _)); exact BK344.out) hb); have n6_ := Aside0.mk (below_step (by repeat (first | (with_reducible first | exact HB.out | apply below_alloc | apply pw_below_drewN | apply below_drew1 | refine below_set ?_ GE344.out) | exact HB.out)) hb); clear HO338; clear HO347; clear HO351; clear HO355; clear HO359; clear BK344; clear HB; have HO338 := n0_; have HO347 := n1_; have HO351 := n2_; have HO355 := n3_; have HO359 := n4_; have BK344 := n5_; have HB := n6_; clear n0_ n1_ n2_ n3_ n4_ n5_ n6_; (try clear hb); (try clear hb2); (try clear hk); (try clear hi))); try go_wp2_with (first | (go_at_call 41; (with_reducible refine (laws_likeInts.calls k _ _ t345 _ _ t349 true _ ?side1 ?side2 ?side3 ?side4 A28.out).mono ?_); (case side1 => repeat (first | exact (Kd.R_reads' HO347.out).2.2 | (with_reducible refine Kd.C_alloc ?_ _) | (with_reducible refine Kd.C_drewN ?_ _) | (with_reducible refine Kd.C_drew ?_))); (case side2 => exact (Kd.R_reads' HO347.out).2.1); (case side3 => repeat (first | exact (Kd.R_reads' HO351.out).2.2 | (with_reducible refine Kd.C_alloc ?_ _) | (with_reducible refine Kd.C_drewN ?_ _) | (with_reducible refine Kd.C_drew ?_))); (case side4 => exact (Kd.R_reads' HO351.out).2.1); rintro e w' ⟨rfl, ⟨nd, rfl⟩⟩; (try first | exact ⟨rfl, _, World.drewN_drewN _ _ _⟩ | exact ⟨rfl, _, Eq.trans (World.drewN_drewN _ _ _) (congrArg (World.drewN _) (Nat.add_assoc _ _ _))⟩); obtain ⟨Ao39, co39, eo39⟩ := Kd.R_slice HO355.out; subst eo39; obtain ⟨Ao40, co40, eo40⟩ := Kd.R_slice HO359.out; subst eo40) | (go_at_call 41; (with_reducible refine (laws_likeInts.calls k _ _ t353 _ _ t357 true _ ?side1 ?side2 ?side3 ?side4 A31.out).mono ?_); (case side1 => repeat (first | exact (Kd.R_reads' HO355.out).2.2 | (with_reducible refine Kd.C_alloc ?_ _) | (with_reducible refine Kd.C_drewN ?_ _) | (with_reducible refine Kd.C_drew ?_))); (case side2 => exact (Kd.R_reads' HO355.out).2.1); (case side3 => repeat (first | exact (Kd.R_reads' HO359.out).2.2 | (with_reducible refine Kd.C_alloc ?_ _) | (with_reducible refine Kd.C_drewN ?_ _) | (with_reducible refine Kd.C_drew ?_))); (case side4 => exact (Kd.R_reads' HO359.out).2.1); rintro e w' ⟨rfl, ⟨nd, rfl⟩⟩; (try first | exact ⟨rfl, _, World.drewN_drewN _ _ _⟩ | exact ⟨rfl, _, Eq.trans (World.drewN_drewN _ _ _) (congrArg (World.drewN _) (Nat.add_assoc _ _ _))⟩); have hcz41_0 : w26.cell? ⟨gb344, 0, none⟩ = some (.slice Ao14 t336.length co14) := (blk_cell BK344.out 0).trans rfl; have hcz41_1 : w26.cell? ⟨gb344, 1, none⟩ = some (.int .i64 t339) := (blk_cell BK344.out 1).trans rfl; have hcz41_2 : w26.cell? ⟨gb344, 2, none⟩ = some (.int .i64 t340) := (blk_cell BK344.out 2).trans rfl; have hcz41_3 : w26.cell? ⟨gb344, 3, none⟩ = some (.int .i64 t341) := (blk_cell BK344.out 3).trans rfl; have hcz41_4 : w26.cell? ⟨gb344, 4, none⟩ = some (.int .i64 t342) := (blk_cell BK344.out 4).trans rfl; have hcz41_5 : w26.cell? ⟨gb344, 5, none⟩ = some (.int .i64 t343) := (blk_cell BK344.out 5).trans rfl; have hfz41_0 := blk_frozen BK344.out 0; have hfz41_1 := blk_frozen BK344.out 1; have hfz41_2 := blk_frozen BK344.out 2; have hfz41_3 := blk_frozen BK344.out 3; have hfz41_4 := blk_frozen BK344.out 4; have hfz41_5 := blk_frozen BK344.out 5) | (go_at_call 17; (with_reducible refine (impl_IsTable.calls k _ _ t336 t339 t340 t341 t342 t343 t369 _ ?side1 ?side2 A36.out).mono ?_); (case side1 => repeat (first | exact (Kd.R_reads' HO338.out).2.2 | (with_reducible refine Kd.C_alloc ?_ _) | (with_reducible refine Kd.C_drewN ?_ _) | (with_reducible refine Kd.C_drew ?_))); (case side2 => exact (Kd.R_reads' HO338.out).2.1); rintro e w42 ⟨rfl, hb⟩; have n0_ := Aside0.mk (Kd.R_below (by (with_reducible repeat (first | apply Kd.R_alloc | apply Kd.R_drewN | apply Kd.R_drew)); exact HO338.out) hb); have n1_ := Aside0.mk (Kd.R_below (by (with_reducible repeat (first | apply Kd.R_alloc | apply Kd.R_drewN | apply Kd.R_drew)); exact HO347.out) hb); have n2_ := Aside0.mk (Kd.R_below (by (with_reducible repeat (first | apply Kd.R_alloc | apply Kd.R_drewN | apply Kd.R_drew)); exact HO351.out) hb); have n3_ := Aside0.mk (Kd.R_below (by (with_reducible repeat (first | apply Kd.R_alloc | apply Kd.R_drewN | apply Kd.R_drew)); exact HO355.out) hb); have n4_ := Aside0.mk (Kd.R_below (by (with_reducible repeat (first | apply Kd.R_alloc | apply Kd.R_drewN | apply Kd.R_drew)); exact HO359.out) hb); have n5_ := Aside0.mk (blk_below (g := gb344) (o := .cells #[.slice Ao14 t336.length co14, .int .i64 t339, .int .i64 t340, .int .i64 t341, .int .i64 t342, .int .i64 t343] 27 (0, 0)) (by (with_reducible repeat (first | refine blk_drewN ?_ _ | refine blk_drew ?_ | refine blk_alloc ?_ _)); exact BK344.out) hb); have n6_ := Aside0.mk (below_step (by repeat (first | (with_reducible first | exact HB.out | apply below_alloc | apply pw_below_drewN | apply below_drew1 | refine below_set ?_ GE344.out) | exact HB.out)) hb); clear HO338; clear HO347; clear HO351; clear HO355; clear HO359; clear BK344; clear HB; have HO338 := n0_; have HO347 := n1_; have HO351 := n2_; have HO355 := n3_; have HO359 := n4_; have BK344 := n5_; have HB := n6_; clear n0_ n1_ n2_ n3_ n4_ n5_ n6_; (try clear hb); (try clear hb2); (try clear hk); (try clear hi))))
                    go_meet
                    case rel => exact ⟨_, ((t369 != (t352 == 0))), (by first | rfl | (simp; done) | (simp [*]; done)), H', ⟨by first | omega | exact Nat.le_refl _⟩, ⟨by (with_reducible repeat (first | apply Kd.R_alloc | apply Kd.R_drewN | apply Kd.R_drew)); exact Kd.R_mono HO347.out (fun _ hk => ⟨hk.1.2, hk.1.1.1.2⟩)⟩, ⟨by (with_reducible repeat (first | apply Kd.R_alloc | apply Kd.R_drewN | apply Kd.R_drew)); exact Kd.R_mono HO355.out (fun _ hk => ⟨hk.1.1.2, hk.1.1.1.2⟩)⟩, ⟨by (with_reducible repeat (first | apply Kd.R_alloc | apply Kd.R_drewN | apply Kd.R_drew)); exact Kd.R_mono HO338.out (fun _ hk => ⟨hk.1.1.1.2, hk.1.2⟩)⟩, ⟨by (with_reducible repeat (first | refine blk_drewN ?_ _ | refine blk_drew ?_ | refine blk_alloc ?_ _)); exact BK344.out⟩, ⟨by repeat (first | (with_reducible first | exact HB.out | apply below_alloc | apply pw_below_drewN | apply below_drew1 | refine below_set ?_ GE344.out) | exact HB.out)⟩⟩
                  · rw [if_neg c35] at H
                    have c35b0 : (t362 == t365) = false := beq_eq_false_iff_ne.mpr c35
                    have c35b1 : (t362 != t365) = true := bne_iff_ne.mpr c35
                    have H' := Aside0.mk H
                    clear H
                    obtain ⟨Ao43, co43, eo43⟩ := Kd.R_slice HO347.out
                    subst eo43
                    obtain ⟨Ao44, co44, eo44⟩ := Kd.R_slice HO351.out
                    subst eo44
                    go_wp2_with (first | (go_at_call 41; (with_reducible refine (laws_likeInts.calls k _ _ t345 _ _ t349 true _ ?side1 ?side2 ?side3 ?side4 A28.out).mono ?_); (case side1 => repeat (first | exact (Kd.R_reads' HO347.out).2.2 | (with_reducible refine Kd.C_alloc ?_ _) | (with_reducible refine Kd.C_drewN ?_ _) | (with_reducible refine Kd.C_drew ?_))); (case side2 => exact (Kd.R_reads' HO347.out).2.1); (case side3 => repeat (first | exact (Kd.R_reads' HO351.out).2.2 | (with_reducible refine Kd.C_alloc ?_ _) | (with_reducible refine Kd.C_drewN ?_ _) | (with_reducible refine Kd.C_drew ?_))); (case side4 => exact (Kd.R_reads' HO351.out).2.1); rintro e w' ⟨rfl, ⟨nd, rfl⟩⟩; (try first | exact ⟨rfl, _, World.drewN_drewN _ _ _⟩ | exact ⟨rfl, _, Eq.trans (World.drewN_drewN _ _ _) (congrArg (World.drewN _) (Nat.add_assoc _ _ _))⟩); obtain ⟨Ao45, co45, eo45⟩ := Kd.R_slice HO355.out; subst eo45; obtain ⟨Ao46, co46, eo46⟩ := Kd.R_slice HO359.out; subst eo46) | (go_at_call 41; (with_reducible refine (laws_likeInts.calls k _ _ t353 _ _ t357 true _ ?side1 ?side2 ?side3 ?side4 A31.out).mono ?_); (case side1 => repeat (first | exact (Kd.R_reads' HO355.out).2.2 | (with_reducible refine Kd.C_alloc ?_ _) | (with_reducible refine Kd.C_drewN ?_ _) | (with_reducible refine Kd.C_drew ?_))); (case side2 => exact (Kd.R_reads' HO355.out).2.1); (case side3 => repeat (first | exact (Kd.R_reads' HO359.out).2.2 | (with_reducible refine Kd.C_alloc ?_ _) | (with_reducible refine Kd.C_drewN ?_ _) | (with_reducible refine Kd.C_drew ?_))); (case side4 => exact (Kd.R_reads' HO359.out).2.1); rintro e w' ⟨rfl, ⟨nd, rfl⟩⟩; (try first | exact ⟨rfl, _, World.drewN_drewN _ _ _⟩ | exact ⟨rfl, _, Eq.trans (World.drewN_drewN _ _ _) (congrArg (World.drewN _) (Nat.add_assoc _ _ _))⟩)))
                    repeat (go_quiet (first | (go_at_call 41; (with_reducible refine (laws_likeInts.calls k _ _ t345 _ _ t349 true _ ?side1 ?side2 ?side3 ?side4 A28.out).mono ?_); (case side1 => repeat (first | exact (Kd.R_reads' HO347.out).2.2 | (with_reducible refine Kd.C_alloc ?_ _) | (with_reducible refine Kd.C_drewN ?_ _) | (with_reducible refine Kd.C_drew ?_))); (case side2 => exact (Kd.R_reads' HO347.out).2.1); (case side3 => repeat (first | exact (Kd.R_reads' HO351.out).2.2 | (with_reducible refine Kd.C_alloc ?_ _) | (with_reducible refine Kd.C_drewN ?_ _) | (with_reducible refine Kd.C_drew ?_))); (case side4 => exact (Kd.R_reads' HO351.out).2.1); rintro e w' ⟨rfl, ⟨nd, rfl⟩⟩; (try first | exact ⟨rfl, _, World.drewN_drewN _ _ _⟩ | exact ⟨rfl, _, Eq.trans (World.drewN_drewN _ _ _) (congrArg (World.drewN _) (Nat.add_assoc _ _ _))⟩); obtain ⟨Ao45, co45, eo45⟩ := Kd.R_slice HO355.out; subst eo45; obtain ⟨Ao46, co46, eo46⟩ := Kd.R_slice HO359.out; subst eo46) | (go_at_call 41; (with_reducible refine (laws_likeInts.calls k _ _ t353 _ _ t357 true _ ?side1 ?side2 ?side3 ?side4 A31.out).mono ?_); (case side1 => repeat (first | exact (Kd.R_reads' HO355.out).2.2 | (with_reducible refine Kd.C_alloc ?_ _) | (with_reducible refine Kd.C_drewN ?_ _) | (with_reducible refine Kd.C_drew ?_))); (case side2 => exact (Kd.R_reads' HO355.out).2.1); (case side3 => repeat (first | exact (Kd.R_reads' HO359.out).2.2 | (with_reducible refine Kd.C_alloc ?_ _) | (with_reducible refine Kd.C_drewN ?_ _) | (with_reducible refine Kd.C_drew ?_))); (case side4 => exact (Kd.R_reads' HO359.out).2.1); rintro e w' ⟨rfl, ⟨nd, rfl⟩⟩; (try first | exact ⟨rfl, _, World.drewN_drewN _ _ _⟩ | exact ⟨rfl, _, Eq.trans (World.drewN_drewN _ _ _) (congrArg (World.drewN _) (Nat.add_assoc _ _ _))⟩))); try go_wp2_with (first | (go_at_call 41; (with_reducible refine (laws_likeInts.calls k _ _ t345 _ _ t349 true _ ?side1 ?side2 ?side3 ?side4 A28.out).mono ?_); (case side1 => repeat (first | exact (Kd.R_reads' HO347.out).2.2 | (with_reducible refine Kd.C_alloc ?_ _) | (with_reducible refine Kd.C_drewN ?_ _) | (with_reducible refine Kd.C_drew ?_))); (case side2 => exact (Kd.R_reads' HO347.out).2.1); (case side3 => repeat (first | exact (Kd.R_reads' HO351.out).2.2 | (with_reducible refine Kd.C_alloc ?_ _) | (with_reducible refine Kd.C_drewN ?_ _) | (with_reducible refine Kd.C_drew ?_))); (case side4 => exact (Kd.R_reads' HO351.out).2.1); rintro e w' ⟨rfl, ⟨nd, rfl⟩⟩; (try first | exact ⟨rfl, _, World.drewN_drewN _ _ _⟩ | exact ⟨rfl, _, Eq.trans (World.drewN_drewN _ _ _) (congrArg (World.drewN _) (Nat.add_assoc _ _ _))⟩); obtain ⟨Ao45, co45, eo45⟩ := Kd.R_slice HO355.out; subst eo45; obtain ⟨Ao46, co46, eo46⟩ := Kd.R_slice HO359.out; subst eo46) | (go_at_call 41; (with_reducible refine (laws_likeInts.calls k _ _ t353 _ _ t357 true _ ?side1 ?side2 ?side3 ?side4 A31.out).mono ?_); (case side1 => repeat (first | exact (Kd.R_reads' HO355.out).2.2 | (with_reducible refine Kd.C_alloc ?_ _) | (with_reducible refine Kd.C_drewN ?_ _) | (with_reducible refine Kd.C_drew ?_))); (case side2 => exact (Kd.R_reads' HO355.out).2.1); (case side3 => repeat (first | exact (Kd.R_reads' HO359.out).2.2 | (with_reducible refine Kd.C_alloc ?_ _) | (with_reducible refine Kd.C_drewN ?_ _) | (with_reducible refine Kd.C_drew ?_))); (case side4 => exact (Kd.R_reads' HO359.out).2.1); rintro e w' ⟨rfl, ⟨nd, rfl⟩⟩; (try first | exact ⟨rfl, _, World.drewN_drewN _ _ _⟩ | exact ⟨rfl, _, Eq.trans (World.drewN_drewN _ _ _) (congrArg (World.drewN _) (Nat.add_assoc _ _ _))⟩))))
                    go_meet
                    case rel => exact ⟨_, (true), (by first | rfl | (simp; done) | (simp [*]; done)), H', ⟨by first | omega | exact Nat.le_refl _⟩, ⟨by (with_reducible repeat (first | apply Kd.R_alloc | apply Kd.R_drewN | apply Kd.R_drew)); exact Kd.R_mono HO347.out (fun _ hk => ⟨hk.1.2, hk.1.1.1.2⟩)⟩, ⟨by (with_reducible repeat (first | apply Kd.R_alloc | apply Kd.R_drewN | apply Kd.R_drew)); exact Kd.R_mono HO355.out (fun _ hk => ⟨hk.1.1.2, hk.1.1.1.2⟩)⟩, ⟨by (with_reducible repeat (first | apply Kd.R_alloc | apply Kd.R_drewN | apply Kd.R_drew)); exact Kd.R_mono HO338.out (fun _ hk => ⟨hk.1.1.1.2, hk.1.2⟩)⟩, ⟨by (with_reducible repeat (first | refine blk_drewN ?_ _ | refine blk_drew ?_ | refine blk_alloc ?_ _)); exact BK344.out⟩, ⟨by repeat (first | (with_reducible first | exact HB.out | apply below_alloc | apply pw_below_drewN | apply below_drew1 | refine below_set ?_ GE344.out) | exact HB.out)⟩⟩
                · rw [if_neg c34] at H
                  have c34b0 : (t361 == t364) = false := beq_eq_false_iff_ne.mpr c34
                  have c34b1 : (t361 != t364) = true := bne_iff_ne.mpr c34
                  have H' := Aside0.mk H
                  clear H
                  obtain ⟨Ao47, co47, eo47⟩ := Kd.R_slice HO347.out
                  subst eo47
                  obtain ⟨Ao48, co48, eo48⟩ := Kd.R_slice HO351.out
                  subst eo48
                  go_wp2_with (first | (go_at_call 41; (with_reducible refine (laws_likeInts.calls k _ _ t345 _ _ t349 true _ ?side1 ?side2 ?side3 ?side4 A28.out).mono ?_); (case side1 => repeat (first | exact (Kd.R_reads' HO347.out).2.2 | (with_reducible refine Kd.C_alloc ?_ _) | (with_reducible refine Kd.C_drewN ?_ _) | (with_reducible refine Kd.C_drew ?_))); (case side2 => exact (Kd.R_reads' HO347.out).2.1); (case side3 => repeat (first | exact (Kd.R_reads' HO351.out).2.2 | (with_reducible refine Kd.C_alloc ?_ _) | (with_reducible refine Kd.C_drewN ?_ _) | (with_reducible refine Kd.C_drew ?_))); (case side4 => exact (Kd.R_reads' HO351.out).2.1); rintro e w' ⟨rfl, ⟨nd, rfl⟩⟩; (try first | exact ⟨rfl, _, World.drewN_drewN _ _ _⟩ | exact ⟨rfl, _, Eq.trans (World.drewN_drewN _ _ _) (congrArg (World.drewN _) (Nat.add_assoc _ _ _))⟩); obtain ⟨Ao49, co49, eo49⟩ := Kd.R_slice HO355.out; subst eo49; obtain ⟨Ao50, co50, eo50⟩ := Kd.R_slice HO359.out; subst eo50) | (go_at_call 41; (with_reducible refine (laws_likeInts.calls k _ _ t353 _ _ t357 true _ ?side1 ?side2 ?side3 ?side4 A31.out).mono ?_); (case side1 => repeat (first | exact (Kd.R_reads' HO355.out).2.2 | (with_reducible refine Kd.C_alloc ?_ _) | (with_reducible refine Kd.C_drewN ?_ _) | (with_reducible refine Kd.C_drew ?_))); (case side2 => exact (Kd.R_reads' HO355.out).2.1); (case side3 => repeat (first | exact (Kd.R_reads' HO359.out).2.2 | (with_reducible refine Kd.C_alloc ?_ _) | (with_reducible refine Kd.C_drewN ?_ _) | (with_reducible refine Kd.C_drew ?_))); (case side4 => exact (Kd.R_reads' HO359.out).2.1); rintro e w' ⟨rfl, ⟨nd, rfl⟩⟩; (try first | exact ⟨rfl, _, World.drewN_drewN _ _ _⟩ | exact ⟨rfl, _, Eq.trans (World.drewN_drewN _ _ _) (congrArg (World.drewN _) (Nat.add_assoc _ _ _))⟩)))
                  repeat (go_quiet (first | (go_at_call 41; (with_reducible refine (laws_likeInts.calls k _ _ t345 _ _ t349 true _ ?side1 ?side2 ?side3 ?side4 A28.out).mono ?_); (case side1 => repeat (first | exact (Kd.R_reads' HO347.out).2.2 | (with_reducible refine Kd.C_alloc ?_ _) | (with_reducible refine Kd.C_drewN ?_ _) | (with_reducible refine Kd.C_drew ?_))); (case side2 => exact (Kd.R_reads' HO347.out).2.1); (case side3 => repeat (first | exact (Kd.R_reads' HO351.out).2.2 | (with_reducible refine Kd.C_alloc ?_ _) | (with_reducible refine Kd.C_drewN ?_ _) | (with_reducible refine Kd.C_drew ?_))); (case side4 => exact (Kd.R_reads' HO351.out).2.1); rintro e w' ⟨rfl, ⟨nd, rfl⟩⟩; (try first | exact ⟨rfl, _, World.drewN_drewN _ _ _⟩ | exact ⟨rfl, _, Eq.trans (World.drewN_drewN _ _ _) (congrArg (World.drewN _) (Nat.add_assoc _ _ _))⟩); obtain ⟨Ao49, co49, eo49⟩ := Kd.R_slice HO355.out; subst eo49; obtain ⟨Ao50, co50, eo50⟩ := Kd.R_slice HO359.out; subst eo50) | (go_at_call 41; (with_reducible refine (laws_likeInts.calls k _ _ t353 _ _ t357 true _ ?side1 ?side2 ?side3 ?side4 A31.out).mono ?_); (case side1 => repeat (first | exact (Kd.R_reads' HO355.out).2.2 | (with_reducible refine Kd.C_alloc ?_ _) | (with_reducible refine Kd.C_drewN ?_ _) | (with_reducible refine Kd.C_drew ?_))); (case side2 => exact (Kd.R_reads' HO355.out).2.1); (case side3 => repeat (first | exact (Kd.R_reads' HO359.out).2.2 | (with_reducible refine Kd.C_alloc ?_ _) | (with_reducible refine Kd.C_drewN ?_ _) | (with_reducible refine Kd.C_drew ?_))); (case side4 => exact (Kd.R_reads' HO359.out).2.1); rintro e w' ⟨rfl, ⟨nd, rfl⟩⟩; (try first | exact ⟨rfl, _, World.drewN_drewN _ _ _⟩ | exact ⟨rfl, _, Eq.trans (World.drewN_drewN _ _ _) (congrArg (World.drewN _) (Nat.add_assoc _ _ _))⟩))); try go_wp2_with (first | (go_at_call 41; (with_reducible refine (laws_likeInts.calls k _ _ t345 _ _ t349 true _ ?side1 ?side2 ?side3 ?side4 A28.out).mono ?_); (case side1 => repeat (first | exact (Kd.R_reads' HO347.out).2.2 | (with_reducible refine Kd.C_alloc ?_ _) | (with_reducible refine Kd.C_drewN ?_ _) | (with_reducible refine Kd.C_drew ?_))); (case side2 => exact (Kd.R_reads' HO347.out).2.1); (case side3 => repeat (first | exact (Kd.R_reads' HO351.out).2.2 | (with_reducible refine Kd.C_alloc ?_ _) | (with_reducible refine Kd.C_drewN ?_ _) | (with_reducible refine Kd.C_drew ?_))); (case side4 => exact (Kd.R_reads' HO351.out).2.1); rintro e w' ⟨rfl, ⟨nd, rfl⟩⟩; (try first | exact ⟨rfl, _, World.drewN_drewN _ _ _⟩ | exact ⟨rfl, _, Eq.trans (World.drewN_drewN _ _ _) (congrArg (World.drewN _) (Nat.add_assoc _ _ _))⟩); obtain ⟨Ao49, co49, eo49⟩ := Kd.R_slice HO355.out; subst eo49; obtain ⟨Ao50, co50, eo50⟩ := Kd.R_slice HO359.out; subst eo50) | (go_at_call 41; (with_reducible refine (laws_likeInts.calls k _ _ t353 _ _ t357 true _ ?side1 ?side2 ?side3 ?side4 A31.out).mono ?_); (case side1 => repeat (first | exact (Kd.R_reads' HO355.out).2.2 | (with_reducible refine Kd.C_alloc ?_ _) | (with_reducible refine Kd.C_drewN ?_ _) | (with_reducible refine Kd.C_drew ?_))); (case side2 => exact (Kd.R_reads' HO355.out).2.1); (case side3 => repeat (first | exact (Kd.R_reads' HO359.out).2.2 | (with_reducible refine Kd.C_alloc ?_ _) | (with_reducible refine Kd.C_drewN ?_ _) | (with_reducible refine Kd.C_drew ?_))); (case side4 => exact (Kd.R_reads' HO359.out).2.1); rintro e w' ⟨rfl, ⟨nd, rfl⟩⟩; (try first | exact ⟨rfl, _, World.drewN_drewN _ _ _⟩ | exact ⟨rfl, _, Eq.trans (World.drewN_drewN _ _ _) (congrArg (World.drewN _) (Nat.add_assoc _ _ _))⟩))))
                  go_meet
                  case rel => exact ⟨_, (true), (by first | rfl | (simp; done) | (simp [*]; done)), H', ⟨by first | omega | exact Nat.le_refl _⟩, ⟨by (with_reducible repeat (first | apply Kd.R_alloc | apply Kd.R_drewN | apply Kd.R_drew)); exact Kd.R_mono HO347.out (fun _ hk => ⟨hk.1.2, hk.1.1.1.2⟩)⟩, ⟨by (with_reducible repeat (first | apply Kd.R_alloc | apply Kd.R_drewN | apply Kd.R_drew)); exact Kd.R_mono HO355.out (fun _ hk => ⟨hk.1.1.2, hk.1.1.1.2⟩)⟩, ⟨by (with_reducible repeat (first | apply Kd.R_alloc | apply Kd.R_drewN | apply Kd.R_drew)); exact Kd.R_mono HO338.out (fun _ hk => ⟨hk.1.1.1.2, hk.1.2⟩)⟩, ⟨by (with_reducible repeat (first | refine blk_drewN ?_ _ | refine blk_drew ?_ | refine blk_alloc ?_ _)); exact BK344.out⟩, ⟨by repeat (first | (with_reducible first | exact HB.out | apply below_alloc | apply pw_below_drewN | apply below_drew1 | refine below_set ?_ GE344.out) | exact HB.out)⟩⟩
              · rw [if_neg c33] at H
                have c33b0 : (t363 == t366) = false := beq_eq_false_iff_ne.mpr c33
                have c33b1 : (t363 != t366) = true := bne_iff_ne.mpr c33
                have H' := Aside0.mk H
                clear H
                obtain ⟨Ao51, co51, eo51⟩ := Kd.R_slice HO347.out
                subst eo51
                obtain ⟨Ao52, co52, eo52⟩ := Kd.R_slice HO351.out
                subst eo52
                go_wp2_with (first | (go_at_call 41; (with_reducible refine (laws_likeInts.calls k _ _ t345 _ _ t349 true _ ?side1 ?side2 ?side3 ?side4 A28.out).mono ?_); (case side1 => repeat (first | exact (Kd.R_reads' HO347.out).2.2 | (with_reducible refine Kd.C_alloc ?_ _) | (with_reducible refine Kd.C_drewN ?_ _) | (with_reducible refine Kd.C_drew ?_))); (case side2 => exact (Kd.R_reads' HO347.out).2.1); (case side3 => repeat (first | exact (Kd.R_reads' HO351.out).2.2 | (with_reducible refine Kd.C_alloc ?_ _) | (with_reducible refine Kd.C_drewN ?_ _) | (with_reducible refine Kd.C_drew ?_))); (case side4 => exact (Kd.R_reads' HO351.out).2.1); rintro e w' ⟨rfl, ⟨nd, rfl⟩⟩; (try first | exact ⟨rfl, _, World.drewN_drewN _ _ _⟩ | exact ⟨rfl, _, Eq.trans (World.drewN_drewN _ _ _) (congrArg (World.drewN _) (Nat.add_assoc _ _ _))⟩); obtain ⟨Ao53, co53, eo53⟩ := Kd.R_slice HO355.out; subst eo53; obtain ⟨Ao54, co54, eo54⟩ := Kd.R_slice HO359.out; subst eo54) | (go_at_call 41; (with_reducible refine (laws_likeInts.calls k _ _ t353 _ _ t357 true _ ?side1 ?side2 ?side3 ?side4 A31.out).mono ?_); (case side1 => repeat (first | exact (Kd.R_reads' HO355.out).2.2 | (with_reducible refine Kd.C_alloc ?_ _) | (with_reducible refine Kd.C_drewN ?_ _) | (with_reducible refine Kd.C_drew ?_))); (case side2 => exact (Kd.R_reads' HO355.out).2.1); (case side3 => repeat (first | exact (Kd.R_reads' HO359.out).2.2 | (with_reducible refine Kd.C_alloc ?_ _) | (with_reducible refine Kd.C_drewN ?_ _) | (with_reducible refine Kd.C_drew ?_))); (case side4 => exact (Kd.R_reads' HO359.out).2.1); rintro e w' ⟨rfl, ⟨nd, rfl⟩⟩; (try first | exact ⟨rfl, _, World.drewN_drewN _ _ _⟩ | exact ⟨rfl, _, Eq.trans (World.drewN_drewN _ _ _) (congrArg (World.drewN _) (Nat.add_assoc _ _ _))⟩)))
                repeat (go_quiet (first | (go_at_call 41; (with_reducible refine (laws_likeInts.calls k _ _ t345 _ _ t349 true _ ?side1 ?side2 ?side3 ?side4 A28.out).mono ?_); (case side1 => repeat (first | exact (Kd.R_reads' HO347.out).2.2 | (with_reducible refine Kd.C_alloc ?_ _) | (with_reducible refine Kd.C_drewN ?_ _) | (with_reducible refine Kd.C_drew ?_))); (case side2 => exact (Kd.R_reads' HO347.out).2.1); (case side3 => repeat (first | exact (Kd.R_reads' HO351.out).2.2 | (with_reducible refine Kd.C_alloc ?_ _) | (with_reducible refine Kd.C_drewN ?_ _) | (with_reducible refine Kd.C_drew ?_))); (case side4 => exact (Kd.R_reads' HO351.out).2.1); rintro e w' ⟨rfl, ⟨nd, rfl⟩⟩; (try first | exact ⟨rfl, _, World.drewN_drewN _ _ _⟩ | exact ⟨rfl, _, Eq.trans (World.drewN_drewN _ _ _) (congrArg (World.drewN _) (Nat.add_assoc _ _ _))⟩); obtain ⟨Ao53, co53, eo53⟩ := Kd.R_slice HO355.out; subst eo53; obtain ⟨Ao54, co54, eo54⟩ := Kd.R_slice HO359.out; subst eo54) | (go_at_call 41; (with_reducible refine (laws_likeInts.calls k _ _ t353 _ _ t357 true _ ?side1 ?side2 ?side3 ?side4 A31.out).mono ?_); (case side1 => repeat (first | exact (Kd.R_reads' HO355.out).2.2 | (with_reducible refine Kd.C_alloc ?_ _) | (with_reducible refine Kd.C_drewN ?_ _) | (with_reducible refine Kd.C_drew ?_))); (case side2 => exact (Kd.R_reads' HO355.out).2.1); (case side3 => repeat (first | exact (Kd.R_reads' HO359.out).2.2 | (with_reducible refine Kd.C_alloc ?_ _) | (with_reducible refine Kd.C_drewN ?_ _) | (with_reducible refine Kd.C_drew ?_))); (case side4 => exact (Kd.R_reads' HO359.out).2.1); rintro e w' ⟨rfl, ⟨nd, rfl⟩⟩; (try first | exact ⟨rfl, _, World.drewN_drewN _ _ _⟩ | exact ⟨rfl, _, Eq.trans (World.drewN_drewN _ _ _) (congrArg (World.drewN _) (Nat.add_assoc _ _ _))⟩))); try go_wp2_with (first | (go_at_call 41; (with_reducible refine (laws_likeInts.calls k _ _ t345 _ _ t349 true _ ?side1 ?side2 ?side3 ?side4 A28.out).mono ?_); (case side1 => repeat (first | exact (Kd.R_reads' HO347.out).2.2 | (with_reducible refine Kd.C_alloc ?_ _) | (with_reducible refine Kd.C_drewN ?_ _) | (with_reducible refine Kd.C_drew ?_))); (case side2 => exact (Kd.R_reads' HO347.out).2.1); (case side3 => repeat (first | exact (Kd.R_reads' HO351.out).2.2 | (with_reducible refine Kd.C_alloc ?_ _) | (with_reducible refine Kd.C_drewN ?_ _) | (with_reducible refine Kd.C_drew ?_))); (case side4 => exact (Kd.R_reads' HO351.out).2.1); rintro e w' ⟨rfl, ⟨nd, rfl⟩⟩; (try first | exact ⟨rfl, _, World.drewN_drewN _ _ _⟩ | exact ⟨rfl, _, Eq.trans (World.drewN_drewN _ _ _) (congrArg (World.drewN _) (Nat.add_assoc _ _ _))⟩); obtain ⟨Ao53, co53, eo53⟩ := Kd.R_slice HO355.out; subst eo53; obtain ⟨Ao54, co54, eo54⟩ := Kd.R_slice HO359.out; subst eo54) | (go_at_call 41; (with_reducible refine (laws_likeInts.calls k _ _ t353 _ _ t357 true _ ?side1 ?side2 ?side3 ?side4 A31.out).mono ?_); (case side1 => repeat (first | exact (Kd.R_reads' HO355.out).2.2 | (with_reducible refine Kd.C_alloc ?_ _) | (with_reducible refine Kd.C_drewN ?_ _) | (with_reducible refine Kd.C_drew ?_))); (case side2 => exact (Kd.R_reads' HO355.out).2.1); (case side3 => repeat (first | exact (Kd.R_reads' HO359.out).2.2 | (with_reducible refine Kd.C_alloc ?_ _) | (with_reducible refine Kd.C_drewN ?_ _) | (with_reducible refine Kd.C_drew ?_))); (case side4 => exact (Kd.R_reads' HO359.out).2.1); rintro e w' ⟨rfl, ⟨nd, rfl⟩⟩; (try first | exact ⟨rfl, _, World.drewN_drewN _ _ _⟩ | exact ⟨rfl, _, Eq.trans (World.drewN_drewN _ _ _) (congrArg (World.drewN _) (Nat.add_assoc _ _ _))⟩))))
                go_meet
                case rel => exact ⟨_, (true), (by first | rfl | (simp; done) | (simp [*]; done)), H', ⟨by first | omega | exact Nat.le_refl _⟩, ⟨by (with_reducible repeat (first | apply Kd.R_alloc | apply Kd.R_drewN | apply Kd.R_drew)); exact Kd.R_mono HO347.out (fun _ hk => ⟨hk.1.2, hk.1.1.1.2⟩)⟩, ⟨by (with_reducible repeat (first | apply Kd.R_alloc | apply Kd.R_drewN | apply Kd.R_drew)); exact Kd.R_mono HO355.out (fun _ hk => ⟨hk.1.1.2, hk.1.1.1.2⟩)⟩, ⟨by (with_reducible repeat (first | apply Kd.R_alloc | apply Kd.R_drewN | apply Kd.R_drew)); exact Kd.R_mono HO338.out (fun _ hk => ⟨hk.1.1.1.2, hk.1.2⟩)⟩, ⟨by (with_reducible repeat (first | refine blk_drewN ?_ _ | refine blk_drew ?_ | refine blk_alloc ?_ _)); exact BK344.out⟩, ⟨by repeat (first | (with_reducible first | exact HB.out | apply below_alloc | apply pw_below_drewN | apply below_drew1 | refine below_set ?_ GE344.out) | exact HB.out)⟩⟩
            · replace c32 := Bool.eq_false_iff.mpr c32
              subst c32
              have H1 : (laws_FnBlinds.j0 k t345 t348 t353 t361 t362 true t336 t339 t340 t341 t342 t343) = some r := by rw [if_neg (show ¬ (false = true) by decide)] at H; exact H
              clear H
              have H := H1
              clear H1
              have H' := Aside0.mk H
              clear H
              obtain ⟨Ao55, co55, eo55⟩ := Kd.R_slice HO347.out
              subst eo55
              obtain ⟨Ao56, co56, eo56⟩ := Kd.R_slice HO351.out
              subst eo56
              go_wp2_with (first | (go_at_call 41; (with_reducible refine (laws_likeInts.calls k _ _ t345 _ _ t349 true _ ?side1 ?side2 ?side3 ?side4 A28.out).mono ?_); (case side1 => repeat (first | exact (Kd.R_reads' HO347.out).2.2 | (with_reducible refine Kd.C_alloc ?_ _) | (with_reducible refine Kd.C_drewN ?_ _) | (with_reducible refine Kd.C_drew ?_))); (case side2 => exact (Kd.R_reads' HO347.out).2.1); (case side3 => repeat (first | exact (Kd.R_reads' HO351.out).2.2 | (with_reducible refine Kd.C_alloc ?_ _) | (with_reducible refine Kd.C_drewN ?_ _) | (with_reducible refine Kd.C_drew ?_))); (case side4 => exact (Kd.R_reads' HO351.out).2.1); rintro e w' ⟨rfl, ⟨nd, rfl⟩⟩; (try first | exact ⟨rfl, _, World.drewN_drewN _ _ _⟩ | exact ⟨rfl, _, Eq.trans (World.drewN_drewN _ _ _) (congrArg (World.drewN _) (Nat.add_assoc _ _ _))⟩); obtain ⟨Ao57, co57, eo57⟩ := Kd.R_slice HO355.out; subst eo57; obtain ⟨Ao58, co58, eo58⟩ := Kd.R_slice HO359.out; subst eo58) | (go_at_call 41; (with_reducible refine (laws_likeInts.calls k _ _ t353 _ _ t357 false _ ?side1 ?side2 ?side3 ?side4 A31.out).mono ?_); (case side1 => repeat (first | exact (Kd.R_reads' HO355.out).2.2 | (with_reducible refine Kd.C_alloc ?_ _) | (with_reducible refine Kd.C_drewN ?_ _) | (with_reducible refine Kd.C_drew ?_))); (case side2 => exact (Kd.R_reads' HO355.out).2.1); (case side3 => repeat (first | exact (Kd.R_reads' HO359.out).2.2 | (with_reducible refine Kd.C_alloc ?_ _) | (with_reducible refine Kd.C_drewN ?_ _) | (with_reducible refine Kd.C_drew ?_))); (case side4 => exact (Kd.R_reads' HO359.out).2.1); rintro e w' ⟨rfl, ⟨nd, rfl⟩⟩; (try first | exact ⟨rfl, _, World.drewN_drewN _ _ _⟩ | exact ⟨rfl, _, Eq.trans (World.drewN_drewN _ _ _) (congrArg (World.drewN _) (Nat.add_assoc _ _ _))⟩)))
              repeat (go_quiet (first | (go_at_call 41; (with_reducible refine (laws_likeInts.calls k _ _ t345 _ _ t349 true _ ?side1 ?side2 ?side3 ?side4 A28.out).mono ?_); (case side1 => repeat (first | exact (Kd.R_reads' HO347.out).2.2 | (with_reducible refine Kd.C_alloc ?_ _) | (with_reducible refine Kd.C_drewN ?_ _) | (with_reducible refine Kd.C_drew ?_))); (case side2 => exact (Kd.R_reads' HO347.out).2.1); (case side3 => repeat (first | exact (Kd.R_reads' HO351.out).2.2 | (with_reducible refine Kd.C_alloc ?_ _) | (with_reducible refine Kd.C_drewN ?_ _) | (with_reducible refine Kd.C_drew ?_))); (case side4 => exact (Kd.R_reads' HO351.out).2.1); rintro e w' ⟨rfl, ⟨nd, rfl⟩⟩; (try first | exact ⟨rfl, _, World.drewN_drewN _ _ _⟩ | exact ⟨rfl, _, Eq.trans (World.drewN_drewN _ _ _) (congrArg (World.drewN _) (Nat.add_assoc _ _ _))⟩); obtain ⟨Ao57, co57, eo57⟩ := Kd.R_slice HO355.out; subst eo57; obtain ⟨Ao58, co58, eo58⟩ := Kd.R_slice HO359.out; subst eo58) | (go_at_call 41; (with_reducible refine (laws_likeInts.calls k _ _ t353 _ _ t357 false _ ?side1 ?side2 ?side3 ?side4 A31.out).mono ?_); (case side1 => repeat (first | exact (Kd.R_reads' HO355.out).2.2 | (with_reducible refine Kd.C_alloc ?_ _) | (with_reducible refine Kd.C_drewN ?_ _) | (with_reducible refine Kd.C_drew ?_))); (case side2 => exact (Kd.R_reads' HO355.out).2.1); (case side3 => repeat (first | exact (Kd.R_reads' HO359.out).2.2 | (with_reducible refine Kd.C_alloc ?_ _) | (with_reducible refine Kd.C_drewN ?_ _) | (with_reducible refine Kd.C_drew ?_))); (case side4 => exact (Kd.R_reads' HO359.out).2.1); rintro e w' ⟨rfl, ⟨nd, rfl⟩⟩; (try first | exact ⟨rfl, _, World.drewN_drewN _ _ _⟩ | exact ⟨rfl, _, Eq.trans (World.drewN_drewN _ _ _) (congrArg (World.drewN _) (Nat.add_assoc _ _ _))⟩))); try go_wp2_with (first | (go_at_call 41; (with_reducible refine (laws_likeInts.calls k _ _ t345 _ _ t349 true _ ?side1 ?side2 ?side3 ?side4 A28.out).mono ?_); (case side1 => repeat (first | exact (Kd.R_reads' HO347.out).2.2 | (with_reducible refine Kd.C_alloc ?_ _) | (with_reducible refine Kd.C_drewN ?_ _) | (with_reducible refine Kd.C_drew ?_))); (case side2 => exact (Kd.R_reads' HO347.out).2.1); (case side3 => repeat (first | exact (Kd.R_reads' HO351.out).2.2 | (with_reducible refine Kd.C_alloc ?_ _) | (with_reducible refine Kd.C_drewN ?_ _) | (with_reducible refine Kd.C_drew ?_))); (case side4 => exact (Kd.R_reads' HO351.out).2.1); rintro e w' ⟨rfl, ⟨nd, rfl⟩⟩; (try first | exact ⟨rfl, _, World.drewN_drewN _ _ _⟩ | exact ⟨rfl, _, Eq.trans (World.drewN_drewN _ _ _) (congrArg (World.drewN _) (Nat.add_assoc _ _ _))⟩); obtain ⟨Ao57, co57, eo57⟩ := Kd.R_slice HO355.out; subst eo57; obtain ⟨Ao58, co58, eo58⟩ := Kd.R_slice HO359.out; subst eo58) | (go_at_call 41; (with_reducible refine (laws_likeInts.calls k _ _ t353 _ _ t357 false _ ?side1 ?side2 ?side3 ?side4 A31.out).mono ?_); (case side1 => repeat (first | exact (Kd.R_reads' HO355.out).2.2 | (with_reducible refine Kd.C_alloc ?_ _) | (with_reducible refine Kd.C_drewN ?_ _) | (with_reducible refine Kd.C_drew ?_))); (case side2 => exact (Kd.R_reads' HO355.out).2.1); (case side3 => repeat (first | exact (Kd.R_reads' HO359.out).2.2 | (with_reducible refine Kd.C_alloc ?_ _) | (with_reducible refine Kd.C_drewN ?_ _) | (with_reducible refine Kd.C_drew ?_))); (case side4 => exact (Kd.R_reads' HO359.out).2.1); rintro e w' ⟨rfl, ⟨nd, rfl⟩⟩; (try first | exact ⟨rfl, _, World.drewN_drewN _ _ _⟩ | exact ⟨rfl, _, Eq.trans (World.drewN_drewN _ _ _) (congrArg (World.drewN _) (Nat.add_assoc _ _ _))⟩))))
              go_meet
              case rel => exact ⟨_, (true), (by first | rfl | (simp; done) | (simp [*]; done)), H', ⟨by first | omega | exact Nat.le_refl _⟩, ⟨by (with_reducible repeat (first | apply Kd.R_alloc | apply Kd.R_drewN | apply Kd.R_drew)); exact Kd.R_mono HO347.out (fun _ hk => ⟨hk.1.2, hk.1.1.1.2⟩)⟩, ⟨by (with_reducible repeat (first | apply Kd.R_alloc | apply Kd.R_drewN | apply Kd.R_drew)); exact Kd.R_mono HO355.out (fun _ hk => ⟨hk.1.1.2, hk.1.1.1.2⟩)⟩, ⟨by (with_reducible repeat (first | apply Kd.R_alloc | apply Kd.R_drewN | apply Kd.R_drew)); exact Kd.R_mono HO338.out (fun _ hk => ⟨hk.1.1.1.2, hk.1.2⟩)⟩, ⟨by (with_reducible repeat (first | refine blk_drewN ?_ _ | refine blk_drew ?_ | refine blk_alloc ?_ _)); exact BK344.out⟩, ⟨by repeat (first | (with_reducible first | exact HB.out | apply below_alloc | apply pw_below_drewN | apply below_drew1 | refine below_set ?_ GE344.out) | exact HB.out)⟩⟩
          · rw [if_neg c30] at H
            have c30b0 : (t356 == t360) = false := beq_eq_false_iff_ne.mpr c30
            have c30b1 : (t356 != t360) = true := bne_iff_ne.mpr c30
            have H' := Aside0.mk H
            clear H
            obtain ⟨Ao59, co59, eo59⟩ := Kd.R_slice HO347.out
            subst eo59
            obtain ⟨Ao60, co60, eo60⟩ := Kd.R_slice HO351.out
            subst eo60
            go_wp2_with (first | (go_at_call 41; (with_reducible refine (laws_likeInts.calls k _ _ t345 _ _ t349 true _ ?side1 ?side2 ?side3 ?side4 A28.out).mono ?_); (case side1 => repeat (first | exact (Kd.R_reads' HO347.out).2.2 | (with_reducible refine Kd.C_alloc ?_ _) | (with_reducible refine Kd.C_drewN ?_ _) | (with_reducible refine Kd.C_drew ?_))); (case side2 => exact (Kd.R_reads' HO347.out).2.1); (case side3 => repeat (first | exact (Kd.R_reads' HO351.out).2.2 | (with_reducible refine Kd.C_alloc ?_ _) | (with_reducible refine Kd.C_drewN ?_ _) | (with_reducible refine Kd.C_drew ?_))); (case side4 => exact (Kd.R_reads' HO351.out).2.1); rintro e w' ⟨rfl, ⟨nd, rfl⟩⟩; (try first | exact ⟨rfl, _, World.drewN_drewN _ _ _⟩ | exact ⟨rfl, _, Eq.trans (World.drewN_drewN _ _ _) (congrArg (World.drewN _) (Nat.add_assoc _ _ _))⟩)))
            repeat (go_quiet (first | (go_at_call 41; (with_reducible refine (laws_likeInts.calls k _ _ t345 _ _ t349 true _ ?side1 ?side2 ?side3 ?side4 A28.out).mono ?_); (case side1 => repeat (first | exact (Kd.R_reads' HO347.out).2.2 | (with_reducible refine Kd.C_alloc ?_ _) | (with_reducible refine Kd.C_drewN ?_ _) | (with_reducible refine Kd.C_drew ?_))); (case side2 => exact (Kd.R_reads' HO347.out).2.1); (case side3 => repeat (first | exact (Kd.R_reads' HO351.out).2.2 | (with_reducible refine Kd.C_alloc ?_ _) | (with_reducible refine Kd.C_drewN ?_ _) | (with_reducible refine Kd.C_drew ?_))); (case side4 => exact (Kd.R_reads' HO351.out).2.1); rintro e w' ⟨rfl, ⟨nd, rfl⟩⟩; (try first | exact ⟨rfl, _, World.drewN_drewN _ _ _⟩ | exact ⟨rfl, _, Eq.trans (World.drewN_drewN _ _ _) (congrArg (World.drewN _) (Nat.add_assoc _ _ _))⟩))); try go_wp2_with (first | (go_at_call 41; (with_reducible refine (laws_likeInts.calls k _ _ t345 _ _ t349 true _ ?side1 ?side2 ?side3 ?side4 A28.out).mono ?_); (case side1 => repeat (first | exact (Kd.R_reads' HO347.out).2.2 | (with_reducible refine Kd.C_alloc ?_ _) | (with_reducible refine Kd.C_drewN ?_ _) | (with_reducible refine Kd.C_drew ?_))); (case side2 => exact (Kd.R_reads' HO347.out).2.1); (case side3 => repeat (first | exact (Kd.R_reads' HO351.out).2.2 | (with_reducible refine Kd.C_alloc ?_ _) | (with_reducible refine Kd.C_drewN ?_ _) | (with_reducible refine Kd.C_drew ?_))); (case side4 => exact (Kd.R_reads' HO351.out).2.1); rintro e w' ⟨rfl, ⟨nd, rfl⟩⟩; (try first | exact ⟨rfl, _, World.drewN_drewN _ _ _⟩ | exact ⟨rfl, _, Eq.trans (World.drewN_drewN _ _ _) (congrArg (World.drewN _) (Nat.add_assoc _ _ _))⟩))))
            go_meet
            case rel => exact ⟨_, (true), (by first | rfl | (simp; done) | (simp [*]; done)), H', ⟨by first | omega | exact Nat.le_refl _⟩, ⟨by (with_reducible repeat (first | apply Kd.R_alloc | apply Kd.R_drewN | apply Kd.R_drew)); exact Kd.R_mono HO347.out (fun _ hk => ⟨hk.1.2, hk.1.1.1.2⟩)⟩, ⟨by (with_reducible repeat (first | apply Kd.R_alloc | apply Kd.R_drewN | apply Kd.R_drew)); exact Kd.R_mono HO355.out (fun _ hk => ⟨hk.1.1.2, hk.1.1.1.2⟩)⟩, ⟨by (with_reducible repeat (first | apply Kd.R_alloc | apply Kd.R_drewN | apply Kd.R_drew)); exact Kd.R_mono HO338.out (fun _ hk => ⟨hk.1.1.1.2, hk.1.2⟩)⟩, ⟨by (with_reducible repeat (first | refine blk_drewN ?_ _ | refine blk_drew ?_ | refine blk_alloc ?_ _)); exact BK344.out⟩, ⟨by repeat (first | (with_reducible first | exact HB.out | apply below_alloc | apply pw_below_drewN | apply below_drew1 | refine below_set ?_ GE344.out) | exact HB.out)⟩⟩
        · replace c29 := Bool.eq_false_iff.mpr c29
          subst c29
          have H1 : (laws_FnBlinds.j0 k t345 t348 t353 t361 t362 true t336 t339 t340 t341 t342 t343) = some r := by rw [if_neg (show ¬ (false = true) by decide)] at H; exact H
          clear H
          have H := H1
          clear H1
          have H' := Aside0.mk H
          clear H
          obtain ⟨Ao61, co61, eo61⟩ := Kd.R_slice HO347.out
          subst eo61
          obtain ⟨Ao62, co62, eo62⟩ := Kd.R_slice HO351.out
          subst eo62
          go_wp2_with (first | (go_at_call 41; (with_reducible refine (laws_likeInts.calls k _ _ t345 _ _ t349 false _ ?side1 ?side2 ?side3 ?side4 A28.out).mono ?_); (case side1 => repeat (first | exact (Kd.R_reads' HO347.out).2.2 | (with_reducible refine Kd.C_alloc ?_ _) | (with_reducible refine Kd.C_drewN ?_ _) | (with_reducible refine Kd.C_drew ?_))); (case side2 => exact (Kd.R_reads' HO347.out).2.1); (case side3 => repeat (first | exact (Kd.R_reads' HO351.out).2.2 | (with_reducible refine Kd.C_alloc ?_ _) | (with_reducible refine Kd.C_drewN ?_ _) | (with_reducible refine Kd.C_drew ?_))); (case side4 => exact (Kd.R_reads' HO351.out).2.1); rintro e w' ⟨rfl, ⟨nd, rfl⟩⟩; (try first | exact ⟨rfl, _, World.drewN_drewN _ _ _⟩ | exact ⟨rfl, _, Eq.trans (World.drewN_drewN _ _ _) (congrArg (World.drewN _) (Nat.add_assoc _ _ _))⟩)))
          repeat (go_quiet (first | (go_at_call 41; (with_reducible refine (laws_likeInts.calls k _ _ t345 _ _ t349 false _ ?side1 ?side2 ?side3 ?side4 A28.out).mono ?_); (case side1 => repeat (first | exact (Kd.R_reads' HO347.out).2.2 | (with_reducible refine Kd.C_alloc ?_ _) | (with_reducible refine Kd.C_drewN ?_ _) | (with_reducible refine Kd.C_drew ?_))); (case side2 => exact (Kd.R_reads' HO347.out).2.1); (case side3 => repeat (first | exact (Kd.R_reads' HO351.out).2.2 | (with_reducible refine Kd.C_alloc ?_ _) | (with_reducible refine Kd.C_drewN ?_ _) | (with_reducible refine Kd.C_drew ?_))); (case side4 => exact (Kd.R_reads' HO351.out).2.1); rintro e w' ⟨rfl, ⟨nd, rfl⟩⟩; (try first | exact ⟨rfl, _, World.drewN_drewN _ _ _⟩ | exact ⟨rfl, _, Eq.trans (World.drewN_drewN _ _ _) (congrArg (World.drewN _) (Nat.add_assoc _ _ _))⟩))); try go_wp2_with (first | (go_at_call 41; (with_reducible refine (laws_likeInts.calls k _ _ t345 _ _ t349 false _ ?side1 ?side2 ?side3 ?side4 A28.out).mono ?_); (case side1 => repeat (first | exact (Kd.R_reads' HO347.out).2.2 | (with_reducible refine Kd.C_alloc ?_ _) | (with_reducible refine Kd.C_drewN ?_ _) | (with_reducible refine Kd.C_drew ?_))); (case side2 => exact (Kd.R_reads' HO347.out).2.1); (case side3 => repeat (first | exact (Kd.R_reads' HO351.out).2.2 | (with_reducible refine Kd.C_alloc ?_ _) | (with_reducible refine Kd.C_drewN ?_ _) | (with_reducible refine Kd.C_drew ?_))); (case side4 => exact (Kd.R_reads' HO351.out).2.1); rintro e w' ⟨rfl, ⟨nd, rfl⟩⟩; (try first | exact ⟨rfl, _, World.drewN_drewN _ _ _⟩ | exact ⟨rfl, _, Eq.trans (World.drewN_drewN _ _ _) (congrArg (World.drewN _) (Nat.add_assoc _ _ _))⟩))))
          go_meet
          case rel => exact ⟨_, (true), (by first | rfl | (simp; done) | (simp [*]; done)), H', ⟨by first | omega | exact Nat.le_refl _⟩, ⟨by (with_reducible repeat (first | apply Kd.R_alloc | apply Kd.R_drewN | apply Kd.R_drew)); exact Kd.R_mono HO347.out (fun _ hk => ⟨hk.1.2, hk.1.1.1.2⟩)⟩, ⟨by (with_reducible repeat (first | apply Kd.R_alloc | apply Kd.R_drewN | apply Kd.R_drew)); exact Kd.R_mono HO355.out (fun _ hk => ⟨hk.1.1.2, hk.1.1.1.2⟩)⟩, ⟨by (with_reducible repeat (first | apply Kd.R_alloc | apply Kd.R_drewN | apply Kd.R_drew)); exact Kd.R_mono HO338.out (fun _ hk => ⟨hk.1.1.1.2, hk.1.2⟩)⟩, ⟨by (with_reducible repeat (first | refine blk_drewN ?_ _ | refine blk_drew ?_ | refine blk_alloc ?_ _)); exact BK344.out⟩, ⟨by repeat (first | (with_reducible first | exact HB.out | apply below_alloc | apply pw_below_drewN | apply below_drew1 | refine below_set ?_ GE344.out) | exact HB.out)⟩⟩
      · rw [if_neg c27] at H
        have c27b0 : (t348 == t352) = false := beq_eq_false_iff_ne.mpr c27
        have c27b1 : (t348 != t352) = true := bne_iff_ne.mpr c27
        (first | rw [c27b0] | (simp only [i64_w, i32_w]; rw [c27b0]) | skip)
        have H' := Aside0.mk H
        clear H
        go_wp2
        repeat (go_quiet (fail); try go_wp2)
        go_meet
        case rel => exact ⟨_, (true), (by first | rfl | (simp; done) | (simp [*]; done)), H', ⟨by first | omega | exact Nat.le_refl _⟩, ⟨by (with_reducible repeat (first | apply Kd.R_alloc | apply Kd.R_drewN | apply Kd.R_drew)); exact Kd.R_mono HO347.out (fun _ hk => ⟨hk.1.2, hk.1.1.1.2⟩)⟩, ⟨by (with_reducible repeat (first | apply Kd.R_alloc | apply Kd.R_drewN | apply Kd.R_drew)); exact Kd.R_mono HO355.out (fun _ hk => ⟨hk.1.1.2, hk.1.1.1.2⟩)⟩, ⟨by (with_reducible repeat (first | apply Kd.R_alloc | apply Kd.R_drewN | apply Kd.R_drew)); exact Kd.R_mono HO338.out (fun _ hk => ⟨hk.1.1.1.2, hk.1.2⟩)⟩, ⟨by (with_reducible repeat (first | refine blk_drewN ?_ _ | refine blk_drew ?_ | refine blk_alloc ?_ _)); exact BK344.out⟩, ⟨by repeat (first | (with_reducible first | exact HB.out | apply below_alloc | apply pw_below_drewN | apply below_drew1 | refine below_set ?_ GE344.out) | exact HB.out)⟩⟩
    case rest =>
      clear HC11
      try clear c1
      try clear c2
      try clear p2
      try clear c3
      try clear c11
      try clear c27
      try clear c27b0
      try clear c27b1
      try clear c29
      try clear c30
      try clear c30b0
      try clear c30b1
      try clear c32
      try clear c33
      try clear c33b0
      try clear c33b1
      try clear c34
      try clear c34b0
      try clear c34b1
      try clear c35
      try clear c35b0
      try clear c35b1
      try clear hcz15_0
      try clear hcz15_1
      try clear hcz15_2
      try clear hcz15_3
      try clear hcz15_4
      try clear hcz15_5
      try clear hcz17_0
      try clear hcz17_1
      try clear hcz17_2
      try clear hcz17_3
      try clear hcz17_4
      try clear hcz17_5
      try clear hcz19_0
      try clear hcz19_1
      try clear hcz19_2
      try clear hcz19_3
      try clear hcz19_4
      try clear hcz19_5
      try clear hcz21_0
      try clear hcz21_1
      try clear hcz21_2
      try clear hcz21_3
      try clear hcz21_4
      try clear hcz21_5
      try clear hcz23_0
      try clear hcz23_1
      try clear hcz23_2
      try clear hcz23_3
      try clear hcz23_4
      try clear hcz23_5
      try clear hcz25_0
      try clear hcz25_1
      try clear hcz25_2
      try clear hcz25_3
      try clear hcz25_4
      try clear hcz25_5
      try clear hcz41_0
      try clear hcz41_1
      try clear hcz41_2
      try clear hcz41_3
      try clear hcz41_4
      try clear hcz41_5
      try clear hfz15_0
      try clear hfz15_1
      try clear hfz15_2
      try clear hfz15_3
      try clear hfz15_4
      try clear hfz15_5
      try clear hfz17_0
      try clear hfz17_1
      try clear hfz17_2
      try clear hfz17_3
      try clear hfz17_4
      try clear hfz17_5
      try clear hfz19_0
      try clear hfz19_1
      try clear hfz19_2
      try clear hfz19_3
      try clear hfz19_4
      try clear hfz19_5
      try clear hfz21_0
      try clear hfz21_1
      try clear hfz21_2
      try clear hfz21_3
      try clear hfz21_4
      try clear hfz21_5
      try clear hfz23_0
      try clear hfz23_1
      try clear hfz23_2
      try clear hfz23_3
      try clear hfz23_4
      try clear hfz23_5
      try clear hfz25_0
      try clear hfz25_1
      try clear hfz25_2
      try clear hfz25_3
      try clear hfz25_4
      try clear hfz25_5
      try clear hfz41_0
      try clear hfz41_1
      try clear hfz41_2
      try clear hfz41_3
      try clear hfz41_4
      try clear hfz41_5
      obtain ⟨kq, x96_10, rfl, HA, HJ10, HO_4, HO_8, HO_345000, BK344, HB⟩ := hcut
      cases kq with
      | zero => exact absurd HA.out (by simp [laws_FnBlinds.j0])
      | succ kj10 =>
        have H := HA.out
        clear HA
        simp only [laws_FnBlinds.j0] at H
        by_cases c63 : x96_10 = true
        · subst c63
          have H1 : (some false) = some r := by rw [if_pos rfl] at H; exact H
          clear H
          have H := H1
          clear H1
          obtain rfl := Option.some.inj H
          go_wp2
          repeat (go_quiet (fail); try go_wp2)
          go_ret
          exact ⟨by first | rfl | (simp [errW_none, errW_some] <;> rfl) | (simp [*, errW_none, errW_some] <;> rfl), by repeat (first | (with_reducible first | exact HB.out | apply below_alloc | apply pw_below_drewN | apply below_drew1 | refine below_set ?_ GE344.out) | exact HB.out)⟩
        · replace c63 := Bool.eq_false_iff.mpr c63
          subst c63
          have H1 : (if t348 = 0 then (laws_FnBlinds.l0 kj10 t345 t353 t361 t362 0 t336 t339 t340 t341 t342 t343) else (some true)) = some r := by rw [if_neg (show ¬ (false = true) by decide)] at H; exact H
          clear H
          have H := H1
          clear H1
          by_cases c64 : t348 = 0
          · rw [if_pos c64] at H
            have c64b0 : (t348 == 0) = true := beq_iff_eq.mpr c64
            have c64b1 : (t348 != 0) = false := bne_eq_false_iff_eq.mpr c64
            clear c64
            have H' := Aside0.mk H
            clear H
            go_wp2
            repeat (go_quiet (fail); try go_wp2)
            go_loopg [18] kj10 (fun kq v18 w' => ∃ (x18_2 : Int), v18 = .int .i64 x18_2 ∧ Aside0 (laws_FnBlinds.l0 kq t345 t353 t361 t362 x18_2 t336 t339 t340 t341 t342 t343 = some r) ∧ Aside0 (kq ≤ kj10) ∧ Aside0 (Kd.R (Kd.int .i64) 2 w' w.heap.size (fun k_ => some k_ ≠ (v354 : Value).ownBlock ∧ some k_ ≠ ((.slice Ao14 t336.length co14) : Value).ownBlock) v346 t345) ∧ Aside0 (Kd.R (Kd.int .i64) 2 w' w.heap.size (fun k_ => some k_ ≠ (v346 : Value).ownBlock ∧ some k_ ≠ ((.slice Ao14 t336.length co14) : Value).ownBlock) v354 t353) ∧ Aside0 (Kd.R (Kd.int .i64) 2 w' w.heap.size (fun k_ => some k_ ≠ (v346 : Value).ownBlock ∧ some k_ ≠ (v354 : Value).ownBlock) (.slice Ao14 t336.length co14) t336) ∧ Aside0 (w'.heap[gb344]? = some (.cells #[(.slice Ao14 t336.length co14), .int .i64 t339, .int .i64 t340, .int .i64 t341, .int .i64 t342, .int .i64 t343] 27 (0, 0))) ∧ Aside0 (Below w.heap.size w w'))
            case atStart => exact ⟨(0), (by first | rfl | (simp; done) | (simp [*]; done)), H', ⟨Nat.le_refl _⟩, ⟨by (with_reducible repeat (first | apply Kd.R_alloc | apply Kd.R_drewN | apply Kd.R_drew)); exact HO_4.out⟩, ⟨by (with_reducible repeat (first | apply Kd.R_alloc | apply Kd.R_drewN | apply Kd.R_drew)); exact HO_8.out⟩, ⟨by (with_reducible repeat (first | apply Kd.R_alloc | apply Kd.R_drewN | apply Kd.R_drew)); exact HO_345000.out⟩, ⟨by (with_reducible repeat (first | refine blk_drewN ?_ _ | refine blk_drew ?_ | refine blk_alloc ?_ _)); exact BK344.out⟩, ⟨by repeat (first | (with_reducible first | exact HB.out | apply below_alloc | apply pw_below_drewN | apply below_drew1 | refine below_set ?_ GE344.out) | exact HB.out)⟩⟩
            case round =>
              clear H'
              try clear c1
              try clear c2
              try clear p2
              try clear c3
              try clear c6
              try clear c11
              try clear c27
              try clear c27b0
              try clear c27b1
              try clear c29
              try clear c30
              try clear c30b0
              try clear c30b1
              try clear c32
              try clear c33
              try clear c33b0
              try clear c33b1
              try clear c34
              try clear c34b0
              try clear c34b1
              try clear c35
              try clear c35b0
              try clear c35b1
              try clear c63
              try clear c64
              try clear c64b0
              try clear c64b1
              try clear hcz15_0
              try clear hcz15_1
              try clear hcz15_2
              try clear hcz15_3
              try clear hcz15_4
              try clear hcz15_5
              try clear hcz17_0
              try clear hcz17_1
              try clear hcz17_2
              try clear hcz17_3
              try clear hcz17_4
              try clear hcz17_5
              try clear hcz19_0
              try clear hcz19_1
              try clear hcz19_2
              try clear hcz19_3
              try clear hcz19_4
              try clear hcz19_5
              try clear hcz21_0
              try clear hcz21_1
              try clear hcz21_2
              try clear hcz21_3
              try clear hcz21_4
              try clear hcz21_5
              try clear hcz23_0
              try clear hcz23_1
              try clear hcz23_2
              try clear hcz23_3
              try clear hcz23_4
              try clear hcz23_5
              try clear hcz25_0
              try clear hcz25_1
              try clear hcz25_2
              try clear hcz25_3
              try clear hcz25_4
              try clear hcz25_5
              try clear hcz41_0
              try clear hcz41_1
              try clear hcz41_2
              try clear hcz41_3
              try clear hcz41_4
              try clear hcz41_5
              try clear hfz15_0
              try clear hfz15_1
              try clear hfz15_2
              try clear hfz15_3
              try clear hfz15_4
              try clear hfz15_5
              try clear hfz17_0
              try clear hfz17_1
              try clear hfz17_2
              try clear hfz17_3
              try clear hfz17_4
              try clear hfz17_5
              try clear hfz19_0
              try clear hfz19_1
              try clear hfz19_2
              try clear hfz19_3
              try clear hfz19_4
              try clear hfz19_5
              try clear hfz21_0
              try clear hfz21_1
              try clear hfz21_2
              try clear hfz21_3
              try clear hfz21_4
              try clear hfz21_5
              try clear hfz23_0
              try clear hfz23_1
              try clear hfz23_2
              try clear hfz23_3
              try clear hfz23_4
              try clear hfz23_5
              try clear hfz25_0
              try clear hfz25_1
              try clear hfz25_2
              try clear hfz25_3
              try clear hfz25_4
              try clear hfz25_5
              try clear hfz41_0
              try clear hfz41_1
              try clear hfz41_2
              try clear hfz41_3
              try clear hfz41_4
              try clear hfz41_5
              try clear p2
              obtain ⟨x18_2, rfl, HA, HK2, HO_4, HO_8, HO_345000, BK344, HB⟩ := hrel
              cases gk with
              | zero => exact absurd HA.out (by simp [laws_FnBlinds.l0])
              | succ k2 =>
                have H := HA.out
                clear HA
                simp only [laws_FnBlinds.l0] at H
                by_cases c65 : x18_2 < (t345.length : Int)
                · rw [if_pos c65] at H
                  have c65b0 : decide (x18_2 < (t345.length : Int)) = true := decide_eq_true c65
                  clear c65
                  by_cases c66 : 0 ≤ x18_2
                  · rw [if_pos c66] at H
                    have c66b0 : decide (0 ≤ x18_2) = true := decide_eq_true c66
                    clear c66
                    by_cases c67 : x18_2 < (t353.length : Int)
                    · rw [if_pos c67] at H
                      have c67b0 : decide (x18_2 < (t353.length : Int)) = true := decide_eq_true c67
                      clear c67
                      by_cases c68 : x18_2 < (t336.length : Int)
                      · rw [if_pos c68] at H
                        have c68b0 : decide (x18_2 < (t336.length : Int)) = true := decide_eq_true c68
                        clear c68
                        by_cases c69 : (wrap64 ((rd t353 x18_2) + (rd t345 x18_2))) > (rd t336 x18_2)
                        · rw [if_pos c69] at H
                          have c69b0 : decide ((rd t336 x18_2) < (wrap64 ((rd t353 x18_2) + (rd t345 x18_2)))) = true := decide_eq_true c69
                          clear c69
                          obtain rfl := Option.some.inj H
                          obtain ⟨Ao70, co70, eo70⟩ := Kd.R_slice HO_4.out
                          subst eo70
                          obtain ⟨Ao71, co71, eo71⟩ := Kd.R_slice HO_8.out
                          subst eo71
                          have p370 : 0 ≤ (x18_2 : Int) := of_decide_eq_true (by first | (with_reducible assumption) | assumption)
                          have q370 : x18_2 < (t353.length : Int) := of_decide_eq_true (by first | (with_reducible assumption) | assumption)
                          obtain ⟨ad370, e370, hx370_0⟩ := Kd.at_int (Kd.R_reads' HO_8.out).2.2 x18_2 p370 q370
                          cases e370
                          replace p370 := eq_true p370
                          replace q370 := eq_true q370
                          have p371 : 0 ≤ (x18_2 : Int) := of_decide_eq_true (by first | (with_reducible assumption) | assumption)
                          have q371 : x18_2 < (t345.length : Int) := of_decide_eq_true (by first | (with_reducible assumption) | assumption)
                          obtain ⟨ad371, e371, hx371_0⟩ := Kd.at_int (Kd.R_reads' HO_4.out).2.2 x18_2 p371 q371
                          cases e371
                          replace p371 := eq_true p371
                          replace q371 := eq_true q371
                          have hcz72_0 : wr.cell? ⟨gb344, 0, none⟩ = some (.slice Ao14 t336.length co14) := (blk_cell BK344.out 0).trans rfl
                          have hcz72_1 : wr.cell? ⟨gb344, 1, none⟩ = some (.int .i64 t339) := (blk_cell BK344.out 1).trans rfl
                          have hcz72_2 : wr.cell? ⟨gb344, 2, none⟩ = some (.int .i64 t340) := (blk_cell BK344.out 2).trans rfl
                          have hcz72_3 : wr.cell? ⟨gb344, 3, none⟩ = some (.int .i64 t341) := (blk_cell BK344.out 3).trans rfl
                          have hcz72_4 : wr.cell? ⟨gb344, 4, none⟩ = some (.int .i64 t342) := (blk_cell BK344.out 4).trans rfl
                          have hcz72_5 : wr.cell? ⟨gb344, 5, none⟩ = some (.int .i64 t343) := (blk_cell BK344.out 5).trans rfl
                          have hfz72_0 := blk_frozen BK344.out 0
                          have hfz72_1 := blk_frozen BK344.out 1
                          have hfz72_2 := blk_frozen BK344.out 2
                          have hfz72_3 := blk_frozen BK344.out 3
                          have hfz72_4 := blk_frozen BK344.out 4
                          have hfz72_5 := blk_frozen BK344.out 5
                          have p372 : 0 ≤ (x18_2 : Int) := of_decide_eq_true (by first | (with_reducible assumption) | assumption)
                          have q372 : x18_2 < (t336.length : Int) := of_decide_eq_true (by first | (with_reducible assumption) | assumption)
                          obtain ⟨ad372, e372, hx372_0⟩ := Kd.at_int (Kd.R_reads' HO_345000.out).2.2 x18_2 p372 q372
                          cases e372
                          replace p372 := eq_true p372
                          replace q372 := eq_true q372
                          go_wp2
                          repeat (go_quiet (fail); try go_wp2)
                          go_ret
                          exact ⟨by first | rfl | (simp [errW_none, errW_some] <;> rfl) | (simp [*, errW_none, errW_some] <;> rfl), by repeat (first | (with_reducible first | exact HB.out | apply below_alloc | apply pw_below_drewN | apply below_drew1 | refine below_set ?_ GE344.out) | exact HB.out)⟩
                        · rw [if_neg c69] at H
                          have c69b0 : decide ((rd t336 x18_2) < (wrap64 ((rd t353 x18_2) + (rd t345 x18_2)))) = false := decide_eq_false c69
                          clear c69
                          by_cases c73 : (rd t353 x18_2) < 0
                          · rw [if_pos c73] at H
                            have c73b0 : decide ((rd t353 x18_2) < 0) = true := decide_eq_true c73
                            clear c73
                            obtain rfl := Option.some.inj H
                            obtain ⟨Ao74, co74, eo74⟩ := Kd.R_slice HO_4.out
                            subst eo74
                            obtain ⟨Ao75, co75, eo75⟩ := Kd.R_slice HO_8.out
                            subst eo75
                            have p370 : 0 ≤ (x18_2 : Int) := of_decide_eq_true (by first | (with_reducible assumption) | assumption)
                            have q370 : x18_2 < (t353.length : Int) := of_decide_eq_true (by first | (with_reducible assumption) | assumption)
                            obtain ⟨ad370, e370, hx370_0⟩ := Kd.at_int (Kd.R_reads' HO_8.out).2.2 x18_2 p370 q370
                            cases e370
                            replace p370 := eq_true p370
                            replace q370 := eq_true q370
                            have p371 : 0 ≤ (x18_2 : Int) := of_decide_eq_true (by first | (with_reducible assumption) | assumption)
                            have q371 : x18_2 < (t345.length : Int) := of_decide_eq_true (by first | (with_reducible assumption) | assumption)
                            obtain ⟨ad371, e371, hx371_0⟩ := Kd.at_int (Kd.R_reads' HO_4.out).2.2 x18_2 p371 q371
                            cases e371
                            replace p371 := eq_true p371
                            replace q371 := eq_true q371
                            have hcz76_0 : wr.cell? ⟨gb344, 0, none⟩ = some (.slice Ao14 t336.length co14) := (blk_cell BK344.out 0).trans rfl
                            have hcz76_1 : wr.cell? ⟨gb344, 1, none⟩ = some (.int .i64 t339) := (blk_cell BK344.out 1).trans rfl
                            have hcz76_2 : wr.cell? ⟨gb344, 2, none⟩ = some (.int .i64 t340) := (blk_cell BK344.out 2).trans rfl
                            have hcz76_3 : wr.cell? ⟨gb344, 3, none⟩ = some (.int .i64 t341) := (blk_cell BK344.out 3).trans rfl
                            have hcz76_4 : wr.cell? ⟨gb344, 4, none⟩ = some (.int .i64 t342) := (blk_cell BK344.out 4).trans rfl
                            have hcz76_5 : wr.cell? ⟨gb344, 5, none⟩ = some (.int .i64 t343) := (blk_cell BK344.out 5).trans rfl
                            have hfz76_0 := blk_frozen BK344.out 0
                            have hfz76_1 := blk_frozen BK344.out 1
                            have hfz76_2 := blk_frozen BK344.out 2
                            have hfz76_3 := blk_frozen BK344.out 3
                            have hfz76_4 := blk_frozen BK344.out 4
                            have hfz76_5 := blk_frozen BK344.out 5
                            have p372 : 0 ≤ (x18_2 : Int) := of_decide_eq_true (by first | (with_reducible assumption) | assumption)
                            have q372 : x18_2 < (t336.length : Int) := of_decide_eq_true (by first | (with_reducible assumption) | assumption)
                            obtain ⟨ad372, e372, hx372_0⟩ := Kd.at_int (Kd.R_reads' HO_345000.out).2.2 x18_2 p372 q372
                            cases e372
                            replace p372 := eq_true p372
                            replace q372 := eq_true q372
                            have p373 : 0 ≤ (x18_2 : Int) := of_decide_eq_true (by first | (with_reducible assumption) | assumption)
                            have q373 : x18_2 < (t353.length : Int) := of_decide_eq_true (by first | (with_reducible assumption) | assumption)
                            obtain ⟨ad373, e373, hx373_0⟩ := Kd.at_int (Kd.R_reads' HO_8.out).2.2 x18_2 p373 q373
                            obtain rfl : ad370 = ad373 := (by injection e373)
                            replace p373 := eq_true p373
                            replace q373 := eq_true q373
                            go_wp2
                            repeat (go_quiet (fail); try go_wp2)
                            go_ret
                            exact ⟨by first | rfl | (simp [errW_none, errW_some] <;> rfl) | (simp [*, errW_none, errW_some] <;> rfl), by repeat (first | (with_reducible first | exact HB.out | apply below_alloc | apply pw_below_drewN | apply below_drew1 | refine below_set ?_ GE344.out) | exact HB.out)⟩
                          · rw [if_neg c73] at H
                            have c73b0 : decide ((rd t353 x18_2) < 0) = false := decide_eq_false c73
                            clear c73
                            by_cases c77 : (rd t345 x18_2) < 0
                            · rw [if_pos c77] at H
                              have c77b0 : decide ((rd t345 x18_2) < 0) = true := decide_eq_true c77
                              clear c77
                              obtain rfl := Option.some.inj H
                              obtain ⟨Ao78, co78, eo78⟩ := Kd.R_slice HO_4.out
                              subst eo78
                              obtain ⟨Ao79, co79, eo79⟩ := Kd.R_slice HO_8.out
                              subst eo79
                              have p370 : 0 ≤ (x18_2 : Int) := of_decide_eq_true (by first | (with_reducible assumption) | assumption)
                              have q370 : x18_2 < (t353.length : Int) := of_decide_eq_true (by first | (with_reducible assumption) | assumption)
                              obtain ⟨ad370, e370, hx370_0⟩ := Kd.at_int (Kd.R_reads' HO_8.out).2.2 x18_2 p370 q370
                              cases e370
                              replace p370 := eq_true p370
                              replace q370 := eq_true q370
                              have p371 : 0 ≤ (x18_2 : Int) := of_decide_eq_true (by first | (with_reducible assumption) | assumption)
                              have q371 : x18_2 < (t345.length : Int) := of_decide_eq_true (by first | (with_reducible assumption) | assumption)
                              obtain ⟨ad371, e371, hx371_0⟩ := Kd.at_int (Kd.R_reads' HO_4.out).2.2 x18_2 p371 q371
                              cases e371
                              replace p371 := eq_true p371
                              replace q371 := eq_true q371
                              have hcz80_0 : wr.cell? ⟨gb344, 0, none⟩ = some (.slice Ao14 t336.length co14) := (blk_cell BK344.out 0).trans rfl
                              have hcz80_1 : wr.cell? ⟨gb344, 1, none⟩ = some (.int .i64 t339) := (blk_cell BK344.out 1).trans rfl
                              have hcz80_2 : wr.cell? ⟨gb344, 2, none⟩ = some (.int .i64 t340) := (blk_cell BK344.out 2).trans rfl
                              have hcz80_3 : wr.cell? ⟨gb344, 3, none⟩ = some (.int .i64 t341) := (blk_cell BK344.out 3).trans rfl
                              have hcz80_4 : wr.cell? ⟨gb344, 4, none⟩ = some (.int .i64 t342) := (blk_cell BK344.out 4).trans rfl
                              have hcz80_5 : wr.cell? ⟨gb344, 5, none⟩ = some (.int .i64 t343) := (blk_cell BK344.out 5).trans rfl
                              have hfz80_0 := blk_frozen BK344.out 0
                              have hfz80_1 := blk_frozen BK344.out 1
                              have hfz80_2 := blk_frozen BK344.out 2
                              have hfz80_3 := blk_frozen BK344.out 3
                              have hfz80_4 := blk_frozen BK344.out 4
                              have hfz80_5 := blk_frozen BK344.out 5
                              have p372 : 0 ≤ (x18_2 : Int) := of_decide_eq_true (by first | (with_reducible assumption) | assumption)
                              have q372 : x18_2 < (t336.length : Int) := of_decide_eq_true (by first | (with_reducible assumption) | assumption)
                              obtain ⟨ad372, e372, hx372_0⟩ := Kd.at_int (Kd.R_reads' HO_345000.out).2.2 x18_2 p372 q372
                              cases e372
                              replace p372 := eq_true p372
                              replace q372 := eq_true q372
                              have p373 : 0 ≤ (x18_2 : Int) := of_decide_eq_true (by first | (with_reducible assumption) | assumption)
                              have q373 : x18_2 < (t353.length : Int) := of_decide_eq_true (by first | (with_reducible assumption) | assumption)
                              obtain ⟨ad373, e373, hx373_0⟩ := Kd.at_int (Kd.R_reads' HO_8.out).2.2 x18_2 p373 q373
                              obtain rfl : ad370 = ad373 := (by injection e373)
                              replace p373 := eq_true p373
                              replace q373 := eq_true q373
                              have p374 : 0 ≤ (x18_2 : Int) := of_decide_eq_true (by first | (with_reducible assumption) | assumption)
                              have q374 : x18_2 < (t345.length : Int) := of_decide_eq_true (by first | (with_reducible assumption) | assumption)
                              obtain ⟨ad374, e374, hx374_0⟩ := Kd.at_int (Kd.R_reads' HO_4.out).2.2 x18_2 p374 q374
                              obtain rfl : ad371 = ad374 := (by injection e374)
                              replace p374 := eq_true p374
                              replace q374 := eq_true q374
                              go_wp2
                              repeat (go_quiet (fail); try go_wp2)
                              go_ret
                              exact ⟨by first | rfl | (simp [errW_none, errW_some] <;> rfl) | (simp [*, errW_none, errW_some] <;> rfl), by repeat (first | (with_reducible first | exact HB.out | apply below_alloc | apply pw_below_drewN | apply below_drew1 | refine below_set ?_ GE344.out) | exact HB.out)⟩
                            · rw [if_neg c77] at H
                              have c77b0 : decide ((rd t345 x18_2) < 0) = false := decide_eq_false c77
                              clear c77
                              by_cases c81 : (rd t345 x18_2) > 0
                              · rw [if_pos c81] at H
                                have c81b0 : decide (0 < (rd t345 x18_2)) = true := decide_eq_true c81
                                clear c81
                                by_cases c82 : x18_2 = t361
                                · rw [if_pos c82] at H
                                  have c82b0 : (x18_2 == t361) = true := beq_iff_eq.mpr c82
                                  have c82b1 : (x18_2 != t361) = false := bne_eq_false_iff_eq.mpr c82
                                  clear c82
                                  have H' := Aside0.mk H
                                  clear H
                                  obtain ⟨Ao83, co83, eo83⟩ := Kd.R_slice HO_4.out
                                  subst eo83
                                  obtain ⟨Ao84, co84, eo84⟩ := Kd.R_slice HO_8.out
                                  subst eo84
                                  have p370 : 0 ≤ (x18_2 : Int) := of_decide_eq_true (by first | (with_reducible assumption) | assumption)
                                  have q370 : x18_2 < (t353.length : Int) := of_decide_eq_true (by first | (with_reducible assumption) | assumption)
                                  obtain ⟨ad370, e370, hx370_0⟩ := Kd.at_int (Kd.R_reads' HO_8.out).2.2 x18_2 p370 q370
                                  cases e370
                                  replace p370 := eq_true p370
                                  replace q370 := eq_true q370
                                  have p371 : 0 ≤ (x18_2 : Int) := of_decide_eq_true (by first | (with_reducible assumption) | assumption)
                                  have q371 : x18_2 < (t345.length : Int) := of_decide_eq_true (by first | (with_reducible assumption) | assumption)
                                  obtain ⟨ad371, e371, hx371_0⟩ := Kd.at_int (Kd.R_reads' HO_4.out).2.2 x18_2 p371 q371
                                  cases e371
                                  replace p371 := eq_true p371
                                  replace q371 := eq_true q371
                                  have hcz85_0 : wr.cell? ⟨gb344, 0, none⟩ = some (.slice Ao14 t336.length co14) := (blk_cell BK344.out 0).trans rfl
                                  have hcz85_1 : wr.cell? ⟨gb344, 1, none⟩ = some (.int .i64 t339) := (blk_cell BK344.out 1).trans rfl
                                  have hcz85_2 : wr.cell? ⟨gb344, 2, none⟩ = some (.int .i64 t340) := (blk_cell BK344.out 2).trans rfl
                                  have hcz85_3 : wr.cell? ⟨gb344, 3, none⟩ = some (.int .i64 t341) := (blk_cell BK344.out 3).trans rfl
                                  have hcz85_4 : wr.cell? ⟨gb344, 4, none⟩ = some (.int .i64 t342) := (blk_cell BK344.out 4).trans rfl
                                  have hcz85_5 : wr.cell? ⟨gb344, 5, none⟩ = some (.int .i64 t343) := (blk_cell BK344.out 5).trans rfl
                                  have hfz85_0 := blk_frozen BK344.out 0
                                  have hfz85_1 := blk_frozen BK344.out 1
                                  have hfz85_2 := blk_frozen BK344.out 2
                                  have hfz85_3 := blk_frozen BK344.out 3
                                  have hfz85_4 := blk_frozen BK344.out 4
                                  have hfz85_5 := blk_frozen BK344.out 5
                                  have p372 : 0 ≤ (x18_2 : Int) := of_decide_eq_true (by first | (with_reducible assumption) | assumption)
                                  have q372 : x18_2 < (t336.length : Int) := of_decide_eq_true (by first | (with_reducible assumption) | assumption)
                                  obtain ⟨ad372, e372, hx372_0⟩ := Kd.at_int (Kd.R_reads' HO_345000.out).2.2 x18_2 p372 q372
                                  cases e372
                                  replace p372 := eq_true p372
                                  replace q372 := eq_true q372
                                  have p373 : 0 ≤ (x18_2 : Int) := of_decide_eq_true (by first | (with_reducible assumption) | assumption)
                                  have q373 : x18_2 < (t353.length : Int) := of_decide_eq_true (by first | (with_reducible assumption) | assumption)
                                  obtain ⟨ad373, e373, hx373_0⟩ := Kd.at_int (Kd.R_reads' HO_8.out).2.2 x18_2 p373 q373
                                  obtain rfl : ad370 = ad373 := (by injection e373)
                                  replace p373 := eq_true p373
                                  replace q373 := eq_true q373
                                  have p374 : 0 ≤ (x18_2 : Int) := of_decide_eq_true (by first | (with_reducible assumption) | assumption)
                                  have q374 : x18_2 < (t345.length : Int) := of_decide_eq_true (by first | (with_reducible assumption) | assumption)
                                  obtain ⟨ad374, e374, hx374_0⟩ := Kd.at_int (Kd.R_reads' HO_4.out).2.2 x18_2 p374 q374
                                  obtain rfl : ad371 = ad374 := (by injection e374)
                                  replace p374 := eq_true p374
                                  replace q374 := eq_true q374
                                  have p375 : 0 ≤ (x18_2 : Int) := of_decide_eq_true (by first | (with_reducible assumption) | assumption)
                                  have q375 : x18_2 < (t345.length : Int) := of_decide_eq_true (by first | (with_reducible assumption) | assumption)
                                  obtain ⟨ad375, e375, hx375_0⟩ := Kd.at_int (Kd.R_reads' HO_4.out).2.2 x18_2 p375 q375
                                  obtain rfl : ad371 = ad375 := (by injection e375)
                                  replace p375 := eq_true p375
                                  replace q375 := eq_true q375
                                  go_wp2
                                  repeat (go_quiet (fail); try go_wp2)
                                  go_roundg k2
                                  case measure => have := HJ10.out; have := HK2.out; omega
                                  case rel => exact ⟨(wrap64 (x18_2 + 1)), (by first | rfl | (simp; done) | (simp [*]; done)), H', ⟨by have := HJ10.out; have := HK2.out; omega⟩, ⟨by (with_reducible repeat (first | apply Kd.R_alloc | apply Kd.R_drewN | apply Kd.R_drew)); exact HO_4.out⟩, ⟨by (with_reducible repeat (first | apply Kd.R_alloc | apply Kd.R_drewN | apply Kd.R_drew)); exact HO_8.out⟩, ⟨by (with_reducible repeat (first | apply Kd.R_alloc | apply Kd.R_drewN | apply Kd.R_drew)); exact HO_345000.out⟩, ⟨by (with_reducible repeat (first | refine blk_drewN ?_ _ | refine blk_drew ?_ | refine blk_alloc ?_ _)); exact BK344.out⟩, ⟨by repeat (first | (with_reducible first | exact HB.out | apply below_alloc | apply pw_below_drewN | apply below_drew1 | refine below_set ?_ GE344.out) | exact HB.out)⟩⟩
                                · rw [if_neg c82] at H
                                  have c82b0 : (x18_2 == t361) = false := beq_eq_false_iff_ne.mpr c82
                                  have c82b1 : (x18_2 != t361) = true := bne_iff_ne.mpr c82
                                  by_cases c86 : x18_2 = t362
                                  · rw [if_pos c86] at H
                                    have c86b0 : (x18_2 == t362) = true := beq_iff_eq.mpr c86
                                    have c86b1 : (x18_2 != t362) = false := bne_eq_false_iff_eq.mpr c86
                                    clear c86
                                    have H' := Aside0.mk H
                                    clear H
                                    obtain ⟨Ao87, co87, eo87⟩ := Kd.R_slice HO_4.out
                                    subst eo87
                                    obtain ⟨Ao88, co88, eo88⟩ := Kd.R_slice HO_8.out
                                    subst eo88
                                    have p370 : 0 ≤ (x18_2 : Int) := of_decide_eq_true (by first | (with_reducible assumption) | assumption)
                                    have q370 : x18_2 < (t353.length : Int) := of_decide_eq_true (by first | (with_reducible assumption) | assumption)
                                    obtain ⟨ad370, e370, hx370_0⟩ := Kd.at_int (Kd.R_reads' HO_8.out).2.2 x18_2 p370 q370
                                    cases e370
                                    replace p370 := eq_true p370
                                    replace q370 := eq_true q370
                                    have p371 : 0 ≤ (x18_2 : Int) := of_decide_eq_true (by first | (with_reducible assumption) | assumption)
                                    have q371 : x18_2 < (t345.length : Int) := of_decide_eq_true (by first | (with_reducible assumption) | assumption)
                                    obtain ⟨ad371, e371, hx371_0⟩ := Kd.at_int (Kd.R_reads' HO_4.out).2.2 x18_2 p371 q371
                                    cases e371
                                    replace p371 := eq_true p371
                                    replace q371 := eq_true q371
                                    have hcz89_0 : wr.cell? ⟨gb344, 0, none⟩ = some (.slice Ao14 t336.length co14) := (blk_cell BK344.out 0).trans rfl
                                    have hcz89_1 : wr.cell? ⟨gb344, 1, none⟩ = some (.int .i64 t339) := (blk_cell BK344.out 1).trans rfl
                                    have hcz89_2 : wr.cell? ⟨gb344, 2, none⟩ = some (.int .i64 t340) := (blk_cell BK344.out 2).trans rfl
                                    have hcz89_3 : wr.cell? ⟨gb344, 3, none⟩ = some (.int .i64 t341) := (blk_cell BK344.out 3).trans rfl
                                    have hcz89_4 : wr.cell? ⟨gb344, 4, none⟩ = some (.int .i64 t342) := (blk_cell BK344.out 4).trans rfl
                                    have hcz89_5 : wr.cell? ⟨gb344, 5, none⟩ = some (.int .i64 t343) := (blk_cell BK344.out 5).trans rfl
                                    have hfz89_0 := blk_frozen BK344.out 0
                                    have hfz89_1 := blk_frozen BK344.out 1
                                    have hfz89_2 := blk_frozen BK344.out 2
                                    have hfz89_3 := blk_frozen BK344.out 3
                                    have hfz89_4 := blk_frozen BK344.out 4
                                    have hfz89_5 := blk_frozen BK344.out 5
                                    have p372 : 0 ≤ (x18_2 : Int) := of_decide_eq_true (by first | (with_reducible assumption) | assumption)
                                    have q372 : x18_2 < (t336.length : Int) := of_decide_eq_true (by first | (with_reducible assumption) | assumption)
                                    obtain ⟨ad372, e372, hx372_0⟩ := Kd.at_int (Kd.R_reads' HO_345000.out).2.2 x18_2 p372 q372
                                    cases e372
                                    replace p372 := eq_true p372
                                    replace q372 := eq_true q372
                                    have p373 : 0 ≤ (x18_2 : Int) := of_decide_eq_true (by first | (with_reducible assumption) | assumption)
                                    have q373 : x18_2 < (t353.length : Int) := of_decide_eq_true (by first | (with_reducible assumption) | assumption)
                                    obtain ⟨ad373, e373, hx373_0⟩ := Kd.at_int (Kd.R_reads' HO_8.out).2.2 x18_2 p373 q373
                                    obtain rfl : ad370 = ad373 := (by injection e373)
                                    replace p373 := eq_true p373
                                    replace q373 := eq_true q373
                                    have p374 : 0 ≤ (x18_2 : Int) := of_decide_eq_true (by first | (with_reducible assumption) | assumption)
                                    have q374 : x18_2 < (t345.length : Int) := of_decide_eq_true (by first | (with_reducible assumption) | assumption)
                                    obtain ⟨ad374, e374, hx374_0⟩ := Kd.at_int (Kd.R_reads' HO_4.out).2.2 x18_2 p374 q374
                                    obtain rfl : ad371 = ad374 := (by injection e374)
                                    replace p374 := eq_true p374
                                    replace q374 := eq_true q374
                                    have p375 : 0 ≤ (x18_2 : Int) := of_decide_eq_true (by first | (with_reducible assumption) | assumption)
                                    have q375 : x18_2 < (t345.length : Int) := of_decide_eq_true (by first | (with_reducible assumption) | assumption)
                                    obtain ⟨ad375, e375, hx375_0⟩ := Kd.at_int (Kd.R_reads' HO_4.out).2.2 x18_2 p375 q375
                                    obtain rfl : ad371 = ad375 := (by injection e375)
                                    replace p375 := eq_true p375
                                    replace q375 := eq_true q375
                                    go_wp2
                                    repeat (go_quiet (fail); try go_wp2)
                                    go_roundg k2
                                    case measure => have := HJ10.out; have := HK2.out; omega
                                    case rel => exact ⟨(wrap64 (x18_2 + 1)), (by first | rfl | (simp; done) | (simp [*]; done)), H', ⟨by have := HJ10.out; have := HK2.out; omega⟩, ⟨by (with_reducible repeat (first | apply Kd.R_alloc | apply Kd.R_drewN | apply Kd.R_drew)); exact HO_4.out⟩, ⟨by (with_reducible repeat (first | apply Kd.R_alloc | apply Kd.R_drewN | apply Kd.R_drew)); exact HO_8.out⟩, ⟨by (with_reducible repeat (first | apply Kd.R_alloc | apply Kd.R_drewN | apply Kd.R_drew)); exact HO_345000.out⟩, ⟨by (with_reducible repeat (first | refine blk_drewN ?_ _ | refine blk_drew ?_ | refine blk_alloc ?_ _)); exact BK344.out⟩, ⟨by repeat (first | (with_reducible first | exact HB.out | apply below_alloc | apply pw_below_drewN | apply below_drew1 | refine below_set ?_ GE344.out) | exact HB.out)⟩⟩
                                  · rw [if_neg c86] at H
                                    have c86b0 : (x18_2 == t362) = false := beq_eq_false_iff_ne.mpr c86
                                    have c86b1 : (x18_2 != t362) = true := bne_iff_ne.mpr c86
                                    obtain rfl := Option.some.inj H
                                    obtain ⟨Ao90, co90, eo90⟩ := Kd.R_slice HO_4.out
                                    subst eo90
                                    obtain ⟨Ao91, co91, eo91⟩ := Kd.R_slice HO_8.out
                                    subst eo91
                                    have p370 : 0 ≤ (x18_2 : Int) := of_decide_eq_true (by first | (with_reducible assumption) | assumption)
                                    have q370 : x18_2 < (t353.length : Int) := of_decide_eq_true (by first | (with_reducible assumption) | assumption)
                                    obtain ⟨ad370, e370, hx370_0⟩ := Kd.at_int (Kd.R_reads' HO_8.out).2.2 x18_2 p370 q370
                                    cases e370
                                    replace p370 := eq_true p370
                                    replace q370 := eq_true q370
                                    have p371 : 0 ≤ (x18_2 : Int) := of_decide_eq_true (by first | (with_reducible assumption) | assumption)
                                    have q371 : x18_2 < (t345.length : Int) := of_decide_eq_true (by first | (with_reducible assumption) | assumption)
                                    obtain ⟨ad371, e371, hx371_0⟩ := Kd.at_int (Kd.R_reads' HO_4.out).2.2 x18_2 p371 q371
                                    cases e371
                                    replace p371 := eq_true p371
                                    replace q371 := eq_true q371
                                    have hcz92_0 : wr.cell? ⟨gb344, 0, none⟩ = some (.slice Ao14 t336.length co14) := (blk_cell BK344.out 0).trans rfl
                                    have hcz92_1 : wr.cell? ⟨gb344, 1, none⟩ = some (.int .i64 t339) := (blk_cell BK344.out 1).trans rfl
                                    have hcz92_2 : wr.cell? ⟨gb344, 2, none⟩ = some (.int .i64 t340) := (blk_cell BK344.out 2).trans rfl
                                    have hcz92_3 : wr.cell? ⟨gb344, 3, none⟩ = some (.int .i64 t341) := (blk_cell BK344.out 3).trans rfl
                                    have hcz92_4 : wr.cell? ⟨gb344, 4, none⟩ = some (.int .i64 t342) := (blk_cell BK344.out 4).trans rfl
                                    have hcz92_5 : wr.cell? ⟨gb344, 5, none⟩ = some (.int .i64 t343) := (blk_cell BK344.out 5).trans rfl
                                    have hfz92_0 := blk_frozen BK344.out 0
                                    have hfz92_1 := blk_frozen BK344.out 1
                                    have hfz92_2 := blk_frozen BK344.out 2
                                    have hfz92_3 := blk_frozen BK344.out 3
                                    have hfz92_4 := blk_frozen BK344.out 4
                                    have hfz92_5 := blk_frozen BK344.out 5
                                    have p372 : 0 ≤ (x18_2 : Int) := of_decide_eq_true (by first | (with_reducible assumption) | assumption)
                                    have q372 : x18_2 < (t336.length : Int) := of_decide_eq_true (by first | (with_reducible assumption) | assumption)
                                    obtain ⟨ad372, e372, hx372_0⟩ := Kd.at_int (Kd.R_reads' HO_345000.out).2.2 x18_2 p372 q372
                                    cases e372
                                    replace p372 := eq_true p372
                                    replace q372 := eq_true q372
                                    have p373 : 0 ≤ (x18_2 : Int) := of_decide_eq_true (by first | (with_reducible assumption) | assumption)
                                    have q373 : x18_2 < (t353.length : Int) := of_decide_eq_true (by first | (with_reducible assumption) | assumption)
                                    obtain ⟨ad373, e373, hx373_0⟩ := Kd.at_int (Kd.R_reads' HO_8.out).2.2 x18_2 p373 q373
                                    obtain rfl : ad370 = ad373 := (by injection e373)
                                    replace p373 := eq_true p373
                                    replace q373 := eq_true q373
                                    have p374 : 0 ≤ (x18_2 : Int) := of_decide_eq_true (by first | (with_reducible assumption) | assumption)
                                    have q374 : x18_2 < (t345.length : Int) := of_decide_eq_true (by first | (with_reducible assumption) | assumption)
                                    obtain ⟨ad374, e374, hx374_0⟩ := Kd.at_int (Kd.R_reads' HO_4.out).2.2 x18_2 p374 q374
                                    obtain rfl : ad371 = ad374 := (by injection e374)
                                    replace p374 := eq_true p374
                                    replace q374 := eq_true q374
                                    have p375 : 0 ≤ (x18_2 : Int) := of_decide_eq_true (by first | (with_reducible assumption) | assumption)
                                    have q375 : x18_2 < (t345.length : Int) := of_decide_eq_true (by first | (with_reducible assumption) | assumption)
                                    obtain ⟨ad375, e375, hx375_0⟩ := Kd.at_int (Kd.R_reads' HO_4.out).2.2 x18_2 p375 q375
                                    obtain rfl : ad371 = ad375 := (by injection e375)
                                    replace p375 := eq_true p375
                                    replace q375 := eq_true q375
                                    go_wp2
                                    repeat (go_quiet (fail); try go_wp2)
                                    go_ret
                                    exact ⟨by first | rfl | (simp [errW_none, errW_some] <;> rfl) | (simp [*, errW_none, errW_some] <;> rfl), by repeat (first | (with_reducible first | exact HB.out | apply below_alloc | apply pw_below_drewN | apply below_drew1 | refine below_set ?_ GE344.out) | exact HB.out)⟩
                              · rw [if_neg c81] at H
                                have c81b0 : decide (0 < (rd t345 x18_2)) = false := decide_eq_false c81
                                clear c81
                                have H' := Aside0.mk H
                                clear H
                                obtain ⟨Ao93, co93, eo93⟩ := Kd.R_slice HO_4.out
                                subst eo93
                                obtain ⟨Ao94, co94, eo94⟩ := Kd.R_slice HO_8.out
                                subst eo94
                                have p370 : 0 ≤ (x18_2 : Int) := of_decide_eq_true (by first | (with_reducible assumption) | assumption)
                                have q370 : x18_2 < (t353.length : Int) := of_decide_eq_true (by first | (with_reducible assumption) | assumption)
                                obtain ⟨ad370, e370, hx370_0⟩ := Kd.at_int (Kd.R_reads' HO_8.out).2.2 x18_2 p370 q370
                                cases e370
                                replace p370 := eq_true p370
                                replace q370 := eq_true q370
                                have p371 : 0 ≤ (x18_2 : Int) := of_decide_eq_true (by first | (with_reducible assumption) | assumption)
                                have q371 : x18_2 < (t345.length : Int) := of_decide_eq_true (by first | (with_reducible assumption) | assumption)
                                obtain ⟨ad371, e371, hx371_0⟩ := Kd.at_int (Kd.R_reads' HO_4.out).2.2 x18_2 p371 q371
                                cases e371
                                replace p371 := eq_true p371
                                replace q371 := eq_true q371
                                have hcz95_0 : wr.cell? ⟨gb344, 0, none⟩ = some (.slice Ao14 t336.length co14) := (blk_cell BK344.out 0).trans rfl
                                have hcz95_1 : wr.cell? ⟨gb344, 1, none⟩ = some (.int .i64 t339) := (blk_cell BK344.out 1).trans rfl
                                have hcz95_2 : wr.cell? ⟨gb344, 2, none⟩ = some (.int .i64 t340) := (blk_cell BK344.out 2).trans rfl
                                have hcz95_3 : wr.cell? ⟨gb344, 3, none⟩ = some (.int .i64 t341) := (blk_cell BK344.out 3).trans rfl
                                have hcz95_4 : wr.cell? ⟨gb344, 4, none⟩ = some (.int .i64 t342) := (blk_cell BK344.out 4).trans rfl
                                have hcz95_5 : wr.cell? ⟨gb344, 5, none⟩ = some (.int .i64 t343) := (blk_cell BK344.out 5).trans rfl
                                have hfz95_0 := blk_frozen BK344.out 0
                                have hfz95_1 := blk_frozen BK344.out 1
                                have hfz95_2 := blk_frozen BK344.out 2
                                have hfz95_3 := blk_frozen BK344.out 3
                                have hfz95_4 := blk_frozen BK344.out 4
                                have hfz95_5 := blk_frozen BK344.out 5
                                have p372 : 0 ≤ (x18_2 : Int) := of_decide_eq_true (by first | (with_reducible assumption) | assumption)
                                have q372 : x18_2 < (t336.length : Int) := of_decide_eq_true (by first | (with_reducible assumption) | assumption)
                                obtain ⟨ad372, e372, hx372_0⟩ := Kd.at_int (Kd.R_reads' HO_345000.out).2.2 x18_2 p372 q372
                                cases e372
                                replace p372 := eq_true p372
                                replace q372 := eq_true q372
                                have p373 : 0 ≤ (x18_2 : Int) := of_decide_eq_true (by first | (with_reducible assumption) | assumption)
                                have q373 : x18_2 < (t353.length : Int) := of_decide_eq_true (by first | (with_reducible assumption) | assumption)
                                obtain ⟨ad373, e373, hx373_0⟩ := Kd.at_int (Kd.R_reads' HO_8.out).2.2 x18_2 p373 q373
                                obtain rfl : ad370 = ad373 := (by injection e373)
                                replace p373 := eq_true p373
                                replace q373 := eq_true q373
                                have p374 : 0 ≤ (x18_2 : Int) := of_decide_eq_true (by first | (with_reducible assumption) | assumption)
                                have q374 : x18_2 < (t345.length : Int) := of_decide_eq_true (by first | (with_reducible assumption) | assumption)
                                obtain ⟨ad374, e374, hx374_0⟩ := Kd.at_int (Kd.R_reads' HO_4.out).2.2 x18_2 p374 q374
                                obtain rfl : ad371 = ad374 := (by injection e374)
                                replace p374 := eq_true p374
                                replace q374 := eq_true q374
                                have p375 : 0 ≤ (x18_2 : Int) := of_decide_eq_true (by first | (with_reducible assumption) | assumption)
                                have q375 : x18_2 < (t345.length : Int) := of_decide_eq_true (by first | (with_reducible assumption) | assumption)
                                obtain ⟨ad375, e375, hx375_0⟩ := Kd.at_int (Kd.R_reads' HO_4.out).2.2 x18_2 p375 q375
                                obtain rfl : ad371 = ad375 := (by injection e375)
                                replace p375 := eq_true p375
                                replace q375 := eq_true q375
                                go_wp2
                                repeat (go_quiet (fail); try go_wp2)
                                go_roundg k2
                                case measure => have := HJ10.out; have := HK2.out; omega
                                case rel => exact ⟨(wrap64 (x18_2 + 1)), (by first | rfl | (simp; done) | (simp [*]; done)), H', ⟨by have := HJ10.out; have := HK2.out; omega⟩, ⟨by (with_reducible repeat (first | apply Kd.R_alloc | apply Kd.R_drewN | apply Kd.R_drew)); exact HO_4.out⟩, ⟨by (with_reducible repeat (first | apply Kd.R_alloc | apply Kd.R_drewN | apply Kd.R_drew)); exact HO_8.out⟩, ⟨by (with_reducible repeat (first | apply Kd.R_alloc | apply Kd.R_drewN | apply Kd.R_drew)); exact HO_345000.out⟩, ⟨by (with_reducible repeat (first | refine blk_drewN ?_ _ | refine blk_drew ?_ | refine blk_alloc ?_ _)); exact BK344.out⟩, ⟨by repeat (first | (with_reducible first | exact HB.out | apply below_alloc | apply pw_below_drewN | apply below_drew1 | refine below_set ?_ GE344.out) | exact HB.out)⟩⟩
                      · rw [if_neg c68] at H
                        exact absurd H (by simp)
                    · rw [if_neg c67] at H
                      exact absurd H (by simp)
                  · rw [if_neg c66] at H
                    exact absurd H (by simp)
                · rw [if_neg c65] at H
                  have c65b0 : decide (x18_2 < (t345.length : Int)) = false := decide_eq_false c65
                  clear c65
                  obtain rfl := Option.some.inj H
                  obtain ⟨Ao96, co96, eo96⟩ := Kd.R_slice HO_4.out
                  subst eo96
                  go_wp2
                  repeat (go_quiet (fail); try go_wp2)
                  go_ret
                  exact ⟨by first | rfl | (simp [errW_none, errW_some] <;> rfl) | (simp [*, errW_none, errW_some] <;> rfl), by repeat (first | (with_reducible first | exact HB.out | apply below_alloc | apply pw_below_drewN | apply below_drew1 | refine below_set ?_ GE344.out) | exact HB.out)⟩
          · rw [if_neg c64] at H
            have c64b0 : (t348 == 0) = false := beq_eq_false_iff_ne.mpr c64
            have c64b1 : (t348 != 0) = true := bne_iff_ne.mpr c64
            obtain rfl := Option.some.inj H
            go_wp2
            repeat (go_quiet (fail); try go_wp2)
            go_ret
            exact ⟨by first | rfl | (simp [errW_none, errW_some] <;> rfl) | (simp [*, errW_none, errW_some] <;> rfl), by repeat (first | (with_reducible first | exact HB.out | apply below_alloc | apply pw_below_drewN | apply below_drew1 | refine below_set ?_ GE344.out) | exact HB.out)⟩
def laws_FnBlinds.Pure : Prop := ∀ (l0 : List Int), l0.length ≤ maxLen → l0.length * 1 ≤ 140737488351232 → (∀ x ∈ l0, (Lit.int .u8 x).wf = true) → ∃ k, laws_FnBlinds.f k l0 = some true
theorem laws_FnBlinds.walk (P : laws_FnBlinds.Pure) (a0 : Option Addr) (len0 cap0 : Nat) (z0 : List Int) (w : World) (w0 : (a0 = none ∧ len0 = 0 ∧ cap0 = 0 ∧ z0 = []) ∨ ∃ x, a0 = some x ∧ len0 ≤ cap0 ∧ cap0 ≤ maxLen ∧ z0.length = cap0 ∧ (∀ i, i < z0.length → w.cell? (x.add i) = some (.int .u8 (z0.getD i 0))) ∧ ∀ n ∈ z0, (Lit.int .u8 n).wf = true) (y0 : len0 * 1 ≤ 140737488351232) :
    Calls Try.prog 11 #[.slice a0 len0 cap0] w fun e w' => e = .returned (.bool true) ∧ Below w.heap.size w w' := by
  obtain ⟨l0, rfl, hr0, hm0, hw0, hc0⟩ := ReadsInt.ofRowC w0
  obtain ⟨k, h⟩ := P l0 hm0 y0 hw0
  refine (laws_FnBlinds.calls k _ _ l0 true w (Kd.C_of_reads (d := (0 : Int)) (h1 := fun _ => rfl) hr0) hc0 h).mono ?_
  rintro e w' ⟨rfl, hd⟩
  exact ⟨rfl, hd⟩
end Go.Proofs.Ytdagljakajpdjaa.QFnBlinds
