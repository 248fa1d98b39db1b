-- Written by a program of this session over the kit's print, with stand-ins for the functions that the print leaves; Lean checks it.
import Derived.Test.YtjjklpiiiihmlaaMFnChannelsx0
import Derived.Test.YtjjklpiiiihmlaaMFnChannelsx1
import Derived.Test.YtjjklpiiiihmlaaMFnChannelsx2
import Derived.Test.YtjjklpiiiihmlaaMFnChannelsx3
import Derived.Test.YtjjklpiiiihmlaaMFnChannelsx4
namespace Go.Proofs.Ytjjklpiiiihmlaa.MFnChannels
open Go.RowKit Go.Proofs.YtjjklpiiiihmlaaW.PrintWords Go.Proofs.YtjjklpiiiihmlaaW.PrintLast Go.Proofs.YtjjklpiiiihmlaaW.PrintMore
attribute [local go_sem] max2_int min2_int max_two min_two max_three min_three max_four min_four   -- for this text's walks alone
set_option linter.unusedVariables false
set_option linter.unusedSimpArgs false

/-! ### laws_FnChannels: function 12 -/
mutual
def laws_FnChannels.j0 : Nat → List Int → List Int → List Int → Bool → Option (Bool)
  | 0, _, _, _, _ => none
  | k + 1, x0, x3, x7, x44 => if x44 = true then (some false) else ((laws_at.f x0 0).bind fun t271 => ((laws_at.f x0 1).bind fun t272 => ((impl_ShortestEvents.f k (Int.tmod t271 5) (Int.tmod t272 5)).bind fun bt273 => ((impl_CanReach.f k (Int.tmod t271 5) (Int.tmod t272 5)).bind fun t277 => (if (bt273.2 != t277) = true then (laws_FnChannels.j1 k x0 x3 x7 (Int.tmod t271 5) (Int.tmod t272 5) bt273.1 bt273.2 true) else (if (Int.tmod t271 5) = 4 then (laws_FnChannels.j1 k x0 x3 x7 (Int.tmod t271 5) (Int.tmod t272 5) bt273.1 bt273.2 (bt273.2 != ((Int.tmod t272 5) == (Int.tmod t271 5)))) else (laws_FnChannels.j1 k x0 x3 x7 (Int.tmod t271 5) (Int.tmod t272 5) bt273.1 bt273.2 (bt273.2 != true))))))))
def laws_FnChannels.j1 : Nat → List Int → List Int → List Int → Int → Int → List Int → Bool → Bool → Option (Bool)
  | 0, _, _, _, _, _, _, _, _ => none
  | k + 1, x0, x3, x7, x8, x9, x10, x11, x72 => if x72 = true then (some false) else (laws_FnChannels.l0 k x0 x3 x7 x8 x9 x10 x11 x8 0)
def laws_FnChannels.l0 : Nat → List Int → List Int → List Int → Int → Int → List Int → Bool → Int → Int → Option (Bool)
  | 0, _, _, _, _, _, _, _, _, _ => none
  | k + 1, x0, x3, x7, x8, x9, x10, x11, x12, x13 => if x13 < (x10.length : Int) then (if 0 ≤ x13 then ((impl_StepChannel.f k x12 (rd x10 x13)).bind fun bt279 => (if bt279.2 = true then (laws_FnChannels.l0 k x0 x3 x7 x8 x9 x10 x11 bt279.1 (wrap64 (x13 + 1))) else (some false))) else (none)) else (if x11 = true then (laws_FnChannels.j3 k x0 x3 x7 x8 (x12 != x9)) else (laws_FnChannels.j3 k x0 x3 x7 x8 false))
def laws_FnChannels.j3 : Nat → List Int → List Int → List Int → Int → Bool → Option (Bool)
  | 0, _, _, _, _, _ => none
  | k + 1, x0, x3, x7, x8, x97 => if x97 = true then (some false) else ((impl_Watched.f k x3 x8).bind fun t281 => (laws_FnChannels.l1 k x0 x7 x8 t281 0 0 0))
def laws_FnChannels.l1 : Nat → List Int → List Int → Int → List Int → Int → Int → Int → Option (Bool)
  | 0, _, _, _, _, _, _, _ => none
  | k + 1, x0, x7, x8, x16, x17, x18, x19 => if x19 < (x7.length : Int) then (if x18 = x8 then (if 0 ≤ x19 then (laws_FnChannels.j5 k x0 x7 x8 x16 x17 x19 ((rd x7 x19) != x8)) else (none)) else (laws_FnChannels.j5 k x0 x7 x8 x16 x17 x19 false)) else ((laws_at.f x0 2).bind fun t284 => ((impl_StepChannel.f k 4 (Int.tmod t284 7)).bind fun bt285 => (if x17 = (x16.length : Int) then (if bt285.1 = 4 then (some (!bt285.2)) else (some false)) else (some false))))
def laws_FnChannels.j5 : Nat → List Int → List Int → Int → List Int → Int → Int → Bool → Option (Bool)
  | 0, _, _, _, _, _, _, _ => none
  | k + 1, x0, x7, x8, x16, x17, x19, x117 => if x117 = true then (if x17 ≥ (x16.length : Int) then (some false) else (if 0 ≤ x17 then (if x17 < (x16.length : Int) then (if (rd x16 x17) = x19 then (if 0 ≤ x19 then (if x19 < (x7.length : Int) then (laws_FnChannels.l1 k x0 x7 x8 x16 (wrap64 (x17 + 1)) (rd x7 x19) (wrap64 (x19 + 1))) else (none)) else (none)) else (some false)) else (none)) else (none))) else (if 0 ≤ x19 then (if x19 < (x7.length : Int) then (laws_FnChannels.l1 k x0 x7 x8 x16 x17 (rd x7 x19) (wrap64 (x19 + 1))) else (none)) else (none))
end
def laws_FnChannels.f (k : Nat) (l0 : List Int) : Option (Bool) := (laws_big.f l0).bind fun t258 => (if t258 = true then (some true) else ((spec_DrawPlayChannel.f k l0).bind fun t259 => ((spec_PlayChannel.f k t259).bind fun bt262 => ((impl_PlayChannel.f k t259).bind fun bt266 => (if bt266.1 = bt262.1 then ((laws_same.f k bt266.2 bt262.2).bind fun t270 => (laws_FnChannels.j0 k l0 t259 bt266.2 (!t270))) else (laws_FnChannels.j0 k l0 t259 bt266.2 true))))))
theorem laws_FnChannels.mono_l : ∀ k, (∀ y0 y1 y2 y3, LeO (laws_FnChannels.j0 k y0 y1 y2 y3) (laws_FnChannels.j0 (k + 1) y0 y1 y2 y3)) ∧ (∀ y0 y1 y2 y3 y4 y5 y6 y7, LeO (laws_FnChannels.j1 k y0 y1 y2 y3 y4 y5 y6 y7) (laws_FnChannels.j1 (k + 1) y0 y1 y2 y3 y4 y5 y6 y7)) ∧ (∀ y0 y1 y2 y3 y4 y5 y6 y7 y8, LeO (laws_FnChannels.l0 k y0 y1 y2 y3 y4 y5 y6 y7 y8) (laws_FnChannels.l0 (k + 1) y0 y1 y2 y3 y4 y5 y6 y7 y8)) ∧ (∀ y0 y1 y2 y3 y4, LeO (laws_FnChannels.j3 k y0 y1 y2 y3 y4) (laws_FnChannels.j3 (k + 1) y0 y1 y2 y3 y4)) ∧ (∀ y0 y1 y2 y3 y4 y5 y6, LeO (laws_FnChannels.l1 k y0 y1 y2 y3 y4 y5 y6) (laws_FnChannels.l1 (k + 1) y0 y1 y2 y3 y4 y5 y6)) ∧ (∀ y0 y1 y2 y3 y4 y5 y6, LeO (laws_FnChannels.j5 k y0 y1 y2 y3 y4 y5 y6) (laws_FnChannels.j5 (k + 1) y0 y1 y2 y3 y4 y5 y6))
  | 0 => ⟨fun _ _ _ _ r h => by simp [laws_FnChannels.j0] at h, fun _ _ _ _ _ _ _ _ r h => by simp [laws_FnChannels.j1] at h, fun _ _ _ _ _ _ _ _ _ r h => by simp [laws_FnChannels.l0] at h, fun _ _ _ _ _ r h => by simp [laws_FnChannels.j3] at h, fun _ _ _ _ _ _ _ r h => by simp [laws_FnChannels.l1] at h, fun _ _ _ _ _ _ _ r h => by simp [laws_FnChannels.j5] at h⟩
  | k + 1 => by
    obtain ⟨ih0, ih1, ih2, ih3, ih4, ih5⟩ := laws_FnChannels.mono_l k
    refine ⟨?_, ?_, ?_, ?_, ?_, ?_⟩
    · intro y0 y1 y2 y3
      unfold laws_FnChannels.j0
      repeat' first
      | (with_reducible exact ih0 _ _ _ _)
      | (with_reducible exact ih1 _ _ _ _ _ _ _ _)
      | (with_reducible exact ih2 _ _ _ _ _ _ _ _ _)
      | (with_reducible exact ih3 _ _ _ _ _)
      | (with_reducible exact ih4 _ _ _ _ _ _ _)
      | (with_reducible exact ih5 _ _ _ _ _ _ _)
      | (with_reducible exact impl_CanReach.mono _ _ _)
      | (with_reducible exact impl_PlayChannel.mono _ _)
      | (with_reducible exact impl_ShortestEvents.mono _ _ _)
      | (with_reducible exact impl_StepChannel.mono _ _ _)
      | (with_reducible exact impl_Watched.mono _ _ _)
      | (with_reducible exact laws_same.mono _ _ _)
      | (with_reducible exact spec_DrawPlayChannel.mono _ _)
      | (with_reducible exact spec_PlayChannel.mono _ _)
      | (with_reducible exact LeO.refl _)
      | (with_reducible exact LeO.none _)
      | (with_reducible refine LeO.ite ?_ ?_)
      | (with_reducible refine LeO.bind ?_ (fun _ => ?_))
      | exact ih0 _ _ _ _
      | exact ih1 _ _ _ _ _ _ _ _
      | exact ih2 _ _ _ _ _ _ _ _ _
      | exact ih3 _ _ _ _ _
      | exact ih4 _ _ _ _ _ _ _
      | exact ih5 _ _ _ _ _ _ _
      | exact impl_CanReach.mono _ _ _
      | exact impl_PlayChannel.mono _ _
      | exact impl_ShortestEvents.mono _ _ _
      | exact impl_StepChannel.mono _ _ _
      | exact impl_Watched.mono _ _ _
      | exact laws_same.mono _ _ _
      | exact spec_DrawPlayChannel.mono _ _
      | exact spec_PlayChannel.mono _ _
      | exact LeO.none _
      | refine LeO.ite ?_ ?_
      | refine LeO.bind ?_ (fun _ => ?_)
    · intro y0 y1 y2 y3 y4 y5 y6 y7
      unfold laws_FnChannels.j1
      repeat' first
      | (with_reducible exact ih0 _ _ _ _)
      | (with_reducible exact ih1 _ _ _ _ _ _ _ _)
      | (with_reducible exact ih2 _ _ _ _ _ _ _ _ _)
      | (with_reducible exact ih3 _ _ _ _ _)
      | (with_reducible exact ih4 _ _ _ _ _ _ _)
      | (with_reducible exact ih5 _ _ _ _ _ _ _)
      | (with_reducible exact impl_CanReach.mono _ _ _)
      | (with_reducible exact impl_PlayChannel.mono _ _)
      | (with_reducible exact impl_ShortestEvents.mono _ _ _)
      | (with_reducible exact impl_StepChannel.mono _ _ _)
      | (with_reducible exact impl_Watched.mono _ _ _)
      | (with_reducible exact laws_same.mono _ _ _)
      | (with_reducible exact spec_DrawPlayChannel.mono _ _)
      | (with_reducible exact spec_PlayChannel.mono _ _)
      | (with_reducible exact LeO.refl _)
      | (with_reducible exact LeO.none _)
      | (with_reducible refine LeO.ite ?_ ?_)
      | (with_reducible refine LeO.bind ?_ (fun _ => ?_))
      | exact ih0 _ _ _ _
      | exact ih1 _ _ _ _ _ _ _ _
      | exact ih2 _ _ _ _ _ _ _ _ _
      | exact ih3 _ _ _ _ _
      | exact ih4 _ _ _ _ _ _ _
      | exact ih5 _ _ _ _ _ _ _
      | exact impl_CanReach.mono _ _ _
      | exact impl_PlayChannel.mono _ _
      | exact impl_ShortestEvents.mono _ _ _
      | exact impl_StepChannel.mono _ _ _
      | exact impl_Watched.mono _ _ _
      | exact laws_same.mono _ _ _
      | exact spec_DrawPlayChannel.mono _ _
      | exact spec_PlayChannel.mono _ _
      | exact LeO.none _
      | refine LeO.ite ?_ ?_
      | refine LeO.bind ?_ (fun _ => ?_)
    · intro y0 y1 y2 y3 y4 y5 y6 y7 y8
      unfold laws_FnChannels.l0
      repeat' first
      | (with_reducible exact ih0 _ _ _ _)
      | (with_reducible exact ih1 _ _ _ _ _ _ _ _)
      | (with_reducible exact ih2 _ _ _ _ _ _ _ _ _)
      | (with_reducible exact ih3 _ _ _ _ _)
      | (with_reducible exact ih4 _ _ _ _ _ _ _)
      | (with_reducible exact ih5 _ _ _ _ _ _ _)
      | (with_reducible exact impl_CanReach.mono _ _ _)
      | (with_reducible exact impl_PlayChannel.mono _ _)
      | (with_reducible exact impl_ShortestEvents.mono _ _ _)
      | (with_reducible exact impl_StepChannel.mono _ _ _)
      | (with_reducible exact impl_Watched.mono _ _ _)
      | (with_reducible exact laws_same.mono _ _ _)
      | (with_reducible exact spec_DrawPlayChannel.mono _ _)
      | (with_reducible exact spec_PlayChannel.mono _ _)
      | (with_reducible exact LeO.refl _)
      | (with_reducible exact LeO.none _)
      | (with_reducible refine LeO.ite ?_ ?_)
      | (with_reducible refine LeO.bind ?_ (fun _ => ?_))
      | exact ih0 _ _ _ _
      | exact ih1 _ _ _ _ _ _ _ _
      | exact ih2 _ _ _ _ _ _ _ _ _
      | exact ih3 _ _ _ _ _
      | exact ih4 _ _ _ _ _ _ _
      | exact ih5 _ _ _ _ _ _ _
      | exact impl_CanReach.mono _ _ _
      | exact impl_PlayChannel.mono _ _
      | exact impl_ShortestEvents.mono _ _ _
      | exact impl_StepChannel.mono _ _ _
      | exact impl_Watched.mono _ _ _
      | exact laws_same.mono _ _ _
      | exact spec_DrawPlayChannel.mono _ _
      | exact spec_PlayChannel.mono _ _
      | exact LeO.none _
      | refine LeO.ite ?_ ?_
      | refine LeO.bind ?_ (fun _ => ?_)
    · intro y0 y1 y2 y3 y4
      unfold laws_FnChannels.j3
      repeat' first
      | (with_reducible exact ih0 _ _ _ _)
      | (with_reducible exact ih1 _ _ _ _ _ _ _ _)
      | (with_reducible exact ih2 _ _ _ _ _ _ _ _ _)
      | (with_reducible exact ih3 _ _ _ _ _)
      | (with_reducible exact ih4 _ _ _ _ _ _ _)
      | (with_reducible exact ih5 _ _ _ _ _ _ _)
      | (with_reducible exact impl_CanReach.mono _ _ _)
      | (with_reducible exact impl_PlayChannel.mono _ _)
      | (with_reducible exact impl_ShortestEvents.mono _ _ _)
      | (with_reducible exact impl_StepChannel.mono _ _ _)
      | (with_reducible exact impl_Watched.mono _ _ _)
      | (with_reducible exact laws_same.mono _ _ _)
      | (with_reducible exact spec_DrawPlayChannel.mono _ _)
      | (with_reducible exact spec_PlayChannel.mono _ _)
      | (with_reducible exact LeO.refl _)
      | (with_reducible exact LeO.none _)
      | (with_reducible refine LeO.ite ?_ ?_)
      | (with_reducible refine LeO.bind ?_ (fun _ => ?_))
      | exact ih0 _ _ _ _
      | exact ih1 _ _ _ _ _ _ _ _
      | exact ih2 _ _ _ _ _ _ _ _ _
      | exact ih3 _ _ _ _ _
      | exact ih4 _ _ _ _ _ _ _
      | exact ih5 _ _ _ _ _ _ _
      | exact impl_CanReach.mono _ _ _
      | exact impl_PlayChannel.mono _ _
      | exact impl_ShortestEvents.mono _ _ _
      | exact impl_StepChannel.mono _ _ _
      | exact impl_Watched.mono _ _ _
      | exact laws_same.mono _ _ _
      | exact spec_DrawPlayChannel.mono _ _
      | exact spec_PlayChannel.mono _ _
      | exact LeO.none _
      | refine LeO.ite ?_ ?_
      | refine LeO.bind ?_ (fun _ => ?_)
    · intro y0 y1 y2 y3 y4 y5 y6
      unfold laws_FnChannels.l1
      repeat' first
      | (with_reducible exact ih0 _ _ _ _)
      | (with_reducible exact ih1 _ _ _ _ _ _ _ _)
      | (with_reducible exact ih2 _ _ _ _ _ _ _ _ _)
      | (with_reducible exact ih3 _ _ _ _ _)
      | (with_reducible exact ih4 _ _ _ _ _ _ _)
      | (with_reducible exact ih5 _ _ _ _ _ _ _)
      | (with_reducible exact impl_CanReach.mono _ _ _)
      | (with_reducible exact impl_PlayChannel.mono _ _)
      | (with_reducible exact impl_ShortestEvents.mono _ _ _)
      | (with_reducible exact impl_StepChannel.mono _ _ _)
      | (with_reducible exact impl_Watched.mono _ _ _)
      | (with_reducible exact laws_same.mono _ _ _)
      | (with_reducible exact spec_DrawPlayChannel.mono _ _)
      | (with_reducible exact spec_PlayChannel.mono _ _)
      | (with_reducible exact LeO.refl _)
      | (with_reducible exact LeO.none _)
      | (with_reducible refine LeO.ite ?_ ?_)
      | (with_reducible refine LeO.bind ?_ (fun _ => ?_))
      | exact ih0 _ _ _ _
      | exact ih1 _ _ _ _ _ _ _ _
      | exact ih2 _ _ _ _ _ _ _ _ _
      | exact ih3 _ _ _ _ _
      | exact ih4 _ _ _ _ _ _ _
      | exact ih5 _ _ _ _ _ _ _
      | exact impl_CanReach.mono _ _ _
      | exact impl_PlayChannel.mono _ _
      | exact impl_ShortestEvents.mono _ _ _
      | exact impl_StepChannel.mono _ _ _
      | exact impl_Watched.mono _ _ _
      | exact laws_same.mono _ _ _
      | exact spec_DrawPlayChannel.mono _ _
      | exact spec_PlayChannel.mono _ _
      | exact LeO.none _
      | refine LeO.ite ?_ ?_
      | refine LeO.bind ?_ (fun _ => ?_)
    · intro y0 y1 y2 y3 y4 y5 y6
      unfold laws_FnChannels.j5
      repeat' first
      | (with_reducible exact ih0 _ _ _ _)
      | (with_reducible exact ih1 _ _ _ _ _ _ _ _)
      | (with_reducible exact ih2 _ _ _ _ _ _ _ _ _)
      | (with_reducible exact ih3 _ _ _ _ _)
      | (with_reducible exact ih4 _ _ _ _ _ _ _)
      | (with_reducible exact ih5 _ _ _ _ _ _ _)
      | (with_reducible exact impl_CanReach.mono _ _ _)
      | (with_reducible exact impl_PlayChannel.mono _ _)
      | (with_reducible exact impl_ShortestEvents.mono _ _ _)
      | (with_reducible exact impl_StepChannel.mono _ _ _)
      | (with_reducible exact impl_Watched.mono _ _ _)
      | (with_reducible exact laws_same.mono _ _ _)
      | (with_reducible exact spec_DrawPlayChannel.mono _ _)
      | (with_reducible exact spec_PlayChannel.mono _ _)
      | (with_reducible exact LeO.refl _)
      | (with_reducible exact LeO.none _)
      | (with_reducible refine LeO.ite ?_ ?_)
      | (with_reducible refine LeO.bind ?_ (fun _ => ?_))
      | exact ih0 _ _ _ _
      | exact ih1 _ _ _ _ _ _ _ _
      | exact ih2 _ _ _ _ _ _ _ _ _
      | exact ih3 _ _ _ _ _
      | exact ih4 _ _ _ _ _ _ _
      | exact ih5 _ _ _ _ _ _ _
      | exact impl_CanReach.mono _ _ _
      | exact impl_PlayChannel.mono _ _
      | exact impl_ShortestEvents.mono _ _ _
      | exact impl_StepChannel.mono _ _ _
      | exact impl_Watched.mono _ _ _
      | exact laws_same.mono _ _ _
      | exact spec_DrawPlayChannel.mono _ _
      | exact spec_PlayChannel.mono _ _
      | exact LeO.none _
      | refine LeO.ite ?_ ?_
      | refine LeO.bind ?_ (fun _ => ?_)
theorem laws_FnChannels.mono : ∀ a0 k, LeO (laws_FnChannels.f k a0) (laws_FnChannels.f (k + 1) a0) := by
  intro a0 k
  obtain ⟨ih0, ih1, ih2, ih3, ih4, ih5⟩ := laws_FnChannels.mono_l k
  unfold laws_FnChannels.f
  repeat' first
      | (with_reducible exact ih0 _ _ _ _)
      | (with_reducible exact ih1 _ _ _ _ _ _ _ _)
      | (with_reducible exact ih2 _ _ _ _ _ _ _ _ _)
      | (with_reducible exact ih3 _ _ _ _ _)
      | (with_reducible exact ih4 _ _ _ _ _ _ _)
      | (with_reducible exact ih5 _ _ _ _ _ _ _)
      | (with_reducible exact impl_CanReach.mono _ _ _)
      | (with_reducible exact impl_PlayChannel.mono _ _)
      | (with_reducible exact impl_ShortestEvents.mono _ _ _)
      | (with_reducible exact impl_StepChannel.mono _ _ _)
      | (with_reducible exact impl_Watched.mono _ _ _)
      | (with_reducible exact laws_same.mono _ _ _)
      | (with_reducible exact spec_DrawPlayChannel.mono _ _)
      | (with_reducible exact spec_PlayChannel.mono _ _)
      | (with_reducible exact LeO.refl _)
      | (with_reducible exact LeO.none _)
      | (with_reducible refine LeO.ite ?_ ?_)
      | (with_reducible refine LeO.bind ?_ (fun _ => ?_))
      | exact ih0 _ _ _ _
      | exact ih1 _ _ _ _ _ _ _ _
      | exact ih2 _ _ _ _ _ _ _ _ _
      | exact ih3 _ _ _ _ _
      | exact ih4 _ _ _ _ _ _ _
      | exact ih5 _ _ _ _ _ _ _
      | exact impl_CanReach.mono _ _ _
      | exact impl_PlayChannel.mono _ _
      | exact impl_ShortestEvents.mono _ _ _
      | exact impl_StepChannel.mono _ _ _
      | exact impl_Watched.mono _ _ _
      | exact laws_same.mono _ _ _
      | exact spec_DrawPlayChannel.mono _ _
      | exact spec_PlayChannel.mono _ _
      | exact LeO.none _
      | refine LeO.ite ?_ ?_
      | refine LeO.bind ?_ (fun _ => ?_)
set_option maxHeartbeats 40000000 in
set_option maxRecDepth 100000 in
theorem laws_FnChannels.calls (k : Nat) (A0 : Option Addr) (c0 : Nat) (l0 : List Int) (r : Bool) (w : World) (hr0 : Kd.C (Kd.int .u8) w A0 l0.length l0) (hc0 : l0.length ≤ c0) (h : laws_FnChannels.f k l0 = some r) :
    Calls Try.prog 12 #[.slice A0 l0.length c0] w fun e w' => e = .returned (.bool r) ∧ Below w.heap.size w w' := by
  have HR0 := Aside0.mk hr0
  have HC0 := Aside0.mk hc0
  clear hr0 hc0
  have HB := Aside0.mk (Below.refl w.heap.size w)
  have H : ((laws_big.f l0).bind fun t258 => (if t258 = true then (some true) else ((spec_DrawPlayChannel.f k l0).bind fun t259 => ((spec_PlayChannel.f k t259).bind fun bt262 => ((impl_PlayChannel.f k t259).bind fun bt266 => (if bt266.1 = bt262.1 then ((laws_same.f k bt266.2 bt262.2).bind fun t270 => (laws_FnChannels.j0 k l0 t259 bt266.2 (!t270))) else (laws_FnChannels.j0 k l0 t259 bt266.2 true))))))) = some r := h
  clear h
  replace H := Option.bind_eq_some_iff.mp H
  obtain ⟨t258, A20, H⟩ := H
  replace H : (if t258 = true then (some true) else ((spec_DrawPlayChannel.f k l0).bind fun t259 => ((spec_PlayChannel.f k t259).bind fun bt262 => ((impl_PlayChannel.f k t259).bind fun bt266 => (if bt266.1 = bt262.1 then ((laws_same.f k bt266.2 bt262.2).bind fun t270 => (laws_FnChannels.j0 k l0 t259 bt266.2 (!t270))) else (laws_FnChannels.j0 k l0 t259 bt266.2 true)))))) = some r := H
  have A2 := Aside0.mk A20
  clear A20
  by_cases c3 : t258 = true
  · subst c3
    have H1 : (some true) = some r := by rw [if_pos rfl] at H; exact H
    clear H
    have H := H1
    clear H1
    obtain rfl := Option.some.inj H
    go_enter Try.func12, Try.ntmps12
    go_wp2_with (first | ((with_reducible refine gate_callee (f := 41) rfl ?_); refine goesL_ (some 23) rfl rfl Try.func41 (by kernel_rfl) rfl #[.slice A0 l0.length c0] rfl (by (try simp only [List.map_toArray, List.map_cons, List.map_nil]); first | done | rfl | (simp only [List.length_drop, List.length_take]; rfl)) ?_; (with_reducible refine (laws_big.calls _ _ l0 true _ ?side1 ?side2 A2.out).mono ?_); (case side1 => repeat (first | exact HR0.out | (with_reducible refine Kd.C_alloc ?_ _) | (with_reducible refine Kd.C_drewN ?_ _) | (with_reducible refine Kd.C_drew ?_))); (case side2 => exact HC0.out); rintro e w' ⟨rfl, ⟨nd, rfl⟩⟩; refine ⟨_, rfl, ?_⟩))
    go_ret
    exact ⟨by first | rfl | (simp [errW_none, errW_some] <;> rfl) | (simp [*, errW_none, errW_some] <;> rfl), by repeat (first | (with_reducible first | exact HB.out | apply below_alloc | apply pw_below_drewN | apply below_drew1) | exact HB.out)⟩
  · replace c3 := Bool.eq_false_iff.mpr c3
    subst c3
    have H1 : ((spec_DrawPlayChannel.f k l0).bind fun t259 => ((spec_PlayChannel.f k t259).bind fun bt262 => ((impl_PlayChannel.f k t259).bind fun bt266 => (if bt266.1 = bt262.1 then ((laws_same.f k bt266.2 bt262.2).bind fun t270 => (laws_FnChannels.j0 k l0 t259 bt266.2 (!t270))) else (laws_FnChannels.j0 k l0 t259 bt266.2 true))))) = some r := by rw [if_neg (show ¬ (false = true) by decide)] at H; exact H
    clear H
    have H := H1
    clear H1
    replace H := Option.bind_eq_some_iff.mp H
    obtain ⟨t259, A40, H⟩ := H
    replace H : ((spec_PlayChannel.f k t259).bind fun bt262 => ((impl_PlayChannel.f k t259).bind fun bt266 => (if bt266.1 = bt262.1 then ((laws_same.f k bt266.2 bt262.2).bind fun t270 => (laws_FnChannels.j0 k l0 t259 bt266.2 (!t270))) else (laws_FnChannels.j0 k l0 t259 bt266.2 true)))) = some r := H
    have A4 := Aside0.mk A40
    clear A40
    replace H := Option.bind_eq_some_iff.mp H
    obtain ⟨⟨t262, t263⟩, A50, H⟩ := H
    replace H : ((impl_PlayChannel.f k t259).bind fun bt266 => (if bt266.1 = t262 then ((laws_same.f k bt266.2 t263).bind fun t270 => (laws_FnChannels.j0 k l0 t259 bt266.2 (!t270))) else (laws_FnChannels.j0 k l0 t259 bt266.2 true))) = some r := H
    have A5 := Aside0.mk A50
    clear A50
    replace H := Option.bind_eq_some_iff.mp H
    obtain ⟨⟨t266, t267⟩, A60, H⟩ := H
    replace H : (if t266 = t262 then ((laws_same.f k t267 t263).bind fun t270 => (laws_FnChannels.j0 k l0 t259 t267 (!t270))) else (laws_FnChannels.j0 k l0 t259 t267 true)) = some r := H
    have A6 := Aside0.mk A60
    clear A60
    have HC7 := Aside0.mk H
    clear H
    go_enter Try.func12, Try.ntmps12
    go_upto_region 6 with (first | ((with_reducible refine gate_callee (f := 41) rfl ?_); refine goesL_ (some 23) rfl rfl Try.func41 (by kernel_rfl) rfl #[.slice A0 l0.length c0] rfl (by (try simp only [List.map_toArray, List.map_cons, List.map_nil]); first | done | rfl | (simp only [List.length_drop, List.length_take]; rfl)) ?_; (with_reducible refine (laws_big.calls _ _ l0 false _ ?side1 ?side2 A2.out).mono ?_); (case side1 => repeat (first | exact HR0.out | (with_reducible refine Kd.C_alloc ?_ _) | (with_reducible refine Kd.C_drewN ?_ _) | (with_reducible refine Kd.C_drew ?_))); (case side2 => exact HC0.out); rintro e w' ⟨rfl, ⟨nd, rfl⟩⟩; refine ⟨_, rfl, ?_⟩) | ((with_reducible refine gate_callee (f := 42) rfl ?_); refine goesL_ (some 25) rfl rfl Try.func42 (by kernel_rfl) rfl #[.slice A0 l0.length c0] rfl (by (try simp only [List.map_toArray, List.map_cons, List.map_nil]); first | done | rfl | (simp only [List.length_drop, List.length_take]; rfl)) ?_; (with_reducible refine (spec_DrawPlayChannel.calls k _ _ l0 t259 _ ?side1 ?side2 A4.out).mono ?_); (case side1 => repeat (first | exact HR0.out | (with_reducible refine Kd.C_alloc ?_ _) | (with_reducible refine Kd.C_drewN ?_ _) | (with_reducible refine Kd.C_drew ?_))); (case side2 => exact HC0.out); rintro e w8 ⟨v260, rfl, ho0, hb⟩; refine ⟨_, rfl, ?_⟩; have n0_ := Aside0.mk (Kd.R_lower ho0 (below_size (by repeat (first | (with_reducible first | exact HB.out | apply below_alloc | apply pw_below_drewN | apply below_drew1) | exact HB.out)))); have n1_ := Aside0.mk (below_step (by repeat (first | (with_reducible first | exact HB.out | apply below_alloc | apply pw_below_drewN | apply below_drew1) | exact HB.out)) hb); clear HB; have HO261 := n0_; have HB := n1_; clear n0_ n1_; (try clear hb); (try clear hb2); (try clear hk); (try clear hi); (try clear ho0); obtain ⟨Ao9, co9, eo9⟩ := Kd.R_slice HO261.out; subst eo9) | ((with_reducible refine gate_callee (f := 23) rfl ?_); refine goesL_ (some 28) rfl rfl Try.func23 (by kernel_rfl) rfl #[.slice Ao9 t259.length co9] rfl (by (try simp only [List.map_toArray, List.map_cons, List.map_nil]); first | done | rfl | (simp only [List.length_drop, List.length_take]; rfl)) ?_; (with_reducible refine (spec_PlayChannel.calls k _ _ t259 t262 t263 _ ?side1 ?side2 A5.out).mono ?_); (case side1 => repeat (first | exact (Kd.R_reads' HO261.out).2.2 | (with_reducible refine Kd.C_alloc ?_ _) | (with_reducible refine Kd.C_drewN ?_ _) | (with_reducible refine Kd.C_drew ?_))); (case side2 => exact (Kd.R_reads' HO261.out).2.1); rintro e w10 ⟨v264, rfl, ho0, hb⟩; refine ⟨_, rfl, ?_⟩; have n0_ := Aside0.mk (Kd.R_elder' (by (with_reducible repeat (first | apply Kd.R_alloc | apply Kd.R_drewN | apply Kd.R_drew)); exact HO261.out) (Kd.R_base ho0) hb); have n1_ := Aside0.mk (Kd.R_lower (Kd.R_new' ho0 (Kd.R_lt (by (with_reducible repeat (first | apply Kd.R_alloc | apply Kd.R_drewN | apply Kd.R_drew)); exact HO261.out))) (below_size (by repeat (first | (with_reducible first | exact HB.out | apply below_alloc | apply pw_below_drewN | apply below_drew1) | exact HB.out)))); have n2_ := Aside0.mk (below_step (by repeat (first | (with_reducible first | exact HB.out | apply below_alloc | apply pw_below_drewN | apply below_drew1) | exact HB.out)) hb); clear HO261; clear HB; have HO261 := n0_; have HO265 := n1_; have HB := n2_; clear n0_ n1_ n2_; (try clear hb); (try clear hb2); (try clear hk); (try clear hi); (try clear ho0)) | ((with_reducible refine gate_callee (f := 25) rfl ?_); refine goesL_ (some 33) rfl rfl Try.func25 (by kernel_rfl) rfl #[.slice Ao9 t259.length co9] rfl (by (try simp only [List.map_toArray, List.map_cons, List.map_nil]); first | done | rfl | (simp only [List.length_drop, List.length_take]; rfl)) ?_; (with_reducible refine (impl_PlayChannel.calls k _ _ t259 t266 t267 _ ?side1 ?side2 A6.out).mono ?_); (case side1 => repeat (first | exact (Kd.R_reads' HO261.out).2.2 | (with_reducible refine Kd.C_alloc ?_ _) | (with_reducible refine Kd.C_drewN ?_ _) | (with_reducible refine Kd.C_drew ?_))); (case side2 => exact (Kd.R_reads' HO261.out).2.1); rintro e w11 ⟨v268, rfl, ho0, hb⟩; refine ⟨_, rfl, ?_⟩; have n0_ := Aside0.mk (Kd.R_elder' (by (with_reducible repeat (first | apply Kd.R_alloc | apply Kd.R_drewN | apply Kd.R_drew)); exact HO261.out) (Kd.R_base ho0) hb); have n1_ := Aside0.mk (Kd.R_elder' (by (with_reducible repeat (first | apply Kd.R_alloc | apply Kd.R_drewN | apply Kd.R_drew)); exact HO265.out) (Kd.R_base ho0) hb); have n2_ := Aside0.mk (Kd.R_lower (Kd.R_new' (Kd.R_new' ho0 (Kd.R_lt (by (with_reducible repeat (first | apply Kd.R_alloc | apply Kd.R_drewN | apply Kd.R_drew)); exact HO261.out))) (Kd.R_lt (by (with_reducible repeat (first | apply Kd.R_alloc | apply Kd.R_drewN | apply Kd.R_drew)); exact HO265.out))) (below_size (by repeat (first | (with_reducible first | exact HB.out | apply below_alloc | apply pw_below_drewN | apply below_drew1) | exact HB.out)))); have n3_ := Aside0.mk (below_step (by repeat (first | (with_reducible first | exact HB.out | apply below_alloc | apply pw_below_drewN | apply below_drew1) | exact HB.out)) hb); clear HO261; clear HO265; clear HB; have HO261 := n0_; have HO265 := n1_; have HO269 := n2_; have HB := n3_; clear n0_ n1_ n2_ n3_; (try clear hb); (try clear hb2); (try clear hk); (try clear hi); (try clear ho0)))
    (try simp only [Act.put, List.setIfInBounds_toArray, List.set_cons_zero, List.set_cons_succ])
    go_cut [44] (fun zv44 wc => ∃ (kq : Nat) (x44_6 : Bool), zv44 = .bool x44_6 ∧ Aside0 (laws_FnChannels.j0 kq l0 t259 t267 x44_6 = some r) ∧ Aside0 (kq ≤ k) ∧ Aside0 (Kd.R (Kd.int .i64) 3 wc w.heap.size (fun k_ => some k_ ≠ (v268 : Value).ownBlock) (.slice Ao9 t259.length co9) t259) ∧ Aside0 (Kd.R (Kd.int .i64) 3 wc w.heap.size (fun k_ => some k_ ≠ ((.slice Ao9 t259.length co9) : Value).ownBlock) v268 t267) ∧ Aside0 (Below w.heap.size w wc))
    case first =>
      have H := HC7.out
      clear HC7
      by_cases c12 : t266 = t262
      · rw [if_pos c12] at H
        have c12b0 : (t266 == t262) = true := beq_iff_eq.mpr c12
        have c12b1 : (t266 != t262) = false := bne_eq_false_iff_eq.mpr c12
        clear c12
        (first | rw [c12b0] | (simp only [i64_w, i32_w]; rw [c12b0]) | skip)
        replace H := Option.bind_eq_some_iff.mp H
        obtain ⟨t270, A130, H⟩ := H
        replace H : (laws_FnChannels.j0 k l0 t259 t267 (!t270)) = some r := H
        have A13 := Aside0.mk A130
        clear A130
        have H' := Aside0.mk H
        clear H
        obtain ⟨Ao14, co14, eo14⟩ := Kd.R_slice HO269.out
        subst eo14
        obtain ⟨Ao15, co15, eo15⟩ := Kd.R_slice HO265.out
        subst eo15
        go_wp2_with (first | (go_at_call 43; (with_reducible refine (laws_same.calls k _ _ t267 _ _ t263 t270 _ ?side1 ?side2 ?side3 ?side4 A13.out).mono ?_); (case side1 => repeat (first | exact (Kd.R_reads' HO269.out).2.2 | (with_reducible refine Kd.C_alloc ?_ _) | (with_reducible refine Kd.C_drewN ?_ _) | (with_reducible refine Kd.C_drew ?_))); (case side2 => exact (Kd.R_reads' HO269.out).2.1); (case side3 => repeat (first | exact (Kd.R_reads' HO265.out).2.2 | (with_reducible refine Kd.C_alloc ?_ _) | (with_reducible refine Kd.C_drewN ?_ _) | (with_reducible refine Kd.C_drew ?_))); (case side4 => exact (Kd.R_reads' HO265.out).2.1); rintro e w' ⟨rfl, ⟨nd, rfl⟩⟩))
        go_meet
        case rel => exact ⟨_, (!t270), (by first | rfl | (simp; done) | (simp [*]; done)), H', ⟨by first | omega | exact Nat.le_refl _⟩, ⟨by (with_reducible repeat (first | apply Kd.R_alloc | apply Kd.R_drewN | apply Kd.R_drew)); exact Kd.R_mono HO261.out (fun _ hk => hk.2)⟩, ⟨by (with_reducible repeat (first | apply Kd.R_alloc | apply Kd.R_drewN | apply Kd.R_drew)); exact Kd.R_mono HO269.out (fun _ hk => hk.1.2)⟩, ⟨by repeat (first | (with_reducible first | exact HB.out | apply below_alloc | apply pw_below_drewN | apply below_drew1) | exact HB.out)⟩⟩
      · rw [if_neg c12] at H
        have c12b0 : (t266 == t262) = false := beq_eq_false_iff_ne.mpr c12
        have c12b1 : (t266 != t262) = true := bne_iff_ne.mpr c12
        (first | rw [c12b0] | (simp only [i64_w, i32_w]; rw [c12b0]) | skip)
        have H' := Aside0.mk H
        clear H
        go_wp2
        go_meet
        case rel => exact ⟨_, (true), (by first | rfl | (simp; done) | (simp [*]; done)), H', ⟨by first | omega | exact Nat.le_refl _⟩, ⟨by (with_reducible repeat (first | apply Kd.R_alloc | apply Kd.R_drewN | apply Kd.R_drew)); exact Kd.R_mono HO261.out (fun _ hk => hk.2)⟩, ⟨by (with_reducible repeat (first | apply Kd.R_alloc | apply Kd.R_drewN | apply Kd.R_drew)); exact Kd.R_mono HO269.out (fun _ hk => hk.1.2)⟩, ⟨by repeat (first | (with_reducible first | exact HB.out | apply below_alloc | apply pw_below_drewN | apply below_drew1) | exact HB.out)⟩⟩
    case rest =>
      clear HC7
      try clear c1
      try clear c2
      try clear p2
      try clear c3
      try clear c4
      try clear c12
      try clear c12b0
      try clear c12b1
      obtain ⟨kq, x44_6, rfl, HA, HJ6, HO_3, HO_7, HB⟩ := hcut
      cases kq with
      | zero => exact absurd HA.out (by simp [laws_FnChannels.j0])
      | succ kj6 =>
        have H := HA.out
        clear HA
        simp only [laws_FnChannels.j0] at H
        by_cases c16 : x44_6 = true
        · subst c16
          have H1 : (some false) = some r := by rw [if_pos rfl] at H; exact H
          clear H
          have H := H1
          clear H1
          obtain rfl := Option.some.inj H
          go_wp2
          go_ret
          exact ⟨by first | rfl | (simp [errW_none, errW_some] <;> rfl) | (simp [*, errW_none, errW_some] <;> rfl), by repeat (first | (with_reducible first | exact HB.out | apply below_alloc | apply pw_below_drewN | apply below_drew1) | exact HB.out)⟩
        · replace c16 := Bool.eq_false_iff.mpr c16
          subst c16
          have H1 : ((laws_at.f l0 0).bind fun t271 => ((laws_at.f l0 1).bind fun t272 => ((impl_ShortestEvents.f kj6 (Int.tmod t271 5) (Int.tmod t272 5)).bind fun bt273 => ((impl_CanReach.f kj6 (Int.tmod t271 5) (Int.tmod t272 5)).bind fun t277 => (if (bt273.2 != t277) = true then (laws_FnChannels.j1 kj6 l0 t259 t267 (Int.tmod t271 5) (Int.tmod t272 5) bt273.1 bt273.2 true) else (if (Int.tmod t271 5) = 4 then (laws_FnChannels.j1 kj6 l0 t259 t267 (Int.tmod t271 5) (Int.tmod t272 5) bt273.1 bt273.2 (bt273.2 != ((Int.tmod t272 5) == (Int.tmod t271 5)))) else (laws_FnChannels.j1 kj6 l0 t259 t267 (Int.tmod t271 5) (Int.tmod t272 5) bt273.1 bt273.2 (bt273.2 != true)))))))) = some r := by rw [if_neg (show ¬ (false = true) by decide)] at H; exact H
          clear H
          have H := H1
          clear H1
          replace H := Option.bind_eq_some_iff.mp H
          obtain ⟨t271, A170, H⟩ := H
          replace H : ((laws_at.f l0 1).bind fun t272 => ((impl_ShortestEvents.f kj6 (Int.tmod t271 5) (Int.tmod t272 5)).bind fun bt273 => ((impl_CanReach.f kj6 (Int.tmod t271 5) (Int.tmod t272 5)).bind fun t277 => (if (bt273.2 != t277) = true then (laws_FnChannels.j1 kj6 l0 t259 t267 (Int.tmod t271 5) (Int.tmod t272 5) bt273.1 bt273.2 true) else (if (Int.tmod t271 5) = 4 then (laws_FnChannels.j1 kj6 l0 t259 t267 (Int.tmod t271 5) (Int.tmod t272 5) bt273.1 bt273.2 (bt273.2 != ((Int.tmod t272 5) == (Int.tmod t271 5)))) else (laws_FnChannels.j1 kj6 l0 t259 t267 (Int.tmod t271 5) (Int.tmod t272 5) bt273.1 bt273.2 (bt273.2 != true))))))) = some r := H
          have A17 := Aside0.mk A170
          clear A170
          replace H := Option.bind_eq_some_iff.mp H
          obtain ⟨t272, A180, H⟩ := H
          replace H : ((impl_ShortestEvents.f kj6 (Int.tmod t271 5) (Int.tmod t272 5)).bind fun bt273 => ((impl_CanReach.f kj6 (Int.tmod t271 5) (Int.tmod t272 5)).bind fun t277 => (if (bt273.2 != t277) = true then (laws_FnChannels.j1 kj6 l0 t259 t267 (Int.tmod t271 5) (Int.tmod t272 5) bt273.1 bt273.2 true) else (if (Int.tmod t271 5) = 4 then (laws_FnChannels.j1 kj6 l0 t259 t267 (Int.tmod t271 5) (Int.tmod t272 5) bt273.1 bt273.2 (bt273.2 != ((Int.tmod t272 5) == (Int.tmod t271 5)))) else (laws_FnChannels.j1 kj6 l0 t259 t267 (Int.tmod t271 5) (Int.tmod t272 5) bt273.1 bt273.2 (bt273.2 != true)))))) = some r := H
          have A18 := Aside0.mk A180
          clear A180
          replace H := Option.bind_eq_some_iff.mp H
          obtain ⟨⟨t273, t274⟩, A190, H⟩ := H
          replace H : ((impl_CanReach.f kj6 (Int.tmod t271 5) (Int.tmod t272 5)).bind fun t277 => (if (t274 != t277) = true then (laws_FnChannels.j1 kj6 l0 t259 t267 (Int.tmod t271 5) (Int.tmod t272 5) t273 t274 true) else (if (Int.tmod t271 5) = 4 then (laws_FnChannels.j1 kj6 l0 t259 t267 (Int.tmod t271 5) (Int.tmod t272 5) t273 t274 (t274 != ((Int.tmod t272 5) == (Int.tmod t271 5)))) else (laws_FnChannels.j1 kj6 l0 t259 t267 (Int.tmod t271 5) (Int.tmod t272 5) t273 t274 (t274 != true))))) = some r := H
          have A19 := Aside0.mk A190
          clear A190
          have HC20 := Aside0.mk H
          clear H
          go_upto_region 11 with (first | ((with_reducible refine gate_callee (f := 44) rfl ?_); refine goesL_ (some 46) rfl rfl Try.func44 (by kernel_rfl) rfl #[.slice A0 l0.length c0, .int .i64 0] rfl (by (try simp only [List.map_toArray, List.map_cons, List.map_nil]); first | done | rfl | (simp only [List.length_drop, List.length_take]; rfl)) ?_; (with_reducible refine (laws_at.calls _ _ l0 0 t271 _ ?side1 ?side2 A17.out).mono ?_); (case side1 => repeat (first | exact (Kd.C_below HR0.out HB.out) | (with_reducible refine Kd.C_alloc ?_ _) | (with_reducible refine Kd.C_drewN ?_ _) | (with_reducible refine Kd.C_drew ?_))); (case side2 => exact HC0.out); rintro e w' ⟨rfl, ⟨nd, rfl⟩⟩; refine ⟨_, rfl, ?_⟩) | ((with_reducible refine gate_callee (f := 44) rfl ?_); refine goesL_ (some 49) rfl rfl Try.func44 (by kernel_rfl) rfl #[.slice A0 l0.length c0, .int .i64 1] rfl (by (try simp only [List.map_toArray, List.map_cons, List.map_nil]); first | done | rfl | (simp only [List.length_drop, List.length_take]; rfl)) ?_; (with_reducible refine (laws_at.calls _ _ l0 1 t272 _ ?side1 ?side2 A18.out).mono ?_); (case side1 => repeat (first | exact (Kd.C_below HR0.out (by repeat (first | (with_reducible first | exact HB.out | apply below_alloc | apply pw_below_drewN | apply below_drew1) | exact HB.out))) | (with_reducible refine Kd.C_alloc ?_ _) | (with_reducible refine Kd.C_drewN ?_ _) | (with_reducible refine Kd.C_drew ?_))); (case side2 => exact HC0.out); rintro e w' ⟨rfl, ⟨nd, rfl⟩⟩; refine ⟨_, rfl, ?_⟩) | ((with_reducible refine gate_callee (f := 40) rfl ?_); refine goesL_ (some 54) rfl rfl Try.func40 (by kernel_rfl) rfl #[.int .i64 (Int.tmod t271 5), .int .i64 (Int.tmod t272 5)] rfl (by (try simp only [List.map_toArray, List.map_cons, List.map_nil]); first | done | rfl | (simp only [List.length_drop, List.length_take]; rfl)) ?_; (with_reducible refine (impl_ShortestEvents.calls kj6 (Int.tmod t271 5) (Int.tmod t272 5) t273 t274 _ A19.out).mono ?_); rintro e w21 ⟨v275, rfl, ho0, hb⟩; refine ⟨_, rfl, ?_⟩; have n0_ := Aside0.mk (Kd.R_elder' (by (with_reducible repeat (first | apply Kd.R_alloc | apply Kd.R_drewN | apply Kd.R_drew)); exact HO_3.out) (Kd.R_base ho0) hb); have n1_ := Aside0.mk (Kd.R_elder' (by (with_reducible repeat (first | apply Kd.R_alloc | apply Kd.R_drewN | apply Kd.R_drew)); exact HO_7.out) (Kd.R_base ho0) hb); have n2_ := Aside0.mk (Kd.R_lower (Kd.R_new' (Kd.R_new' ho0 (Kd.R_lt (by (with_reducible repeat (first | apply Kd.R_alloc | apply Kd.R_drewN | apply Kd.R_drew)); exact HO_3.out))) (Kd.R_lt (by (with_reducible repeat (first | apply Kd.R_alloc | apply Kd.R_drewN | apply Kd.R_drew)); exact HO_7.out))) (below_size (by repeat (first | (with_reducible first | exact HB.out | apply below_alloc | apply pw_below_drewN | apply below_drew1) | exact HB.out)))); have n3_ := Aside0.mk (below_step (by repeat (first | (with_reducible first | exact HB.out | apply below_alloc | apply pw_below_drewN | apply below_drew1) | exact HB.out)) hb); clear HO_3; clear HO_7; clear HB; have HO_3 := n0_; have HO_7 := n1_; have HO276 := n2_; have HB := n3_; clear n0_ n1_ n2_ n3_; (try clear hb); (try clear hb2); (try clear hk); (try clear hi); (try clear ho0)))
          (try simp only [Act.put, List.setIfInBounds_toArray, List.set_cons_zero, List.set_cons_succ])
          go_cut [72] (fun zv72 wc => ∃ (kq : Nat) (x72_19 : Bool), zv72 = .bool x72_19 ∧ Aside0 (laws_FnChannels.j1 kq l0 t259 t267 (Int.tmod t271 5) (Int.tmod t272 5) t273 t274 x72_19 = some r) ∧ Aside0 (kq ≤ kj6) ∧ Aside0 (Kd.R (Kd.int .i64) 3 wc w.heap.size (fun k_ => some k_ ≠ (v268 : Value).ownBlock ∧ some k_ ≠ (v275 : Value).ownBlock) (.slice Ao9 t259.length co9) t259) ∧ Aside0 (Kd.R (Kd.int .i64) 3 wc w.heap.size (fun k_ => some k_ ≠ ((.slice Ao9 t259.length co9) : Value).ownBlock ∧ some k_ ≠ (v275 : Value).ownBlock) v268 t267) ∧ Aside0 (Kd.R (Kd.int .i64) 3 wc w.heap.size (fun k_ => some k_ ≠ ((.slice Ao9 t259.length co9) : Value).ownBlock ∧ some k_ ≠ (v268 : Value).ownBlock) v275 t273) ∧ Aside0 (Below w.heap.size w wc))
          case first =>
            have H := HC20.out
            clear HC20
            replace H := Option.bind_eq_some_iff.mp H
            obtain ⟨t277, A220, H⟩ := H
            replace H : (if (t274 != t277) = true then (laws_FnChannels.j1 kj6 l0 t259 t267 (Int.tmod t271 5) (Int.tmod t272 5) t273 t274 true) else (if (Int.tmod t271 5) = 4 then (laws_FnChannels.j1 kj6 l0 t259 t267 (Int.tmod t271 5) (Int.tmod t272 5) t273 t274 (t274 != ((Int.tmod t272 5) == (Int.tmod t271 5)))) else (laws_FnChannels.j1 kj6 l0 t259 t267 (Int.tmod t271 5) (Int.tmod t272 5) t273 t274 (t274 != true)))) = some r := H
            have A22 := Aside0.mk A220
            clear A220
            by_cases c23 : (t274 != t277) = true
            · rw [if_pos c23] at H
              have c23b0 : (t274 != t277) = true := c23
              (try (have c23b1 : decide (t274 = t277) = false := by simpa using c23))
              (try (have c23b2 : (t274 == t277) = false := by simpa using c23))
              (try (have c23b3 : ¬ (t274 = t277) := by simpa using c23))
              clear c23
              (first | rw [c23b0] | (simp only [i64_w, i32_w]; rw [c23b0]) | skip)
              have H' := Aside0.mk H
              clear H
              go_wp2_with (first | ((with_reducible refine gate_callee (f := 36) rfl ?_); refine goesL_ (some 60) rfl rfl Try.func36 (by kernel_rfl) rfl #[.int .i64 (Int.tmod t271 5), .int .i64 (Int.tmod t272 5)] rfl (by (try simp only [List.map_toArray, List.map_cons, List.map_nil]); first | done | rfl | (simp only [List.length_drop, List.length_take]; rfl)) ?_; (with_reducible refine (impl_CanReach.calls kj6 (Int.tmod t271 5) (Int.tmod t272 5) t277 _ A22.out).mono ?_); rintro e w24 ⟨rfl, hb⟩; refine ⟨_, rfl, ?_⟩; have n0_ := Aside0.mk (Kd.R_below (by (with_reducible repeat (first | apply Kd.R_alloc | apply Kd.R_drewN | apply Kd.R_drew)); exact HO_3.out) hb); have n1_ := Aside0.mk (Kd.R_below (by (with_reducible repeat (first | apply Kd.R_alloc | apply Kd.R_drewN | apply Kd.R_drew)); exact HO_7.out) hb); have n2_ := Aside0.mk (Kd.R_below (by (with_reducible repeat (first | apply Kd.R_alloc | apply Kd.R_drewN | apply Kd.R_drew)); exact HO276.out) hb); have n3_ := Aside0.mk (below_step (by repeat (first | (with_reducible first | exact HB.out | apply below_alloc | apply pw_below_drewN | apply below_drew1) | exact HB.out)) hb); clear HO_3; clear HO_7; clear HO276; clear HB; have HO_3 := n0_; have HO_7 := n1_; have HO276 := n2_; have HB := n3_; clear n0_ n1_ n2_ n3_; (try clear hb); (try clear hb2); (try clear hk); (try clear hi)))
              go_meet
              case rel => exact ⟨_, (true), (by first | rfl | (simp; done) | (simp [*]; done)), H', ⟨by have := HJ6.out; first | omega | exact Nat.le_refl _⟩, ⟨by (with_reducible repeat (first | apply Kd.R_alloc | apply Kd.R_drewN | apply Kd.R_drew)); exact HO_3.out⟩, ⟨by (with_reducible repeat (first | apply Kd.R_alloc | apply Kd.R_drewN | apply Kd.R_drew)); exact HO_7.out⟩, ⟨by (with_reducible repeat (first | apply Kd.R_alloc | apply Kd.R_drewN | apply Kd.R_drew)); exact Kd.R_mono HO276.out (fun _ hk => ⟨hk.1.2, hk.2⟩)⟩, ⟨by repeat (first | (with_reducible first | exact HB.out | apply below_alloc | apply pw_below_drewN | apply below_drew1) | exact HB.out)⟩⟩
            · rw [if_neg c23] at H
              have c23b0 : (t274 != t277) = false := by simpa using c23
              (try (have c23b1 : decide (t274 = t277) = true := by simpa using c23))
              (try (have c23b2 : (t274 == t277) = true := by simpa using c23))
              clear c23
              (first | rw [c23b0] | (simp only [i64_w, i32_w]; rw [c23b0]) | skip)
              by_cases c25 : (Int.tmod t271 5) = 4
              · rw [if_pos c25] at H
                have c25b0 : ((Int.tmod t271 5) == 4) = true := beq_iff_eq.mpr c25
                have c25b1 : ((Int.tmod t271 5) != 4) = false := bne_eq_false_iff_eq.mpr c25
                clear c25
                have H' := Aside0.mk H
                clear H
                go_wp2_with (first | ((with_reducible refine gate_callee (f := 36) rfl ?_); refine goesL_ (some 60) rfl rfl Try.func36 (by kernel_rfl) rfl #[.int .i64 (Int.tmod t271 5), .int .i64 (Int.tmod t272 5)] rfl (by (try simp only [List.map_toArray, List.map_cons, List.map_nil]); first | done | rfl | (simp only [List.length_drop, List.length_take]; rfl)) ?_; (with_reducible refine (impl_CanReach.calls kj6 (Int.tmod t271 5) (Int.tmod t272 5) t277 _ A22.out).mono ?_); rintro e w26 ⟨rfl, hb⟩; refine ⟨_, rfl, ?_⟩; have n0_ := Aside0.mk (Kd.R_below (by (with_reducible repeat (first | apply Kd.R_alloc | apply Kd.R_drewN | apply Kd.R_drew)); exact HO_3.out) hb); have n1_ := Aside0.mk (Kd.R_below (by (with_reducible repeat (first | apply Kd.R_alloc | apply Kd.R_drewN | apply Kd.R_drew)); exact HO_7.out) hb); have n2_ := Aside0.mk (Kd.R_below (by (with_reducible repeat (first | apply Kd.R_alloc | apply Kd.R_drewN | apply Kd.R_drew)); exact HO276.out) hb); have n3_ := Aside0.mk (below_step (by repeat (first | (with_reducible first | exact HB.out | apply below_alloc | apply pw_below_drewN | apply below_drew1) | exact HB.out)) hb); clear HO_3; clear HO_7; clear HO276; clear HB; have HO_3 := n0_; have HO_7 := n1_; have HO276 := n2_; have HB := n3_; clear n0_ n1_ n2_ n3_; (try clear hb); (try clear hb2); (try clear hk); (try clear hi)))
                go_meet
                case rel => exact ⟨_, ((t274 != ((Int.tmod t272 5) == (Int.tmod t271 5)))), (by first | rfl | (simp; done) | (simp [*]; done)), H', ⟨by have := HJ6.out; first | omega | exact Nat.le_refl _⟩, ⟨by (with_reducible repeat (first | apply Kd.R_alloc | apply Kd.R_drewN | apply Kd.R_drew)); exact HO_3.out⟩, ⟨by (with_reducible repeat (first | apply Kd.R_alloc | apply Kd.R_drewN | apply Kd.R_drew)); exact HO_7.out⟩, ⟨by (with_reducible repeat (first | apply Kd.R_alloc | apply Kd.R_drewN | apply Kd.R_drew)); exact Kd.R_mono HO276.out (fun _ hk => ⟨hk.1.2, hk.2⟩)⟩, ⟨by repeat (first | (with_reducible first | exact HB.out | apply below_alloc | apply pw_below_drewN | apply below_drew1) | exact HB.out)⟩⟩
              · rw [if_neg c25] at H
                have c25b0 : ((Int.tmod t271 5) == 4) = false := beq_eq_false_iff_ne.mpr c25
                have c25b1 : ((Int.tmod t271 5) != 4) = true := bne_iff_ne.mpr c25
                have H' := Aside0.mk H
                clear H
                go_wp2_with (first | ((with_reducible refine gate_callee (f := 36) rfl ?_); refine goesL_ (some 60) rfl rfl Try.func36 (by kernel_rfl) rfl #[.int .i64 (Int.tmod t271 5), .int .i64 (Int.tmod t272 5)] rfl (by (try simp only [List.map_toArray, List.map_cons, List.map_nil]); first | done | rfl | (simp only [List.length_drop, List.length_take]; rfl)) ?_; (with_reducible refine (impl_CanReach.calls kj6 (Int.tmod t271 5) (Int.tmod t272 5) t277 _ A22.out).mono ?_); rintro e w27 ⟨rfl, hb⟩; refine ⟨_, rfl, ?_⟩; have n0_ := Aside0.mk (Kd.R_below (by (with_reducible repeat (first | apply Kd.R_alloc | apply Kd.R_drewN | apply Kd.R_drew)); exact HO_3.out) hb); have n1_ := Aside0.mk (Kd.R_below (by (with_reducible repeat (first | apply Kd.R_alloc | apply Kd.R_drewN | apply Kd.R_drew)); exact HO_7.out) hb); have n2_ := Aside0.mk (Kd.R_below (by (with_reducible repeat (first | apply Kd.R_alloc | apply Kd.R_drewN | apply Kd.R_drew)); exact HO276.out) hb); have n3_ := Aside0.mk (below_step (by repeat (first | (with_reducible first | exact HB.out | apply below_alloc | apply pw_below_drewN | apply below_drew1) | exact HB.out)) hb); clear HO_3; clear HO_7; clear HO276; clear HB; have HO_3 := n0_; have HO_7 := n1_; have HO276 := n2_; have HB := n3_; clear n0_ n1_ n2_ n3_; (try clear hb); (try clear hb2); (try clear hk); (try clear hi)))
                go_meet
                case rel => exact ⟨_, ((t274 != true)), (by first | rfl | (simp; done) | (simp [*]; done)), H', ⟨by have := HJ6.out; first | omega | exact Nat.le_refl _⟩, ⟨by (with_reducible repeat (first | apply Kd.R_alloc | apply Kd.R_drewN | apply Kd.R_drew)); exact HO_3.out⟩, ⟨by (with_reducible repeat (first | apply Kd.R_alloc | apply Kd.R_drewN | apply Kd.R_drew)); exact HO_7.out⟩, ⟨by (with_reducible repeat (first | apply Kd.R_alloc | apply Kd.R_drewN | apply Kd.R_drew)); exact Kd.R_mono HO276.out (fun _ hk => ⟨hk.1.2, hk.2⟩)⟩, ⟨by repeat (first | (with_reducible first | exact HB.out | apply below_alloc | apply pw_below_drewN | apply below_drew1) | exact HB.out)⟩⟩
          case rest =>
            clear HC20
            try clear c1
            try clear c2
            try clear p2
            try clear c3
            try clear c4
            try clear c12
            try clear c12b0
            try clear c12b1
            try clear c16
            try clear c23
            try clear c23b0
            try clear c23b1
            try clear c23b2
            try clear c25
            try clear c25b0
            try clear c25b1
            try clear p2
            obtain ⟨kq, x72_19, rfl, HA, HJ19, HO_3, HO_7, HO_10, HB⟩ := hcut
            cases kq with
            | zero => exact absurd HA.out (by simp [laws_FnChannels.j1])
            | succ kj19 =>
              have H := HA.out
              clear HA
              simp only [laws_FnChannels.j1] at H
              by_cases c28 : x72_19 = true
              · subst c28
                have H1 : (some false) = some r := by rw [if_pos rfl] at H; exact H
                clear H
                have H := H1
                clear H1
                obtain rfl := Option.some.inj H
                go_wp2
                go_ret
                exact ⟨by first | rfl | (simp [errW_none, errW_some] <;> rfl) | (simp [*, errW_none, errW_some] <;> rfl), by repeat (first | (with_reducible first | exact HB.out | apply below_alloc | apply pw_below_drewN | apply below_drew1) | exact HB.out)⟩
              · replace c28 := Bool.eq_false_iff.mpr c28
                subst c28
                have H1 : (laws_FnChannels.l0 kj19 l0 t259 t267 (Int.tmod t271 5) (Int.tmod t272 5) t273 t274 (Int.tmod t271 5) 0) = some r := by rw [if_neg (show ¬ (false = true) by decide)] at H; exact H
                clear H
                have H := H1
                clear H1
                have H' := Aside0.mk H
                clear H
                go_wp2
                go_loopg [12, 13] kj19 (fun kq zv12 zv13 w' => ∃ (x12_3 : Int) (x13_3 : Int), zv12 = .int .i64 x12_3 ∧ zv13 = .int .i64 x13_3 ∧ Aside0 (laws_FnChannels.l0 kq l0 t259 t267 (Int.tmod t271 5) (Int.tmod t272 5) t273 t274 x12_3 x13_3 = some r) ∧ Aside0 (kq ≤ kj19) ∧ Aside0 (Kd.R (Kd.int .i64) 3 w' w.heap.size (fun k_ => some k_ ≠ (v268 : Value).ownBlock ∧ some k_ ≠ (v275 : Value).ownBlock) (.slice Ao9 t259.length co9) t259) ∧ Aside0 (Kd.R (Kd.int .i64) 3 w' w.heap.size (fun k_ => some k_ ≠ ((.slice Ao9 t259.length co9) : Value).ownBlock ∧ some k_ ≠ (v275 : Value).ownBlock) v268 t267) ∧ Aside0 (Kd.R (Kd.int .i64) 3 w' w.heap.size (fun k_ => some k_ ≠ ((.slice Ao9 t259.length co9) : Value).ownBlock ∧ some k_ ≠ (v268 : Value).ownBlock) v275 t273) ∧ Aside0 (Below w.heap.size w w'))
                case atStart => exact ⟨((Int.tmod t271 5)), (0), (by first | rfl | (simp; done) | (simp [*]; done)), (by first | rfl | (simp; done) | (simp [*]; done)), H', ⟨Nat.le_refl _⟩, ⟨by (with_reducible repeat (first | apply Kd.R_alloc | apply Kd.R_drewN | apply Kd.R_drew)); exact HO_3.out⟩, ⟨by (with_reducible repeat (first | apply Kd.R_alloc | apply Kd.R_drewN | apply Kd.R_drew)); exact HO_7.out⟩, ⟨by (with_reducible repeat (first | apply Kd.R_alloc | apply Kd.R_drewN | apply Kd.R_drew)); exact HO_10.out⟩, ⟨by repeat (first | (with_reducible first | exact HB.out | apply below_alloc | apply pw_below_drewN | apply below_drew1) | exact HB.out)⟩⟩
                case round =>
                  clear H'
                  try clear c1
                  try clear c2
                  try clear p2
                  try clear c3
                  try clear c4
                  try clear c12
                  try clear c12b0
                  try clear c12b1
                  try clear c16
                  try clear c23
                  try clear c23b0
                  try clear c23b1
                  try clear c23b2
                  try clear c25
                  try clear c25b0
                  try clear c25b1
                  try clear c28
                  try clear p2
                  obtain ⟨x12_3, x13_3, rfl, rfl, HA, HK3, HO_3, HO_7, HO_10, HB⟩ := hrel
                  cases gk with
                  | zero => exact absurd HA.out (by simp [laws_FnChannels.l0])
                  | succ k3 =>
                    have H := HA.out
                    clear HA
                    simp only [laws_FnChannels.l0] at H
                    by_cases c29 : x13_3 < (t273.length : Int)
                    · rw [if_pos c29] at H
                      have c29b0 : decide (x13_3 < (t273.length : Int)) = true := decide_eq_true c29
                      clear c29
                      by_cases c30 : 0 ≤ x13_3
                      · rw [if_pos c30] at H
                        have c30b0 : decide (0 ≤ x13_3) = true := decide_eq_true c30
                        clear c30
                        replace H := Option.bind_eq_some_iff.mp H
                        obtain ⟨⟨t279, t280⟩, A310, H⟩ := H
                        replace H : (if t280 = true then (laws_FnChannels.l0 k3 l0 t259 t267 (Int.tmod t271 5) (Int.tmod t272 5) t273 t274 t279 (wrap64 (x13_3 + 1))) else (some false)) = some r := H
                        have A31 := Aside0.mk A310
                        clear A310
                        by_cases c32 : t280 = true
                        · subst c32
                          have H1 : (laws_FnChannels.l0 k3 l0 t259 t267 (Int.tmod t271 5) (Int.tmod t272 5) t273 t274 t279 (wrap64 (x13_3 + 1))) = some r := by rw [if_pos rfl] at H; exact H
                          clear H
                          have H := H1
                          clear H1
                          have H' := Aside0.mk H
                          clear H
                          obtain ⟨Ao33, co33, eo33⟩ := Kd.R_slice HO_10.out
                          subst eo33
                          have p278 : 0 ≤ (x13_3 : Int) := of_decide_eq_true (by first | (with_reducible assumption) | assumption)
                          have q278 : x13_3 < (t273.length : Int) := of_decide_eq_true (by first | (with_reducible assumption) | assumption)
                          obtain ⟨ad278, e278, hx278_0⟩ := Kd.at_int (Kd.R_reads' HO_10.out).2.2 x13_3 p278 q278
                          cases e278
                          replace p278 := eq_true p278
                          replace q278 := eq_true q278
                          go_wp2_with (first | ((with_reducible refine gate_callee (f := 15) rfl ?_); refine goesL_ (some 86) rfl rfl Try.func15 (by kernel_rfl) rfl #[.int .i64 x12_3, .int .i64 (rd t273 x13_3)] rfl (by (try simp only [List.map_toArray, List.map_cons, List.map_nil]); first | done | rfl | (simp only [List.length_drop, List.length_take]; rfl)) ?_; (with_reducible refine (impl_StepChannel.calls k3 x12_3 (rd t273 x13_3) t279 true _ A31.out).mono ?_); rintro e w34 ⟨rfl, hb⟩; refine ⟨_, rfl, ?_⟩; have n0_ := Aside0.mk (Kd.R_below (by (with_reducible repeat (first | apply Kd.R_alloc | apply Kd.R_drewN | apply Kd.R_drew)); exact HO_3.out) hb); have n1_ := Aside0.mk (Kd.R_below (by (with_reducible repeat (first | apply Kd.R_alloc | apply Kd.R_drewN | apply Kd.R_drew)); exact HO_7.out) hb); have n2_ := Aside0.mk (Kd.R_below (by (with_reducible repeat (first | apply Kd.R_alloc | apply Kd.R_drewN | apply Kd.R_drew)); exact HO_10.out) hb); have n3_ := Aside0.mk (below_step (by repeat (first | (with_reducible first | exact HB.out | apply below_alloc | apply pw_below_drewN | apply below_drew1) | exact HB.out)) hb); clear HO_3; clear HO_7; clear HO_10; clear HB; have HO_3 := n0_; have HO_7 := n1_; have HO_10 := n2_; have HB := n3_; clear n0_ n1_ n2_ n3_; (try clear hb); (try clear hb2); (try clear hk); (try clear hi)))
                          go_roundg k3
                          case measure => have := HJ6.out; have := HJ19.out; have := HK3.out; omega
                          case rel => exact ⟨(t279), (wrap64 (x13_3 + 1)), (by first | rfl | (simp; done) | (simp [*]; done)), (by first | rfl | (simp; done) | (simp [*]; done)), H', ⟨by have := HJ6.out; have := HJ19.out; have := HK3.out; omega⟩, ⟨by (with_reducible repeat (first | apply Kd.R_alloc | apply Kd.R_drewN | apply Kd.R_drew)); exact HO_3.out⟩, ⟨by (with_reducible repeat (first | apply Kd.R_alloc | apply Kd.R_drewN | apply Kd.R_drew)); exact HO_7.out⟩, ⟨by (with_reducible repeat (first | apply Kd.R_alloc | apply Kd.R_drewN | apply Kd.R_drew)); exact HO_10.out⟩, ⟨by repeat (first | (with_reducible first | exact HB.out | apply below_alloc | apply pw_below_drewN | apply below_drew1) | exact HB.out)⟩⟩
                        · replace c32 := Bool.eq_false_iff.mpr c32
                          subst c32
                          have H1 : (some false) = some r := by rw [if_neg (show ¬ (false = true) by decide)] at H; exact H
                          clear H
                          have H := H1
                          clear H1
                          obtain rfl := Option.some.inj H
                          obtain ⟨Ao35, co35, eo35⟩ := Kd.R_slice HO_10.out
                          subst eo35
                          have p278 : 0 ≤ (x13_3 : Int) := of_decide_eq_true (by first | (with_reducible assumption) | assumption)
                          have q278 : x13_3 < (t273.length : Int) := of_decide_eq_true (by first | (with_reducible assumption) | assumption)
                          obtain ⟨ad278, e278, hx278_0⟩ := Kd.at_int (Kd.R_reads' HO_10.out).2.2 x13_3 p278 q278
                          cases e278
                          replace p278 := eq_true p278
                          replace q278 := eq_true q278
                          go_wp2_with (first | ((with_reducible refine gate_callee (f := 15) rfl ?_); refine goesL_ (some 86) rfl rfl Try.func15 (by kernel_rfl) rfl #[.int .i64 x12_3, .int .i64 (rd t273 x13_3)] rfl (by (try simp only [List.map_toArray, List.map_cons, List.map_nil]); first | done | rfl | (simp only [List.length_drop, List.length_take]; rfl)) ?_; (with_reducible refine (impl_StepChannel.calls k3 x12_3 (rd t273 x13_3) t279 false _ A31.out).mono ?_); rintro e w36 ⟨rfl, hb⟩; refine ⟨_, rfl, ?_⟩; have n0_ := Aside0.mk (Kd.R_below (by (with_reducible repeat (first | apply Kd.R_alloc | apply Kd.R_drewN | apply Kd.R_drew)); exact HO_3.out) hb); have n1_ := Aside0.mk (Kd.R_below (by (with_reducible repeat (first | apply Kd.R_alloc | apply Kd.R_drewN | apply Kd.R_drew)); exact HO_7.out) hb); have n2_ := Aside0.mk (Kd.R_below (by (with_reducible repeat (first | apply Kd.R_alloc | apply Kd.R_drewN | apply Kd.R_drew)); exact HO_10.out) hb); have n3_ := Aside0.mk (below_step (by repeat (first | (with_reducible first | exact HB.out | apply below_alloc | apply pw_below_drewN | apply below_drew1) | exact HB.out)) hb); clear HO_3; clear HO_7; clear HO_10; clear HB; have HO_3 := n0_; have HO_7 := n1_; have HO_10 := n2_; have HB := n3_; clear n0_ n1_ n2_ n3_; (try clear hb); (try clear hb2); (try clear hk); (try clear hi)))
                          go_ret
                          exact ⟨by first | rfl | (simp [errW_none, errW_some] <;> rfl) | (simp [*, errW_none, errW_some] <;> rfl), by repeat (first | (with_reducible first | exact HB.out | apply below_alloc | apply pw_below_drewN | apply below_drew1) | exact HB.out)⟩
                      · rw [if_neg c30] at H
                        exact absurd H (by simp)
                    · rw [if_neg c29] at H
                      have c29b0 : decide (x13_3 < (t273.length : Int)) = false := decide_eq_false c29
                      clear c29
                      have HC37 := Aside0.mk H
                      clear H
                      obtain ⟨Ao38, co38, eo38⟩ := Kd.R_slice HO_10.out
                      subst eo38
                      go_upto_region 21 with (fail)
                      go_cut [97] (fun zv97 wc => ∃ (kq : Nat) (x97_36 : Bool), zv97 = .bool x97_36 ∧ Aside0 (laws_FnChannels.j3 kq l0 t259 t267 (Int.tmod t271 5) x97_36 = some r) ∧ Aside0 (kq ≤ k3) ∧ Aside0 (Kd.R (Kd.int .i64) 3 wc w.heap.size (fun k_ => some k_ ≠ (v268 : Value).ownBlock) (.slice Ao9 t259.length co9) t259) ∧ Aside0 (Kd.R (Kd.int .i64) 3 wc w.heap.size (fun k_ => some k_ ≠ ((.slice Ao9 t259.length co9) : Value).ownBlock) v268 t267) ∧ Aside0 (Below w.heap.size w wc))
                      case first =>
                        have H := HC37.out
                        clear HC37
                        by_cases c39 : t274 = true
                        · subst c39
                          have H1 : (laws_FnChannels.j3 k3 l0 t259 t267 (Int.tmod t271 5) (x12_3 != (Int.tmod t272 5))) = some r := by rw [if_pos rfl] at H; exact H
                          clear H
                          have H := H1
                          clear H1
                          have H' := Aside0.mk H
                          clear H
                          go_wp2
                          go_meet
                          case rel => exact ⟨_, ((x12_3 != (Int.tmod t272 5))), (by first | rfl | (simp; done) | (simp [*]; done)), H', ⟨by have := HJ6.out; have := HJ19.out; have := HK3.out; first | omega | exact Nat.le_refl _⟩, ⟨by (with_reducible repeat (first | apply Kd.R_alloc | apply Kd.R_drewN | apply Kd.R_drew)); exact Kd.R_mono HO_3.out (fun _ hk => hk.1)⟩, ⟨by (with_reducible repeat (first | apply Kd.R_alloc | apply Kd.R_drewN | apply Kd.R_drew)); exact Kd.R_mono HO_7.out (fun _ hk => hk.1)⟩, ⟨by repeat (first | (with_reducible first | exact HB.out | apply below_alloc | apply pw_below_drewN | apply below_drew1) | exact HB.out)⟩⟩
                        · replace c39 := Bool.eq_false_iff.mpr c39
                          subst c39
                          have H1 : (laws_FnChannels.j3 k3 l0 t259 t267 (Int.tmod t271 5) false) = some r := by rw [if_neg (show ¬ (false = true) by decide)] at H; exact H
                          clear H
                          have H := H1
                          clear H1
                          have H' := Aside0.mk H
                          clear H
                          go_wp2
                          go_meet
                          case rel => exact ⟨_, (false), (by first | rfl | (simp; done) | (simp [*]; done)), H', ⟨by have := HJ6.out; have := HJ19.out; have := HK3.out; first | omega | exact Nat.le_refl _⟩, ⟨by (with_reducible repeat (first | apply Kd.R_alloc | apply Kd.R_drewN | apply Kd.R_drew)); exact Kd.R_mono HO_3.out (fun _ hk => hk.1)⟩, ⟨by (with_reducible repeat (first | apply Kd.R_alloc | apply Kd.R_drewN | apply Kd.R_drew)); exact Kd.R_mono HO_7.out (fun _ hk => hk.1)⟩, ⟨by repeat (first | (with_reducible first | exact HB.out | apply below_alloc | apply pw_below_drewN | apply below_drew1) | exact HB.out)⟩⟩
                      case rest =>
                        clear HC37
                        try clear c1
                        try clear c2
                        try clear p2
                        try clear q2
                        try clear hx2
                        try clear c3
                        try clear c4
                        try clear p6
                        try clear c12
                        try clear c12b0
                        try clear c12b1
                        try clear c15
                        try clear c16
                        try clear c23
                        try clear c23b0
                        try clear c23b1
                        try clear c23b2
                        try clear c25
                        try clear c25b0
                        try clear c25b1
                        try clear p27
                        try clear q27
                        try clear hx27
                        try clear c28
                        try clear c29
                        try clear c29b0
                        try clear c30
                        try clear c30b0
                        try clear c32
                        try clear c36
                        try clear c39
                        try clear hx278_0
                        try clear p2
                        try clear p278
                        try clear q278
                        obtain ⟨kq, x97_36, rfl, HA, HJ36, HO_3, HO_7, HB⟩ := hcut
                        cases kq with
                        | zero => exact absurd HA.out (by simp [laws_FnChannels.j3])
                        | succ kj36 =>
                          have H := HA.out
                          clear HA
                          simp only [laws_FnChannels.j3] at H
                          by_cases c40 : x97_36 = true
                          · subst c40
                            have H1 : (some false) = some r := by rw [if_pos rfl] at H; exact H
                            clear H
                            have H := H1
                            clear H1
                            obtain rfl := Option.some.inj H
                            go_wp2
                            go_ret
                            exact ⟨by first | rfl | (simp [errW_none, errW_some] <;> rfl) | (simp [*, errW_none, errW_some] <;> rfl), by repeat (first | (with_reducible first | exact HB.out | apply below_alloc | apply pw_below_drewN | apply below_drew1) | exact HB.out)⟩
                          · replace c40 := Bool.eq_false_iff.mpr c40
                            subst c40
                            have H1 : ((impl_Watched.f kj36 t259 (Int.tmod t271 5)).bind fun t281 => (laws_FnChannels.l1 kj36 l0 t267 (Int.tmod t271 5) t281 0 0 0)) = some r := by rw [if_neg (show ¬ (false = true) by decide)] at H; exact H
                            clear H
                            have H := H1
                            clear H1
                            replace H := Option.bind_eq_some_iff.mp H
                            obtain ⟨t281, A410, H⟩ := H
                            replace H : (laws_FnChannels.l1 kj36 l0 t267 (Int.tmod t271 5) t281 0 0 0) = some r := H
                            have A41 := Aside0.mk A410
                            clear A410
                            have H' := Aside0.mk H
                            clear H
                            go_wp2_with (first | ((with_reducible refine gate_callee (f := 30) rfl ?_); refine goesL_ (some 100) rfl rfl Try.func30 (by kernel_rfl) rfl #[.slice Ao9 t259.length co9, .int .i64 (Int.tmod t271 5)] rfl (by (try simp only [List.map_toArray, List.map_cons, List.map_nil]); first | done | rfl | (simp only [List.length_drop, List.length_take]; rfl)) ?_; (with_reducible refine (impl_Watched.calls kj36 _ _ t259 (Int.tmod t271 5) t281 _ ?side1 ?side2 A41.out).mono ?_); (case side1 => repeat (first | exact (Kd.R_reads' HO_3.out).2.2 | (with_reducible refine Kd.C_alloc ?_ _) | (with_reducible refine Kd.C_drewN ?_ _) | (with_reducible refine Kd.C_drew ?_))); (case side2 => exact (Kd.R_reads' HO_3.out).2.1); rintro e w42 ⟨v282, rfl, ho0, hb⟩; refine ⟨_, rfl, ?_⟩; have n0_ := Aside0.mk (Kd.R_elder' (by (with_reducible repeat (first | apply Kd.R_alloc | apply Kd.R_drewN | apply Kd.R_drew)); exact HO_3.out) (Kd.R_base ho0) hb); have n1_ := Aside0.mk (Kd.R_elder' (by (with_reducible repeat (first | apply Kd.R_alloc | apply Kd.R_drewN | apply Kd.R_drew)); exact HO_7.out) (Kd.R_base ho0) hb); have n2_ := Aside0.mk (Kd.R_lower (Kd.R_new' (Kd.R_new' ho0 (Kd.R_lt (by (with_reducible repeat (first | apply Kd.R_alloc | apply Kd.R_drewN | apply Kd.R_drew)); exact HO_3.out))) (Kd.R_lt (by (with_reducible repeat (first | apply Kd.R_alloc | apply Kd.R_drewN | apply Kd.R_drew)); exact HO_7.out))) (below_size (by repeat (first | (with_reducible first | exact HB.out | apply below_alloc | apply pw_below_drewN | apply below_drew1) | exact HB.out)))); have n3_ := Aside0.mk (below_step (by repeat (first | (with_reducible first | exact HB.out | apply below_alloc | apply pw_below_drewN | apply below_drew1) | exact HB.out)) hb); clear HO_3; clear HO_7; clear HB; have HO_3 := n0_; have HO_7 := n1_; have HO283 := n2_; have HB := n3_; clear n0_ n1_ n2_ n3_; (try clear hb); (try clear hb2); (try clear hk); (try clear hi); (try clear ho0)))
                            go_loopg [17, 18, 19] kj36 (fun kq zv17 zv18 zv19 w' => ∃ (x17_5 : Int) (x18_5 : Int) (x19_5 : Int), zv17 = .int .i64 x17_5 ∧ zv18 = .int .i64 x18_5 ∧ zv19 = .int .i64 x19_5 ∧ Aside0 (laws_FnChannels.l1 kq l0 t267 (Int.tmod t271 5) t281 x17_5 x18_5 x19_5 = some r) ∧ Aside0 (kq ≤ kj36) ∧ Aside0 (Kd.R (Kd.int .i64) 3 w' w.heap.size (fun k_ => some k_ ≠ (v282 : Value).ownBlock) v268 t267) ∧ Aside0 (Kd.R (Kd.int .i64) 3 w' w.heap.size (fun k_ => some k_ ≠ (v268 : Value).ownBlock) v282 t281) ∧ Aside0 (Below w.heap.size w w'))
                            case atStart => exact ⟨(0), (0), (0), (by first | rfl | (simp; done) | (simp [*]; done)), (by first | rfl | (simp; done) | (simp [*]; done)), (by first | rfl | (simp; done) | (simp [*]; done)), H', ⟨Nat.le_refl _⟩, ⟨by (with_reducible repeat (first | apply Kd.R_alloc | apply Kd.R_drewN | apply Kd.R_drew)); exact Kd.R_mono HO_7.out (fun _ hk => hk.2)⟩, ⟨by (with_reducible repeat (first | apply Kd.R_alloc | apply Kd.R_drewN | apply Kd.R_drew)); exact Kd.R_mono HO283.out (fun _ hk => hk.2)⟩, ⟨by repeat (first | (with_reducible first | exact HB.out | apply below_alloc | apply pw_below_drewN | apply below_drew1) | exact HB.out)⟩⟩
                            case round =>
                              clear H'
                              try clear c1
                              try clear c2
                              try clear p2
                              try clear q2
                              try clear hx2
                              try clear c3
                              try clear c4
                              try clear p6
                              try clear c12
                              try clear c12b0
                              try clear c12b1
                              try clear c15
                              try clear c16
                              try clear c23
                              try clear c23b0
                              try clear c23b1
                              try clear c23b2
                              try clear c25
                              try clear c25b0
                              try clear c25b1
                              try clear p27
                              try clear q27
                              try clear hx27
                              try clear c28
                              try clear c29
                              try clear c29b0
                              try clear c30
                              try clear c30b0
                              try clear c32
                              try clear c36
                              try clear c39
                              try clear c40
                              try clear c41
                              try clear c42
                              try clear hx278_0
                              try clear p2
                              try clear p27
                              try clear p278
                              try clear p6
                              try clear q2
                              try clear q27
                              try clear q278
                              obtain ⟨x17_5, x18_5, x19_5, rfl, rfl, rfl, HA, HK5, HO_7, HO_16, HB⟩ := hrel
                              cases gk with
                              | zero => exact absurd HA.out (by simp [laws_FnChannels.l1])
                              | succ k5 =>
                                have H := HA.out
                                clear HA
                                simp only [laws_FnChannels.l1] at H
                                by_cases c43 : x19_5 < (t267.length : Int)
                                · rw [if_pos c43] at H
                                  have c43b0 : decide (x19_5 < (t267.length : Int)) = true := decide_eq_true c43
                                  clear c43
                                  have HC44 := Aside0.mk H
                                  clear H
                                  obtain ⟨Ao45, co45, eo45⟩ := Kd.R_slice HO_7.out
                                  subst eo45
                                  go_upto_region 29 with (fail)
                                  go_cut [117] (fun zv117 wc => ∃ (kq : Nat) (x117_43 : Bool), zv117 = .bool x117_43 ∧ Aside0 (laws_FnChannels.j5 kq l0 t267 (Int.tmod t271 5) t281 x17_5 x19_5 x117_43 = some r) ∧ Aside0 (kq ≤ k5) ∧ Aside0 (Kd.R (Kd.int .i64) 3 wc w.heap.size (fun k_ => some k_ ≠ (v282 : Value).ownBlock) (.slice Ao45 t267.length co45) t267) ∧ Aside0 (Kd.R (Kd.int .i64) 3 wc w.heap.size (fun k_ => some k_ ≠ ((.slice Ao45 t267.length co45) : Value).ownBlock) v282 t281) ∧ Aside0 (Below w.heap.size w wc))
                                  case first =>
                                    have H := HC44.out
                                    clear HC44
                                    by_cases c46 : x18_5 = (Int.tmod t271 5)
                                    · rw [if_pos c46] at H
                                      have c46b0 : (x18_5 == (Int.tmod t271 5)) = true := beq_iff_eq.mpr c46
                                      have c46b1 : (x18_5 != (Int.tmod t271 5)) = false := bne_eq_false_iff_eq.mpr c46
                                      clear c46
                                      (first | rw [c46b0] | (simp only [i64_w, i32_w]; rw [c46b0]) | skip)
                                      by_cases c47 : 0 ≤ x19_5
                                      · rw [if_pos c47] at H
                                        have c47b0 : decide (0 ≤ x19_5) = true := decide_eq_true c47
                                        clear c47
                                        have H' := Aside0.mk H
                                        clear H
                                        have p287 : 0 ≤ (x19_5 : Int) := of_decide_eq_true (by first | (with_reducible assumption) | assumption)
                                        have q287 : x19_5 < (t267.length : Int) := of_decide_eq_true (by first | (with_reducible assumption) | assumption)
                                        obtain ⟨ad287, e287, hx287_0⟩ := Kd.at_int (Kd.R_reads' HO_7.out).2.2 x19_5 p287 q287
                                        cases e287
                                        replace p287 := eq_true p287
                                        replace q287 := eq_true q287
                                        go_wp2
                                        go_meet
                                        case rel => exact ⟨_, (((rd t267 x19_5) != (Int.tmod t271 5))), (by first | rfl | (simp; done) | (simp [*]; done)), H', ⟨by have := HJ6.out; have := HJ19.out; have := HK3.out; have := HJ36.out; have := HK5.out; first | omega | exact Nat.le_refl _⟩, ⟨by (with_reducible repeat (first | apply Kd.R_alloc | apply Kd.R_drewN | apply Kd.R_drew)); exact HO_7.out⟩, ⟨by (with_reducible repeat (first | apply Kd.R_alloc | apply Kd.R_drewN | apply Kd.R_drew)); exact HO_16.out⟩, ⟨by repeat (first | (with_reducible first | exact HB.out | apply below_alloc | apply pw_below_drewN | apply below_drew1) | exact HB.out)⟩⟩
                                      · rw [if_neg c47] at H
                                        exact absurd H (by simp)
                                    · rw [if_neg c46] at H
                                      have c46b0 : (x18_5 == (Int.tmod t271 5)) = false := beq_eq_false_iff_ne.mpr c46
                                      have c46b1 : (x18_5 != (Int.tmod t271 5)) = true := bne_iff_ne.mpr c46
                                      (first | rw [c46b0] | (simp only [i64_w, i32_w]; rw [c46b0]) | skip)
                                      have H' := Aside0.mk H
                                      clear H
                                      go_wp2
                                      go_meet
                                      case rel => exact ⟨_, (false), (by first | rfl | (simp; done) | (simp [*]; done)), H', ⟨by have := HJ6.out; have := HJ19.out; have := HK3.out; have := HJ36.out; have := HK5.out; first | omega | exact Nat.le_refl _⟩, ⟨by (with_reducible repeat (first | apply Kd.R_alloc | apply Kd.R_drewN | apply Kd.R_drew)); exact HO_7.out⟩, ⟨by (with_reducible repeat (first | apply Kd.R_alloc | apply Kd.R_drewN | apply Kd.R_drew)); exact HO_16.out⟩, ⟨by repeat (first | (with_reducible first | exact HB.out | apply below_alloc | apply pw_below_drewN | apply below_drew1) | exact HB.out)⟩⟩
                                  case rest =>
                                    clear HC44
                                    try clear c1
                                    try clear c2
                                    try clear p2
                                    try clear q2
                                    try clear hx2
                                    try clear c3
                                    try clear c4
                                    try clear p6
                                    try clear c12
                                    try clear c12b0
                                    try clear c12b1
                                    try clear c15
                                    try clear c16
                                    try clear c23
                                    try clear c23b0
                                    try clear c23b1
                                    try clear c23b2
                                    try clear c25
                                    try clear c25b0
                                    try clear c25b1
                                    try clear p27
                                    try clear q27
                                    try clear hx27
                                    try clear c28
                                    try clear p28
                                    try clear q28
                                    try clear hx28
                                    try clear c29
                                    try clear c29b0
                                    try clear c30
                                    try clear c30b0
                                    try clear c32
                                    try clear c36
                                    try clear c39
                                    try clear c40
                                    try clear c41
                                    try clear c42
                                    try clear c43
                                    try clear c43b0
                                    try clear c44
                                    try clear c46
                                    try clear c46b0
                                    try clear c46b1
                                    try clear c47
                                    try clear c47b0
                                    try clear hx278_0
                                    try clear hx287_0
                                    try clear p2
                                    try clear p27
                                    try clear p278
                                    try clear p287
                                    try clear p6
                                    try clear q2
                                    try clear q27
                                    try clear q278
                                    try clear q287
                                    obtain ⟨kq, x117_43, rfl, HA, HJ43, HO_7, HO_16, HB⟩ := hcut
                                    cases kq with
                                    | zero => exact absurd HA.out (by simp [laws_FnChannels.j5])
                                    | succ kj43 =>
                                      have H := HA.out
                                      clear HA
                                      simp only [laws_FnChannels.j5] at H
                                      by_cases c48 : x117_43 = true
                                      · subst c48
                                        have H1 : (if x17_5 ≥ (t281.length : Int) then (some false) else (if 0 ≤ x17_5 then (if x17_5 < (t281.length : Int) then (if (rd t281 x17_5) = x19_5 then (if 0 ≤ x19_5 then (if x19_5 < (t267.length : Int) then (laws_FnChannels.l1 kj43 l0 t267 (Int.tmod t271 5) t281 (wrap64 (x17_5 + 1)) (rd t267 x19_5) (wrap64 (x19_5 + 1))) else (none)) else (none)) else (some false)) else (none)) else (none))) = some r := by rw [if_pos rfl] at H; exact H
                                        clear H
                                        have H := H1
                                        clear H1
                                        by_cases c49 : x17_5 ≥ (t281.length : Int)
                                        · rw [if_pos c49] at H
                                          have c49b0 : decide ((t281.length : Int) ≤ x17_5) = true := decide_eq_true c49
                                          clear c49
                                          obtain rfl := Option.some.inj H
                                          obtain ⟨Ao50, co50, eo50⟩ := Kd.R_slice HO_16.out
                                          subst eo50
                                          go_wp2
                                          go_ret
                                          exact ⟨by first | rfl | (simp [errW_none, errW_some] <;> rfl) | (simp [*, errW_none, errW_some] <;> rfl), by repeat (first | (with_reducible first | exact HB.out | apply below_alloc | apply pw_below_drewN | apply below_drew1) | exact HB.out)⟩
                                        · rw [if_neg c49] at H
                                          have c49b0 : decide ((t281.length : Int) ≤ x17_5) = false := decide_eq_false c49
                                          clear c49
                                          by_cases c51 : 0 ≤ x17_5
                                          · rw [if_pos c51] at H
                                            have c51b0 : decide (0 ≤ x17_5) = true := decide_eq_true c51
                                            clear c51
                                            by_cases c52 : x17_5 < (t281.length : Int)
                                            · rw [if_pos c52] at H
                                              have c52b0 : decide (x17_5 < (t281.length : Int)) = true := decide_eq_true c52
                                              clear c52
                                              by_cases c53 : (rd t281 x17_5) = x19_5
                                              · rw [if_pos c53] at H
                                                have c53b0 : ((rd t281 x17_5) == x19_5) = true := beq_iff_eq.mpr c53
                                                have c53b1 : ((rd t281 x17_5) != x19_5) = false := bne_eq_false_iff_eq.mpr c53
                                                clear c53
                                                by_cases c54 : 0 ≤ x19_5
                                                · rw [if_pos c54] at H
                                                  have c54b0 : decide (0 ≤ x19_5) = true := decide_eq_true c54
                                                  clear c54
                                                  by_cases c55 : x19_5 < (t267.length : Int)
                                                  · rw [if_pos c55] at H
                                                    have c55b0 : decide (x19_5 < (t267.length : Int)) = true := decide_eq_true c55
                                                    clear c55
                                                    have H' := Aside0.mk H
                                                    clear H
                                                    obtain ⟨Ao56, co56, eo56⟩ := Kd.R_slice HO_16.out
                                                    subst eo56
                                                    have p288 : 0 ≤ (x17_5 : Int) := of_decide_eq_true (by first | (with_reducible assumption) | assumption)
                                                    have q288 : x17_5 < (t281.length : Int) := of_decide_eq_true (by first | (with_reducible assumption) | assumption)
                                                    obtain ⟨ad288, e288, hx288_0⟩ := Kd.at_int (Kd.R_reads' HO_16.out).2.2 x17_5 p288 q288
                                                    cases e288
                                                    replace p288 := eq_true p288
                                                    replace q288 := eq_true q288
                                                    have p289 : 0 ≤ (x19_5 : Int) := of_decide_eq_true (by first | (with_reducible assumption) | assumption)
                                                    have q289 : x19_5 < (t267.length : Int) := of_decide_eq_true (by first | (with_reducible assumption) | assumption)
                                                    obtain ⟨ad289, e289, hx289_0⟩ := Kd.at_int (Kd.R_reads' HO_7.out).2.2 x19_5 p289 q289
                                                    cases e289
                                                    replace p289 := eq_true p289
                                                    replace q289 := eq_true q289
                                                    go_wp2
                                                    go_roundg kj43
                                                    case measure => have := HJ6.out; have := HJ19.out; have := HK3.out; have := HJ36.out; have := HK5.out; have := HJ43.out; omega
                                                    case rel => exact ⟨(wrap64 (x17_5 + 1)), (rd t267 x19_5), (wrap64 (x19_5 + 1)), (by first | rfl | (simp; done) | (simp [*]; done)), (by first | rfl | (simp; done) | (simp [*]; done)), (by first | rfl | (simp; done) | (simp [*]; done)), H', ⟨by have := HJ6.out; have := HJ19.out; have := HK3.out; have := HJ36.out; have := HK5.out; have := HJ43.out; omega⟩, ⟨by (with_reducible repeat (first | apply Kd.R_alloc | apply Kd.R_drewN | apply Kd.R_drew)); exact HO_7.out⟩, ⟨by (with_reducible repeat (first | apply Kd.R_alloc | apply Kd.R_drewN | apply Kd.R_drew)); exact HO_16.out⟩, ⟨by repeat (first | (with_reducible first | exact HB.out | apply below_alloc | apply pw_below_drewN | apply below_drew1) | exact HB.out)⟩⟩
                                                  · rw [if_neg c55] at H
                                                    exact absurd H (by simp)
                                                · rw [if_neg c54] at H
                                                  exact absurd H (by simp)
                                              · rw [if_neg c53] at H
                                                have c53b0 : ((rd t281 x17_5) == x19_5) = false := beq_eq_false_iff_ne.mpr c53
                                                have c53b1 : ((rd t281 x17_5) != x19_5) = true := bne_iff_ne.mpr c53
                                                obtain rfl := Option.some.inj H
                                                obtain ⟨Ao57, co57, eo57⟩ := Kd.R_slice HO_16.out
                                                subst eo57
                                                have p288 : 0 ≤ (x17_5 : Int) := of_decide_eq_true (by first | (with_reducible assumption) | assumption)
                                                have q288 : x17_5 < (t281.length : Int) := of_decide_eq_true (by first | (with_reducible assumption) | assumption)
                                                obtain ⟨ad288, e288, hx288_0⟩ := Kd.at_int (Kd.R_reads' HO_16.out).2.2 x17_5 p288 q288
                                                cases e288
                                                replace p288 := eq_true p288
                                                replace q288 := eq_true q288
                                                go_wp2
                                                go_ret
                                                exact ⟨by first | rfl | (simp [errW_none, errW_some] <;> rfl) | (simp [*, errW_none, errW_some] <;> rfl), by repeat (first | (with_reducible first | exact HB.out | apply below_alloc | apply pw_below_drewN | apply below_drew1) | exact HB.out)⟩
                                            · rw [if_neg c52] at H
                                              exact absurd H (by simp)
                                          · rw [if_neg c51] at H
                                            exact absurd H (by simp)
                                      · replace c48 := Bool.eq_false_iff.mpr c48
                                        subst c48
                                        have H1 : (if 0 ≤ x19_5 then (if x19_5 < (t267.length : Int) then (laws_FnChannels.l1 kj43 l0 t267 (Int.tmod t271 5) t281 x17_5 (rd t267 x19_5) (wrap64 (x19_5 + 1))) else (none)) else (none)) = some r := by rw [if_neg (show ¬ (false = true) by decide)] at H; exact H
                                        clear H
                                        have H := H1
                                        clear H1
                                        by_cases c58 : 0 ≤ x19_5
                                        · rw [if_pos c58] at H
                                          have c58b0 : decide (0 ≤ x19_5) = true := decide_eq_true c58
                                          clear c58
                                          by_cases c59 : x19_5 < (t267.length : Int)
                                          · rw [if_pos c59] at H
                                            have c59b0 : decide (x19_5 < (t267.length : Int)) = true := decide_eq_true c59
                                            clear c59
                                            have H' := Aside0.mk H
                                            clear H
                                            have p290 : 0 ≤ (x19_5 : Int) := of_decide_eq_true (by first | (with_reducible assumption) | assumption)
                                            have q290 : x19_5 < (t267.length : Int) := of_decide_eq_true (by first | (with_reducible assumption) | assumption)
                                            obtain ⟨ad290, e290, hx290_0⟩ := Kd.at_int (Kd.R_reads' HO_7.out).2.2 x19_5 p290 q290
                                            cases e290
                                            replace p290 := eq_true p290
                                            replace q290 := eq_true q290
                                            go_wp2
                                            go_roundg kj43
                                            case measure => have := HJ6.out; have := HJ19.out; have := HK3.out; have := HJ36.out; have := HK5.out; have := HJ43.out; omega
                                            case rel => exact ⟨(x17_5), (rd t267 x19_5), (wrap64 (x19_5 + 1)), (by first | rfl | (simp; done) | (simp [*]; done)), (by first | rfl | (simp; done) | (simp [*]; done)), (by first | rfl | (simp; done) | (simp [*]; done)), H', ⟨by have := HJ6.out; have := HJ19.out; have := HK3.out; have := HJ36.out; have := HK5.out; have := HJ43.out; omega⟩, ⟨by (with_reducible repeat (first | apply Kd.R_alloc | apply Kd.R_drewN | apply Kd.R_drew)); exact HO_7.out⟩, ⟨by (with_reducible repeat (first | apply Kd.R_alloc | apply Kd.R_drewN | apply Kd.R_drew)); exact HO_16.out⟩, ⟨by repeat (first | (with_reducible first | exact HB.out | apply below_alloc | apply pw_below_drewN | apply below_drew1) | exact HB.out)⟩⟩
                                          · rw [if_neg c59] at H
                                            exact absurd H (by simp)
                                        · rw [if_neg c58] at H
                                          exact absurd H (by simp)
                                · rw [if_neg c43] at H
                                  have c43b0 : decide (x19_5 < (t267.length : Int)) = false := decide_eq_false c43
                                  clear c43
                                  replace H := Option.bind_eq_some_iff.mp H
                                  obtain ⟨t284, A600, H⟩ := H
                                  replace H : ((impl_StepChannel.f k5 4 (Int.tmod t284 7)).bind fun bt285 => (if x17_5 = (t281.length : Int) then (if bt285.1 = 4 then (some (!bt285.2)) else (some false)) else (some false))) = some r := H
                                  have A60 := Aside0.mk A600
                                  clear A600
                                  replace H := Option.bind_eq_some_iff.mp H
                                  obtain ⟨⟨t285, t286⟩, A610, H⟩ := H
                                  replace H : (if x17_5 = (t281.length : Int) then (if t285 = 4 then (some (!t286)) else (some false)) else (some false)) = some r := H
                                  have A61 := Aside0.mk A610
                                  clear A610
                                  by_cases c62 : x17_5 = (t281.length : Int)
                                  · rw [if_pos c62] at H
                                    have c62b0 : (x17_5 == (t281.length : Int)) = true := beq_iff_eq.mpr c62
                                    have c62b1 : (x17_5 != (t281.length : Int)) = false := bne_eq_false_iff_eq.mpr c62
                                    clear c62
                                    by_cases c63 : t285 = 4
                                    · rw [if_pos c63] at H
                                      have c63b0 : (t285 == 4) = true := beq_iff_eq.mpr c63
                                      have c63b1 : (t285 != 4) = false := bne_eq_false_iff_eq.mpr c63
                                      clear c63
                                      obtain rfl := Option.some.inj H
                                      obtain ⟨Ao64, co64, eo64⟩ := Kd.R_slice HO_7.out
                                      subst eo64
                                      go_wp2_with (first | ((with_reducible refine gate_callee (f := 44) rfl ?_); refine goesL_ (some 138) rfl rfl Try.func44 (by kernel_rfl) rfl #[.slice A0 l0.length c0, .int .i64 2] rfl (by (try simp only [List.map_toArray, List.map_cons, List.map_nil]); first | done | rfl | (simp only [List.length_drop, List.length_take]; rfl)) ?_; (with_reducible refine (laws_at.calls _ _ l0 2 t284 _ ?side1 ?side2 A60.out).mono ?_); (case side1 => repeat (first | exact (Kd.C_below HR0.out HB.out) | (with_reducible refine Kd.C_alloc ?_ _) | (with_reducible refine Kd.C_drewN ?_ _) | (with_reducible refine Kd.C_drew ?_))); (case side2 => exact HC0.out); rintro e w' ⟨rfl, ⟨nd, rfl⟩⟩; refine ⟨_, rfl, ?_⟩) | ((with_reducible refine gate_callee (f := 15) rfl ?_); refine goesL_ (some 140) rfl rfl Try.func15 (by kernel_rfl) rfl #[.int .i64 4, .int .i64 (Int.tmod t284 7)] rfl (by (try simp only [List.map_toArray, List.map_cons, List.map_nil]); first | done | rfl | (simp only [List.length_drop, List.length_take]; rfl)) ?_; (with_reducible refine (impl_StepChannel.calls k5 4 (Int.tmod t284 7) t285 t286 _ A61.out).mono ?_); rintro e w65 ⟨rfl, hb⟩; refine ⟨_, rfl, ?_⟩; have n0_ := Aside0.mk (Kd.R_below (by (with_reducible repeat (first | apply Kd.R_alloc | apply Kd.R_drewN | apply Kd.R_drew)); exact HO_7.out) hb); have n1_ := Aside0.mk (Kd.R_below (by (with_reducible repeat (first | apply Kd.R_alloc | apply Kd.R_drewN | apply Kd.R_drew)); exact HO_16.out) hb); have n2_ := Aside0.mk (below_step (by repeat (first | (with_reducible first | exact HB.out | apply below_alloc | apply pw_below_drewN | apply below_drew1) | exact HB.out)) hb); clear HO_7; clear HO_16; clear HB; have HO_7 := n0_; have HO_16 := n1_; have HB := n2_; clear n0_ n1_ n2_; (try clear hb); (try clear hb2); (try clear hk); (try clear hi); obtain ⟨Ao66, co66, eo66⟩ := Kd.R_slice HO_16.out; subst eo66))
                                      go_ret
                                      exact ⟨by first | rfl | (simp [errW_none, errW_some] <;> rfl) | (simp [*, errW_none, errW_some] <;> rfl), by repeat (first | (with_reducible first | exact HB.out | apply below_alloc | apply pw_below_drewN | apply below_drew1) | exact HB.out)⟩
                                    · rw [if_neg c63] at H
                                      have c63b0 : (t285 == 4) = false := beq_eq_false_iff_ne.mpr c63
                                      have c63b1 : (t285 != 4) = true := bne_iff_ne.mpr c63
                                      obtain rfl := Option.some.inj H
                                      obtain ⟨Ao67, co67, eo67⟩ := Kd.R_slice HO_7.out
                                      subst eo67
                                      go_wp2_with (first | ((with_reducible refine gate_callee (f := 44) rfl ?_); refine goesL_ (some 138) rfl rfl Try.func44 (by kernel_rfl) rfl #[.slice A0 l0.length c0, .int .i64 2] rfl (by (try simp only [List.map_toArray, List.map_cons, List.map_nil]); first | done | rfl | (simp only [List.length_drop, List.length_take]; rfl)) ?_; (with_reducible refine (laws_at.calls _ _ l0 2 t284 _ ?side1 ?side2 A60.out).mono ?_); (case side1 => repeat (first | exact (Kd.C_below HR0.out HB.out) | (with_reducible refine Kd.C_alloc ?_ _) | (with_reducible refine Kd.C_drewN ?_ _) | (with_reducible refine Kd.C_drew ?_))); (case side2 => exact HC0.out); rintro e w' ⟨rfl, ⟨nd, rfl⟩⟩; refine ⟨_, rfl, ?_⟩) | ((with_reducible refine gate_callee (f := 15) rfl ?_); refine goesL_ (some 140) rfl rfl Try.func15 (by kernel_rfl) rfl #[.int .i64 4, .int .i64 (Int.tmod t284 7)] rfl (by (try simp only [List.map_toArray, List.map_cons, List.map_nil]); first | done | rfl | (simp only [List.length_drop, List.length_take]; rfl)) ?_; (with_reducible refine (impl_StepChannel.calls k5 4 (Int.tmod t284 7) t285 t286 _ A61.out).mono ?_); rintro e w68 ⟨rfl, hb⟩; refine ⟨_, rfl, ?_⟩; have n0_ := Aside0.mk (Kd.R_below (by (with_reducible repeat (first | apply Kd.R_alloc | apply Kd.R_drewN | apply Kd.R_drew)); exact HO_7.out) hb); have n1_ := Aside0.mk (Kd.R_below (by (with_reducible repeat (first | apply Kd.R_alloc | apply Kd.R_drewN | apply Kd.R_drew)); exact HO_16.out) hb); have n2_ := Aside0.mk (below_step (by repeat (first | (with_reducible first | exact HB.out | apply below_alloc | apply pw_below_drewN | apply below_drew1) | exact HB.out)) hb); clear HO_7; clear HO_16; clear HB; have HO_7 := n0_; have HO_16 := n1_; have HB := n2_; clear n0_ n1_ n2_; (try clear hb); (try clear hb2); (try clear hk); (try clear hi); obtain ⟨Ao69, co69, eo69⟩ := Kd.R_slice HO_16.out; subst eo69))
                                      go_ret
                                      exact ⟨by first | rfl | (simp [errW_none, errW_some] <;> rfl) | (simp [*, errW_none, errW_some] <;> rfl), by repeat (first | (with_reducible first | exact HB.out | apply below_alloc | apply pw_below_drewN | apply below_drew1) | exact HB.out)⟩
                                  · rw [if_neg c62] at H
                                    have c62b0 : (x17_5 == (t281.length : Int)) = false := beq_eq_false_iff_ne.mpr c62
                                    have c62b1 : (x17_5 != (t281.length : Int)) = true := bne_iff_ne.mpr c62
                                    obtain rfl := Option.some.inj H
                                    obtain ⟨Ao70, co70, eo70⟩ := Kd.R_slice HO_7.out
                                    subst eo70
                                    go_wp2_with (first | ((with_reducible refine gate_callee (f := 44) rfl ?_); refine goesL_ (some 138) rfl rfl Try.func44 (by kernel_rfl) rfl #[.slice A0 l0.length c0, .int .i64 2] rfl (by (try simp only [List.map_toArray, List.map_cons, List.map_nil]); first | done | rfl | (simp only [List.length_drop, List.length_take]; rfl)) ?_; (with_reducible refine (laws_at.calls _ _ l0 2 t284 _ ?side1 ?side2 A60.out).mono ?_); (case side1 => repeat (first | exact (Kd.C_below HR0.out HB.out) | (with_reducible refine Kd.C_alloc ?_ _) | (with_reducible refine Kd.C_drewN ?_ _) | (with_reducible refine Kd.C_drew ?_))); (case side2 => exact HC0.out); rintro e w' ⟨rfl, ⟨nd, rfl⟩⟩; refine ⟨_, rfl, ?_⟩) | ((with_reducible refine gate_callee (f := 15) rfl ?_); refine goesL_ (some 140) rfl rfl Try.func15 (by kernel_rfl) rfl #[.int .i64 4, .int .i64 (Int.tmod t284 7)] rfl (by (try simp only [List.map_toArray, List.map_cons, List.map_nil]); first | done | rfl | (simp only [List.length_drop, List.length_take]; rfl)) ?_; (with_reducible refine (impl_StepChannel.calls k5 4 (Int.tmod t284 7) t285 t286 _ A61.out).mono ?_); rintro e w71 ⟨rfl, hb⟩; refine ⟨_, rfl, ?_⟩; have n0_ := Aside0.mk (Kd.R_below (by (with_reducible repeat (first | apply Kd.R_alloc | apply Kd.R_drewN | apply Kd.R_drew)); exact HO_7.out) hb); have n1_ := Aside0.mk (Kd.R_below (by (with_reducible repeat (first | apply Kd.R_alloc | apply Kd.R_drewN | apply Kd.R_drew)); exact HO_16.out) hb); have n2_ := Aside0.mk (below_step (by repeat (first | (with_reducible first | exact HB.out | apply below_alloc | apply pw_below_drewN | apply below_drew1) | exact HB.out)) hb); clear HO_7; clear HO_16; clear HB; have HO_7 := n0_; have HO_16 := n1_; have HB := n2_; clear n0_ n1_ n2_; (try clear hb); (try clear hb2); (try clear hk); (try clear hi); obtain ⟨Ao72, co72, eo72⟩ := Kd.R_slice HO_16.out; subst eo72))
                                    go_ret
                                    exact ⟨by first | rfl | (simp [errW_none, errW_some] <;> rfl) | (simp [*, errW_none, errW_some] <;> rfl), by repeat (first | (with_reducible first | exact HB.out | apply below_alloc | apply pw_below_drewN | apply below_drew1) | exact HB.out)⟩

/-- THE ONE PURE STATEMENT of laws_FnChannels: yours. -/
def laws_FnChannels.Pure : Prop := ∀ (l0 : List Int), l0.length ≤ maxLen → l0.length * 1 ≤ 140737488351232 → (∀ x ∈ l0, (Lit.int .u8 x).wf = true) → ∃ k, laws_FnChannels.f k l0 = some true
theorem laws_FnChannels.walk (P : laws_FnChannels.Pure) (a0 : Option Addr) (len0 cap0 : Nat) (z0 : List Int) (w : World) (w0 : (a0 = none ∧ len0 = 0 ∧ cap0 = 0 ∧ z0 = []) ∨ ∃ x, a0 = some x ∧ len0 ≤ cap0 ∧ cap0 ≤ maxLen ∧ z0.length = cap0 ∧ (∀ i, i < z0.length → w.cell? (x.add i) = some (.int .u8 (z0.getD i 0))) ∧ ∀ n ∈ z0, (Lit.int .u8 n).wf = true) (y0 : len0 * 1 ≤ 140737488351232) :
    Calls Try.prog 12 #[.slice a0 len0 cap0] w fun e w' => e = .returned (.bool true) ∧ Below w.heap.size w w' := by
  obtain ⟨l0, rfl, hr0, hm0, hw0, hc0⟩ := ReadsInt.ofRowC w0
  obtain ⟨k, h⟩ := P l0 hm0 y0 hw0
  refine (laws_FnChannels.calls k _ _ l0 true w (Kd.C_of_reads (d := (0 : Int)) (h1 := fun _ => rfl) hr0) hc0 h).mono ?_
  rintro e w' ⟨rfl, hd⟩
  exact ⟨rfl, hd⟩

end Go.Proofs.Ytjjklpiiiihmlaa.MFnChannels
