-- Written by a program of this session over the kit's print, with stand-ins for the functions that the print leaves; Lean checks it.
import Derived.Test.YtgpgkedbanmheaaMFnExactPopFrontx0
import Derived.Test.YtgpgkedbanmheaaMFnExactPopFrontx1
import Derived.Test.YtgpgkedbanmheaaMFnExactPopFrontx5
import Derived.Test.YtgpgkedbanmheaaMFnExactPopFrontx9
import Derived.Test.YtgpgkedbanmheaaMFnExactPopFrontx10
namespace Go.Proofs.Ytgpgkedbanmheaa.MFnExactPopFront
open Go.RowKit Go.Proofs.YtgpgkedbanmheaaW.PrintWords Go.Proofs.YtgpgkedbanmheaaW.PrintLast Go.Proofs.YtgpgkedbanmheaaW.PrintMore
attribute [local go_sem] max2_int min2_int max_two min_two max_three min_three max_four min_four   -- for this text's walks alone
set_option linter.unusedVariables false
set_option linter.unusedSimpArgs false

/-! ### laws_FnExactPopFront: function 3 -/
mutual
def laws_FnExactPopFront.j0 : Nat → Int → Int → Bool → List (S75) → Int → Int → Int → Int → List (S65) → Int → Int → Int → Int → List (S65) → Int → Int → Int → Int → List (S65) → Int → Int → Int → Int → Option (Bool)
  | 0, _, _, _, _, _, _, _, _, _, _, _, _, _, _, _, _, _, _, _, _, _, _, _ => none
  | k + 1, x5, x8, x40, x295000, x295001, x295002, x295003, x295004, x312000, x312001, x312002, x312003, x312004, x320000, x320001, x320002, x320003, x320004, x329000, x329001, x329002, x329003, x329004 => if x40 = true then (some false) else ((laws_toQueue.f k x295000 x295001 x295002 x295003 x295004).bind fun bt330 => ((laws_eqQueue.f k x320000 x320001 x320002 x320003 x320004 bt330.1 bt330.2.1 bt330.2.2.1 bt330.2.2.2.1 bt330.2.2.2.2).bind fun t337 => (if t337 = true then ((laws_markQueue.f k x320000 x320001 x320002 x320003 x320004 1).bind fun bt338 => (if bt338.1 < 0 then (laws_FnExactPopFront.j1 k x5 true x295000 x295001 x295002 x295003 x295004 x312000 x312001 x312002 x312003 x312004 x329000 x329001 x329002 x329003 x329004) else ((laws_eqQueue.f k x329000 x329001 x329002 x329003 x329004 x312000 x312001 x312002 x312003 x312004).bind fun t340 => (if t340 = true then (laws_FnExactPopFront.j1 k x5 (x8 != x5) x295000 x295001 x295002 x295003 x295004 x312000 x312001 x312002 x312003 x312004 x329000 x329001 x329002 x329003 x329004) else (laws_FnExactPopFront.j1 k x5 true x295000 x295001 x295002 x295003 x295004 x312000 x312001 x312002 x312003 x312004 x329000 x329001 x329002 x329003 x329004))))) else (some false))))
def laws_FnExactPopFront.j1 : Nat → Int → Bool → List (S75) → Int → Int → Int → Int → List (S65) → Int → Int → Int → Int → List (S65) → Int → Int → Int → Int → Option (Bool)
  | 0, _, _, _, _, _, _, _, _, _, _, _, _, _, _, _, _, _ => none
  | k + 1, x5, x61, x295000, x295001, x295002, x295003, x295004, x312000, x312001, x312002, x312003, x312004, x329000, x329001, x329002, x329003, x329004 => if x61 = true then (some false) else ((laws_markQueue.f k x329000 x329001 x329002 x329003 x329004 1).bind fun bt341 => ((laws_heldQueue.f k bt341.2 x329001 x329002 x329003 x329004 1).bind fun t343 => (if t343 < 0 then (some false) else (if t343 = bt341.1 then ((laws_toQueue.f k x295000 x295001 x295002 x295003 x295004).bind fun bt344 => ((impl_PopFront.f k bt344.1 bt344.2.1 bt344.2.2.1 bt344.2.2.2.1 bt344.2.2.2.2).bind fun bt351 => ((laws_eqQueue.f k bt351.1 bt351.2.1 bt351.2.2.1 bt351.2.2.2.1 bt351.2.2.2.2.1 x312000 x312001 x312002 x312003 x312004).bind fun t360 => (if t360 = true then (laws_FnExactPopFront.j2 k bt341.1 (bt351.2.2.2.2.2 != x5) bt341.2 x329001 x329002 x329003 x329004) else (laws_FnExactPopFront.j2 k bt341.1 true bt341.2 x329001 x329002 x329003 x329004))))) else (some false)))))
def laws_FnExactPopFront.j2 : Nat → Int → Bool → List (S65) → Int → Int → Int → Int → Option (Bool)
  | 0, _, _, _, _, _, _, _ => none
  | k + 1, x10, x87, x329000, x329001, x329002, x329003, x329004 => if x87 = true then (some false) else ((laws_heldQueue.f k x329000 x329001 x329002 x329003 x329004 1).bind fun t361 => (if t361 < 0 then (some false) else (if t361 = x10 then (some true) else (some false))))
end
def laws_FnExactPopFront.f (k : Nat) (l0_0 : List (S75)) (a0_1 : Int) (a0_2 : Int) (a0_3 : Int) (a0_4 : Int) : Option (Bool) := (laws_szQueue.f l0_0 a0_1 a0_2 a0_3 a0_4 1048576).bind fun t295 => (if t295 < 0 then (some true) else ((laws_toQueue.f k l0_0 a0_1 a0_2 a0_3 a0_4).bind fun bt296 => ((spec_PopFront.f k bt296.1 bt296.2.1 bt296.2.2.1 bt296.2.2.2.1 bt296.2.2.2.2).bind fun bt303 => ((laws_toQueue.f k l0_0 a0_1 a0_2 a0_3 a0_4).bind fun bt312 => ((impl_PopFront.f k bt312.1 bt312.2.1 bt312.2.2.1 bt312.2.2.2.1 bt312.2.2.2.2).bind fun bt320 => ((laws_eqQueue.f k bt320.1 bt320.2.1 bt320.2.2.1 bt320.2.2.2.1 bt320.2.2.2.2.1 bt303.1 bt303.2.1 bt303.2.2.1 bt303.2.2.2.1 bt303.2.2.2.2.1).bind fun t329 => (if t329 = true then (laws_FnExactPopFront.j0 k bt303.2.2.2.2.2 bt320.2.2.2.2.2 (bt320.2.2.2.2.2 != bt303.2.2.2.2.2) l0_0 a0_1 a0_2 a0_3 a0_4 bt303.1 bt303.2.1 bt303.2.2.1 bt303.2.2.2.1 bt303.2.2.2.2.1 bt312.1 bt312.2.1 bt312.2.2.1 bt312.2.2.2.1 bt312.2.2.2.2 bt320.1 bt320.2.1 bt320.2.2.1 bt320.2.2.2.1 bt320.2.2.2.2.1) else (laws_FnExactPopFront.j0 k bt303.2.2.2.2.2 bt320.2.2.2.2.2 true l0_0 a0_1 a0_2 a0_3 a0_4 bt303.1 bt303.2.1 bt303.2.2.1 bt303.2.2.2.1 bt303.2.2.2.2.1 bt312.1 bt312.2.1 bt312.2.2.1 bt312.2.2.2.1 bt312.2.2.2.2 bt320.1 bt320.2.1 bt320.2.2.1 bt320.2.2.2.1 bt320.2.2.2.2.1))))))))
theorem laws_FnExactPopFront.mono_l : ∀ k, (∀ y0 y1 y2 y3 y4 y5 y6 y7 y8 y9 y10 y11 y12 y13 y14 y15 y16 y17 y18 y19 y20 y21 y22, LeO (laws_FnExactPopFront.j0 k y0 y1 y2 y3 y4 y5 y6 y7 y8 y9 y10 y11 y12 y13 y14 y15 y16 y17 y18 y19 y20 y21 y22) (laws_FnExactPopFront.j0 (k + 1) y0 y1 y2 y3 y4 y5 y6 y7 y8 y9 y10 y11 y12 y13 y14 y15 y16 y17 y18 y19 y20 y21 y22)) ∧ (∀ y0 y1 y2 y3 y4 y5 y6 y7 y8 y9 y10 y11 y12 y13 y14 y15 y16, LeO (laws_FnExactPopFront.j1 k y0 y1 y2 y3 y4 y5 y6 y7 y8 y9 y10 y11 y12 y13 y14 y15 y16) (laws_FnExactPopFront.j1 (k + 1) y0 y1 y2 y3 y4 y5 y6 y7 y8 y9 y10 y11 y12 y13 y14 y15 y16)) ∧ (∀ y0 y1 y2 y3 y4 y5 y6, LeO (laws_FnExactPopFront.j2 k y0 y1 y2 y3 y4 y5 y6) (laws_FnExactPopFront.j2 (k + 1) y0 y1 y2 y3 y4 y5 y6))
  | 0 => ⟨fun _ _ _ _ _ _ _ _ _ _ _ _ _ _ _ _ _ _ _ _ _ _ _ r h => by simp [laws_FnExactPopFront.j0] at h, fun _ _ _ _ _ _ _ _ _ _ _ _ _ _ _ _ _ r h => by simp [laws_FnExactPopFront.j1] at h, fun _ _ _ _ _ _ _ r h => by simp [laws_FnExactPopFront.j2] at h⟩
  | k + 1 => by
    obtain ⟨ih0, ih1, ih2⟩ := laws_FnExactPopFront.mono_l k
    refine ⟨?_, ?_, ?_⟩
    · intro y0 y1 y2 y3 y4 y5 y6 y7 y8 y9 y10 y11 y12 y13 y14 y15 y16 y17 y18 y19 y20 y21 y22
      unfold laws_FnExactPopFront.j0
      repeat' first
      | (with_reducible exact ih0 _ _ _ _ _ _ _ _ _ _ _ _ _ _ _ _ _ _ _ _ _ _ _)
      | (with_reducible exact ih1 _ _ _ _ _ _ _ _ _ _ _ _ _ _ _ _ _)
      | (with_reducible exact ih2 _ _ _ _ _ _ _)
      | (with_reducible exact impl_PopFront.mono _ _ _ _ _ _)
      | (with_reducible exact laws_eqQueue.mono _ _ _ _ _ _ _ _ _ _ _)
      | (with_reducible exact laws_heldQueue.mono _ _ _ _ _ _ _)
      | (with_reducible exact laws_markQueue.mono _ _ _ _ _ _ _)
      | (with_reducible exact laws_toQueue.mono _ _ _ _ _ _)
      | (with_reducible exact spec_PopFront.mono _ _ _ _ _ _)
      | (with_reducible exact LeO.refl _)
      | (with_reducible exact LeO.none _)
      | (with_reducible refine LeO.ite ?_ ?_)
      | (with_reducible refine LeO.bind ?_ (fun _ => ?_))
      | exact ih0 _ _ _ _ _ _ _ _ _ _ _ _ _ _ _ _ _ _ _ _ _ _ _
      | exact ih1 _ _ _ _ _ _ _ _ _ _ _ _ _ _ _ _ _
      | exact ih2 _ _ _ _ _ _ _
      | exact impl_PopFront.mono _ _ _ _ _ _
      | exact laws_eqQueue.mono _ _ _ _ _ _ _ _ _ _ _
      | exact laws_heldQueue.mono _ _ _ _ _ _ _
      | exact laws_markQueue.mono _ _ _ _ _ _ _
      | exact laws_toQueue.mono _ _ _ _ _ _
      | exact spec_PopFront.mono _ _ _ _ _ _
      | exact LeO.none _
      | refine LeO.ite ?_ ?_
      | refine LeO.bind ?_ (fun _ => ?_)
    · intro y0 y1 y2 y3 y4 y5 y6 y7 y8 y9 y10 y11 y12 y13 y14 y15 y16
      unfold laws_FnExactPopFront.j1
      repeat' first
      | (with_reducible exact ih0 _ _ _ _ _ _ _ _ _ _ _ _ _ _ _ _ _ _ _ _ _ _ _)
      | (with_reducible exact ih1 _ _ _ _ _ _ _ _ _ _ _ _ _ _ _ _ _)
      | (with_reducible exact ih2 _ _ _ _ _ _ _)
      | (with_reducible exact impl_PopFront.mono _ _ _ _ _ _)
      | (with_reducible exact laws_eqQueue.mono _ _ _ _ _ _ _ _ _ _ _)
      | (with_reducible exact laws_heldQueue.mono _ _ _ _ _ _ _)
      | (with_reducible exact laws_markQueue.mono _ _ _ _ _ _ _)
      | (with_reducible exact laws_toQueue.mono _ _ _ _ _ _)
      | (with_reducible exact spec_PopFront.mono _ _ _ _ _ _)
      | (with_reducible exact LeO.refl _)
      | (with_reducible exact LeO.none _)
      | (with_reducible refine LeO.ite ?_ ?_)
      | (with_reducible refine LeO.bind ?_ (fun _ => ?_))
      | exact ih0 _ _ _ _ _ _ _ _ _ _ _ _ _ _ _ _ _ _ _ _ _ _ _
      | exact ih1 _ _ _ _ _ _ _ _ _ _ _ _ _ _ _ _ _
      | exact ih2 _ _ _ _ _ _ _
      | exact impl_PopFront.mono _ _ _ _ _ _
      | exact laws_eqQueue.mono _ _ _ _ _ _ _ _ _ _ _
      | exact laws_heldQueue.mono _ _ _ _ _ _ _
      | exact laws_markQueue.mono _ _ _ _ _ _ _
      | exact laws_toQueue.mono _ _ _ _ _ _
      | exact spec_PopFront.mono _ _ _ _ _ _
      | exact LeO.none _
      | refine LeO.ite ?_ ?_
      | refine LeO.bind ?_ (fun _ => ?_)
    · intro y0 y1 y2 y3 y4 y5 y6
      unfold laws_FnExactPopFront.j2
      repeat' first
      | (with_reducible exact ih0 _ _ _ _ _ _ _ _ _ _ _ _ _ _ _ _ _ _ _ _ _ _ _)
      | (with_reducible exact ih1 _ _ _ _ _ _ _ _ _ _ _ _ _ _ _ _ _)
      | (with_reducible exact ih2 _ _ _ _ _ _ _)
      | (with_reducible exact impl_PopFront.mono _ _ _ _ _ _)
      | (with_reducible exact laws_eqQueue.mono _ _ _ _ _ _ _ _ _ _ _)
      | (with_reducible exact laws_heldQueue.mono _ _ _ _ _ _ _)
      | (with_reducible exact laws_markQueue.mono _ _ _ _ _ _ _)
      | (with_reducible exact laws_toQueue.mono _ _ _ _ _ _)
      | (with_reducible exact spec_PopFront.mono _ _ _ _ _ _)
      | (with_reducible exact LeO.refl _)
      | (with_reducible exact LeO.none _)
      | (with_reducible refine LeO.ite ?_ ?_)
      | (with_reducible refine LeO.bind ?_ (fun _ => ?_))
      | exact ih0 _ _ _ _ _ _ _ _ _ _ _ _ _ _ _ _ _ _ _ _ _ _ _
      | exact ih1 _ _ _ _ _ _ _ _ _ _ _ _ _ _ _ _ _
      | exact ih2 _ _ _ _ _ _ _
      | exact impl_PopFront.mono _ _ _ _ _ _
      | exact laws_eqQueue.mono _ _ _ _ _ _ _ _ _ _ _
      | exact laws_heldQueue.mono _ _ _ _ _ _ _
      | exact laws_markQueue.mono _ _ _ _ _ _ _
      | exact laws_toQueue.mono _ _ _ _ _ _
      | exact spec_PopFront.mono _ _ _ _ _ _
      | exact LeO.none _
      | refine LeO.ite ?_ ?_
      | refine LeO.bind ?_ (fun _ => ?_)
theorem laws_FnExactPopFront.mono : ∀ a0 a1 a2 a3 a4 k, LeO (laws_FnExactPopFront.f k a0 a1 a2 a3 a4) (laws_FnExactPopFront.f (k + 1) a0 a1 a2 a3 a4) := by
  intro a0 a1 a2 a3 a4 k
  obtain ⟨ih0, ih1, ih2⟩ := laws_FnExactPopFront.mono_l k
  unfold laws_FnExactPopFront.f
  repeat' first
      | (with_reducible exact ih0 _ _ _ _ _ _ _ _ _ _ _ _ _ _ _ _ _ _ _ _ _ _ _)
      | (with_reducible exact ih1 _ _ _ _ _ _ _ _ _ _ _ _ _ _ _ _ _)
      | (with_reducible exact ih2 _ _ _ _ _ _ _)
      | (with_reducible exact impl_PopFront.mono _ _ _ _ _ _)
      | (with_reducible exact laws_eqQueue.mono _ _ _ _ _ _ _ _ _ _ _)
      | (with_reducible exact laws_heldQueue.mono _ _ _ _ _ _ _)
      | (with_reducible exact laws_markQueue.mono _ _ _ _ _ _ _)
      | (with_reducible exact laws_toQueue.mono _ _ _ _ _ _)
      | (with_reducible exact spec_PopFront.mono _ _ _ _ _ _)
      | (with_reducible exact LeO.refl _)
      | (with_reducible exact LeO.none _)
      | (with_reducible refine LeO.ite ?_ ?_)
      | (with_reducible refine LeO.bind ?_ (fun _ => ?_))
      | exact ih0 _ _ _ _ _ _ _ _ _ _ _ _ _ _ _ _ _ _ _ _ _ _ _
      | exact ih1 _ _ _ _ _ _ _ _ _ _ _ _ _ _ _ _ _
      | exact ih2 _ _ _ _ _ _ _
      | exact impl_PopFront.mono _ _ _ _ _ _
      | exact laws_eqQueue.mono _ _ _ _ _ _ _ _ _ _ _
      | exact laws_heldQueue.mono _ _ _ _ _ _ _
      | exact laws_markQueue.mono _ _ _ _ _ _ _
      | exact laws_toQueue.mono _ _ _ _ _ _
      | exact spec_PopFront.mono _ _ _ _ _ _
      | exact LeO.none _
      | refine LeO.ite ?_ ?_
      | refine LeO.bind ?_ (fun _ => ?_)
set_option maxHeartbeats 40000000 in
set_option maxRecDepth 100000 in
theorem laws_FnExactPopFront.calls (k : Nat) (A0_0 : Option Addr) (c0_0 : Nat) (l0_0 : List (S75)) (a0_1 : Int) (a0_2 : Int) (a0_3 : Int) (a0_4 : Int) (r : Bool) (w : World) (hr0_0 : Kd.C k75 w A0_0 l0_0.length l0_0) (hc0_0 : l0_0.length ≤ c0_0) (h : laws_FnExactPopFront.f k l0_0 a0_1 a0_2 a0_3 a0_4 = some r) :
    Calls Try.prog 3 #[.agg #[.slice A0_0 l0_0.length c0_0, .int .i64 a0_1, .int .i64 a0_2, .int .i64 a0_3, .int .i64 a0_4]] w fun e w' => e = .returned (.bool r) ∧ Below w.heap.size w w' := by
  have hu24 := Try.underlying24
  have hu28 := Try.underlying28
  have HR0_0 := Aside0.mk hr0_0
  have HC0_0 := Aside0.mk hc0_0
  clear hr0_0 hc0_0
  have HB := Aside0.mk (Below.refl w.heap.size w)
  have H : ((laws_szQueue.f l0_0 a0_1 a0_2 a0_3 a0_4 1048576).bind fun t295 => (if t295 < 0 then (some true) else ((laws_toQueue.f k l0_0 a0_1 a0_2 a0_3 a0_4).bind fun bt296 => ((spec_PopFront.f k bt296.1 bt296.2.1 bt296.2.2.1 bt296.2.2.2.1 bt296.2.2.2.2).bind fun bt303 => ((laws_toQueue.f k l0_0 a0_1 a0_2 a0_3 a0_4).bind fun bt312 => ((impl_PopFront.f k bt312.1 bt312.2.1 bt312.2.2.1 bt312.2.2.2.1 bt312.2.2.2.2).bind fun bt320 => ((laws_eqQueue.f k bt320.1 bt320.2.1 bt320.2.2.1 bt320.2.2.2.1 bt320.2.2.2.2.1 bt303.1 bt303.2.1 bt303.2.2.1 bt303.2.2.2.1 bt303.2.2.2.2.1).bind fun t329 => (if t329 = true then (laws_FnExactPopFront.j0 k bt303.2.2.2.2.2 bt320.2.2.2.2.2 (bt320.2.2.2.2.2 != bt303.2.2.2.2.2) l0_0 a0_1 a0_2 a0_3 a0_4 bt303.1 bt303.2.1 bt303.2.2.1 bt303.2.2.2.1 bt303.2.2.2.2.1 bt312.1 bt312.2.1 bt312.2.2.1 bt312.2.2.2.1 bt312.2.2.2.2 bt320.1 bt320.2.1 bt320.2.2.1 bt320.2.2.2.1 bt320.2.2.2.2.1) else (laws_FnExactPopFront.j0 k bt303.2.2.2.2.2 bt320.2.2.2.2.2 true l0_0 a0_1 a0_2 a0_3 a0_4 bt303.1 bt303.2.1 bt303.2.2.1 bt303.2.2.2.1 bt303.2.2.2.2.1 bt312.1 bt312.2.1 bt312.2.2.1 bt312.2.2.2.1 bt312.2.2.2.2 bt320.1 bt320.2.1 bt320.2.2.1 bt320.2.2.2.1 bt320.2.2.2.2.1))))))))) = some r := h
  clear h
  replace H := Option.bind_eq_some_iff.mp H
  obtain ⟨t295, A20, H⟩ := H
  replace H : (if t295 < 0 then (some true) else ((laws_toQueue.f k l0_0 a0_1 a0_2 a0_3 a0_4).bind fun bt296 => ((spec_PopFront.f k bt296.1 bt296.2.1 bt296.2.2.1 bt296.2.2.2.1 bt296.2.2.2.2).bind fun bt303 => ((laws_toQueue.f k l0_0 a0_1 a0_2 a0_3 a0_4).bind fun bt312 => ((impl_PopFront.f k bt312.1 bt312.2.1 bt312.2.2.1 bt312.2.2.2.1 bt312.2.2.2.2).bind fun bt320 => ((laws_eqQueue.f k bt320.1 bt320.2.1 bt320.2.2.1 bt320.2.2.2.1 bt320.2.2.2.2.1 bt303.1 bt303.2.1 bt303.2.2.1 bt303.2.2.2.1 bt303.2.2.2.2.1).bind fun t329 => (if t329 = true then (laws_FnExactPopFront.j0 k bt303.2.2.2.2.2 bt320.2.2.2.2.2 (bt320.2.2.2.2.2 != bt303.2.2.2.2.2) l0_0 a0_1 a0_2 a0_3 a0_4 bt303.1 bt303.2.1 bt303.2.2.1 bt303.2.2.2.1 bt303.2.2.2.2.1 bt312.1 bt312.2.1 bt312.2.2.1 bt312.2.2.2.1 bt312.2.2.2.2 bt320.1 bt320.2.1 bt320.2.2.1 bt320.2.2.2.1 bt320.2.2.2.2.1) else (laws_FnExactPopFront.j0 k bt303.2.2.2.2.2 bt320.2.2.2.2.2 true l0_0 a0_1 a0_2 a0_3 a0_4 bt303.1 bt303.2.1 bt303.2.2.1 bt303.2.2.2.1 bt303.2.2.2.2.1 bt312.1 bt312.2.1 bt312.2.2.1 bt312.2.2.2.1 bt312.2.2.2.2 bt320.1 bt320.2.1 bt320.2.2.1 bt320.2.2.2.1 bt320.2.2.2.2.1)))))))) = some r := H
  have A2 := Aside0.mk A20
  clear A20
  by_cases c3 : t295 < 0
  · rw [if_pos c3] at H
    have c3b0 : decide (t295 < 0) = true := decide_eq_true c3
    clear c3
    obtain rfl := Option.some.inj H
    go_enter Try.func3, Try.ntmps3
    go_wp2_with (first | ((with_reducible refine gate_dst (N := 1) rfl ?_); refine box_event ?hg (N := 1) ?hd (cs := #[.slice A0_0 l0_0.length c0_0, .int .i64 a0_1, .int .i64 a0_2, .int .i64 a0_3, .int .i64 a0_4]) (t := 24) ?hr ?_; (case hd => rfl); (case hg => rfl); (case hr => first | (go_simp; done) | (go_simp; rfl)); intro gb294 hg w4 hbox hb; have n0_ := Aside0.mk (below_step (be_ HB.out) hb); have n1_ := Aside0.mk (hbox); have n2_ := Aside0.mk ((by rw [hg]; exact (below_size (be_ HB.out)) : w.heap.size ≤ gb294)); have n3_ := Aside0.mk ((by rw [hg]; exact (below_size (be_ HB.out)) : w.heap.size ≤ gb294)); clear HB; have HB := n0_; have BK294 := n1_; have GW294 := n2_; have GE294 := n3_; clear n0_ n1_ n2_ n3_; clear hb hbox hg; obtain ⟨hcz5_0, hcz5_1, hcz5_2, hcz5_3, hcz5_4, hfz5_0, hfz5_1, hfz5_2, hfz5_3, hfz5_4⟩ := cz5_ BK294.out) | ((with_reducible refine gate_callee (f := 13) rfl ?_); refine goesL_ (some 16) rfl rfl Try.func13 (by kernel_rfl) rfl #[.agg #[.slice A0_0 l0_0.length c0_0, .int .i64 a0_1, .int .i64 a0_2, .int .i64 a0_3, .int .i64 a0_4], .int .i64 1048576] rfl (by (try simp only [List.map_toArray, List.map_cons, List.map_nil]); first | done | rfl | (simp only [List.length_drop, List.length_take]; rfl)) ?_; (with_reducible refine (laws_szQueue.calls _ _ l0_0 a0_1 a0_2 a0_3 a0_4 1048576 t295 _ ?side1 ?side2 A2.out).mono ?_); (case side1 => repeat (first | exact (Kd.C_below HR0_0.out HB.out) | (with_reducible refine Kd.C_alloc ?_ _) | (with_reducible refine Kd.C_drewN ?_ _) | (with_reducible refine Kd.C_drew ?_))); (case side2 => exact HC0_0.out); rintro e w6 ⟨rfl, hb⟩; refine ⟨_, rfl, ?_⟩; have n0_ := Aside0.mk (blk_below (g := gb294) (o := .cells #[.slice A0_0 l0_0.length c0_0, .int .i64 a0_1, .int .i64 a0_2, .int .i64 a0_3, .int .i64 a0_4] 24 (0, 0)) (bl_ BK294.out) hb); have n1_ := Aside0.mk (below_step (be_ HB.out) hb); clear BK294 HB; have BK294 := n0_; have HB := n1_; clear n0_ n1_; (try clear hb); (try clear hb2); (try clear hk); (try clear hi)))
    go_ret
    exact ⟨by first | rfl | (simp [errW_none, errW_some] <;> rfl) | (simp [*, errW_none, errW_some] <;> rfl), be_ HB.out⟩
  · rw [if_neg c3] at H
    have c3b0 : decide (t295 < 0) = false := decide_eq_false c3
    clear c3
    replace H := Option.bind_eq_some_iff.mp H
    obtain ⟨⟨t296, t299, t300, t301, t302⟩, A70, H⟩ := H
    replace H : ((spec_PopFront.f k t296 t299 t300 t301 t302).bind fun bt303 => ((laws_toQueue.f k l0_0 a0_1 a0_2 a0_3 a0_4).bind fun bt312 => ((impl_PopFront.f k bt312.1 bt312.2.1 bt312.2.2.1 bt312.2.2.2.1 bt312.2.2.2.2).bind fun bt320 => ((laws_eqQueue.f k bt320.1 bt320.2.1 bt320.2.2.1 bt320.2.2.2.1 bt320.2.2.2.2.1 bt303.1 bt303.2.1 bt303.2.2.1 bt303.2.2.2.1 bt303.2.2.2.2.1).bind fun t329 => (if t329 = true then (laws_FnExactPopFront.j0 k bt303.2.2.2.2.2 bt320.2.2.2.2.2 (bt320.2.2.2.2.2 != bt303.2.2.2.2.2) l0_0 a0_1 a0_2 a0_3 a0_4 bt303.1 bt303.2.1 bt303.2.2.1 bt303.2.2.2.1 bt303.2.2.2.2.1 bt312.1 bt312.2.1 bt312.2.2.1 bt312.2.2.2.1 bt312.2.2.2.2 bt320.1 bt320.2.1 bt320.2.2.1 bt320.2.2.2.1 bt320.2.2.2.2.1) else (laws_FnExactPopFront.j0 k bt303.2.2.2.2.2 bt320.2.2.2.2.2 true l0_0 a0_1 a0_2 a0_3 a0_4 bt303.1 bt303.2.1 bt303.2.2.1 bt303.2.2.2.1 bt303.2.2.2.2.1 bt312.1 bt312.2.1 bt312.2.2.1 bt312.2.2.2.1 bt312.2.2.2.2 bt320.1 bt320.2.1 bt320.2.2.1 bt320.2.2.2.1 bt320.2.2.2.2.1)))))) = some r := H
    have A7 := Aside0.mk A70
    clear A70
    replace H := Option.bind_eq_some_iff.mp H
    obtain ⟨⟨t303, t306, t307, t308, t309, t310⟩, A80, H⟩ := H
    replace H : ((laws_toQueue.f k l0_0 a0_1 a0_2 a0_3 a0_4).bind fun bt312 => ((impl_PopFront.f k bt312.1 bt312.2.1 bt312.2.2.1 bt312.2.2.2.1 bt312.2.2.2.2).bind fun bt320 => ((laws_eqQueue.f k bt320.1 bt320.2.1 bt320.2.2.1 bt320.2.2.2.1 bt320.2.2.2.2.1 t303 t306 t307 t308 t309).bind fun t329 => (if t329 = true then (laws_FnExactPopFront.j0 k t310 bt320.2.2.2.2.2 (bt320.2.2.2.2.2 != t310) l0_0 a0_1 a0_2 a0_3 a0_4 t303 t306 t307 t308 t309 bt312.1 bt312.2.1 bt312.2.2.1 bt312.2.2.2.1 bt312.2.2.2.2 bt320.1 bt320.2.1 bt320.2.2.1 bt320.2.2.2.1 bt320.2.2.2.2.1) else (laws_FnExactPopFront.j0 k t310 bt320.2.2.2.2.2 true l0_0 a0_1 a0_2 a0_3 a0_4 t303 t306 t307 t308 t309 bt312.1 bt312.2.1 bt312.2.2.1 bt312.2.2.2.1 bt312.2.2.2.2 bt320.1 bt320.2.1 bt320.2.2.1 bt320.2.2.2.1 bt320.2.2.2.2.1))))) = some r := H
    have A8 := Aside0.mk A80
    clear A80
    replace H := Option.bind_eq_some_iff.mp H
    obtain ⟨⟨t312, t315, t316, t317, t318⟩, A90, H⟩ := H
    replace H : ((impl_PopFront.f k t312 t315 t316 t317 t318).bind fun bt320 => ((laws_eqQueue.f k bt320.1 bt320.2.1 bt320.2.2.1 bt320.2.2.2.1 bt320.2.2.2.2.1 t303 t306 t307 t308 t309).bind fun t329 => (if t329 = true then (laws_FnExactPopFront.j0 k t310 bt320.2.2.2.2.2 (bt320.2.2.2.2.2 != t310) l0_0 a0_1 a0_2 a0_3 a0_4 t303 t306 t307 t308 t309 t312 t315 t316 t317 t318 bt320.1 bt320.2.1 bt320.2.2.1 bt320.2.2.2.1 bt320.2.2.2.2.1) else (laws_FnExactPopFront.j0 k t310 bt320.2.2.2.2.2 true l0_0 a0_1 a0_2 a0_3 a0_4 t303 t306 t307 t308 t309 t312 t315 t316 t317 t318 bt320.1 bt320.2.1 bt320.2.2.1 bt320.2.2.2.1 bt320.2.2.2.2.1)))) = some r := H
    have A9 := Aside0.mk A90
    clear A90
    replace H := Option.bind_eq_some_iff.mp H
    obtain ⟨⟨t320, t323, t324, t325, t326, t327⟩, A100, H⟩ := H
    replace H : ((laws_eqQueue.f k t320 t323 t324 t325 t326 t303 t306 t307 t308 t309).bind fun t329 => (if t329 = true then (laws_FnExactPopFront.j0 k t310 t327 (t327 != t310) l0_0 a0_1 a0_2 a0_3 a0_4 t303 t306 t307 t308 t309 t312 t315 t316 t317 t318 t320 t323 t324 t325 t326) else (laws_FnExactPopFront.j0 k t310 t327 true l0_0 a0_1 a0_2 a0_3 a0_4 t303 t306 t307 t308 t309 t312 t315 t316 t317 t318 t320 t323 t324 t325 t326))) = some r := H
    have A10 := Aside0.mk A100
    clear A100
    have HC11 := Aside0.mk H
    clear H
    go_enter Try.func3, Try.ntmps3
    go_upto_region 8 with (first | ((with_reducible refine gate_dst (N := 1) rfl ?_); refine box_event ?hg (N := 1) ?hd (cs := #[.slice A0_0 l0_0.length c0_0, .int .i64 a0_1, .int .i64 a0_2, .int .i64 a0_3, .int .i64 a0_4]) (t := 24) ?hr ?_; (case hd => rfl); (case hg => rfl); (case hr => first | (go_simp; done) | (go_simp; rfl)); intro gb294 hg w12 hbox hb; have n0_ := Aside0.mk (below_step (be_ HB.out) hb); have n1_ := Aside0.mk (hbox); have n2_ := Aside0.mk ((by rw [hg]; exact (below_size (be_ HB.out)) : w.heap.size ≤ gb294)); have n3_ := Aside0.mk ((by rw [hg]; exact (below_size (be_ HB.out)) : w.heap.size ≤ gb294)); clear HB; have HB := n0_; have BK294 := n1_; have GW294 := n2_; have GE294 := n3_; clear n0_ n1_ n2_ n3_; clear hb hbox hg; obtain ⟨hcz13_0, hcz13_1, hcz13_2, hcz13_3, hcz13_4, hfz13_0, hfz13_1, hfz13_2, hfz13_3, hfz13_4⟩ := cz5_ BK294.out) | ((with_reducible refine gate_callee (f := 13) rfl ?_); refine goesL_ (some 16) rfl rfl Try.func13 (by kernel_rfl) rfl #[.agg #[.slice A0_0 l0_0.length c0_0, .int .i64 a0_1, .int .i64 a0_2, .int .i64 a0_3, .int .i64 a0_4], .int .i64 1048576] rfl (by (try simp only [List.map_toArray, List.map_cons, List.map_nil]); first | done | rfl | (simp only [List.length_drop, List.length_take]; rfl)) ?_; (with_reducible refine (laws_szQueue.calls _ _ l0_0 a0_1 a0_2 a0_3 a0_4 1048576 t295 _ ?side1 ?side2 A2.out).mono ?_); (case side1 => repeat (first | exact (Kd.C_below HR0_0.out HB.out) | (with_reducible refine Kd.C_alloc ?_ _) | (with_reducible refine Kd.C_drewN ?_ _) | (with_reducible refine Kd.C_drew ?_))); (case side2 => exact HC0_0.out); rintro e w14 ⟨rfl, hb⟩; refine ⟨_, rfl, ?_⟩; have n0_ := Aside0.mk (blk_below (g := gb294) (o := .cells #[.slice A0_0 l0_0.length c0_0, .int .i64 a0_1, .int .i64 a0_2, .int .i64 a0_3, .int .i64 a0_4] 24 (0, 0)) (bl_ BK294.out) hb); have n1_ := Aside0.mk (below_step (be_ HB.out) hb); clear BK294 HB; have BK294 := n0_; have HB := n1_; clear n0_ n1_; (try clear hb); (try clear hb2); (try clear hk); (try clear hi); obtain ⟨hcz15_0, hcz15_1, hcz15_2, hcz15_3, hcz15_4, hfz15_0, hfz15_1, hfz15_2, hfz15_3, hfz15_4⟩ := cz5_ BK294.out) | ((with_reducible refine gate_callee (f := 15) rfl ?_); refine goesL_ (some 21) rfl rfl Try.func15 (by kernel_rfl) rfl #[.agg #[.slice A0_0 l0_0.length c0_0, .int .i64 a0_1, .int .i64 a0_2, .int .i64 a0_3, .int .i64 a0_4]] rfl (by (try simp only [List.map_toArray, List.map_cons, List.map_nil]); first | done | rfl | (simp only [List.length_drop, List.length_take]; rfl)) ?_; (with_reducible refine (laws_toQueue.calls k _ _ l0_0 a0_1 a0_2 a0_3 a0_4 t296 t299 t300 t301 t302 _ ?side1 ?side2 A7.out).mono ?_); (case side1 => repeat (first | exact (Kd.C_below HR0_0.out HB.out) | (with_reducible refine Kd.C_alloc ?_ _) | (with_reducible refine Kd.C_drewN ?_ _) | (with_reducible refine Kd.C_drew ?_))); (case side2 => exact HC0_0.out); rintro e w16 ⟨v297, rfl, ho0, hb⟩; refine ⟨_, rfl, ?_⟩; have n0_ := Aside0.mk (Kd.R_lower ho0 (below_size (be_ HB.out))); have n1_ := Aside0.mk (blk_below (g := gb294) (o := .cells #[.slice A0_0 l0_0.length c0_0, .int .i64 a0_1, .int .i64 a0_2, .int .i64 a0_3, .int .i64 a0_4] 24 (0, 0)) (bl_ BK294.out) hb); have n2_ := Aside0.mk (below_step (be_ HB.out) hb); clear BK294 HB; have HO298 := n0_; have BK294 := n1_; have HB := n2_; clear n0_ n1_ n2_; (try clear hb); (try clear hb2); (try clear hk); (try clear hi); (try clear ho0); obtain ⟨Ao17, co17, eo17⟩ := Kd.R_slice HO298.out; subst eo17) | ((with_reducible refine gate_callee (f := 14) rfl ?_); refine goesL_ (some 22) rfl rfl Try.func14 (by kernel_rfl) rfl #[.agg #[.slice Ao17 t296.length co17, .int .i64 t299, .int .i64 t300, .int .i64 t301, .int .i64 t302]] rfl (by (try simp only [List.map_toArray, List.map_cons, List.map_nil]); first | done | rfl | (simp only [List.length_drop, List.length_take]; rfl)) ?_; (with_reducible refine (spec_PopFront.calls k _ _ t296 t299 t300 t301 t302 t303 t306 t307 t308 t309 t310 _ ?side1 ?side2 A8.out).mono ?_); (case side1 => repeat (first | exact (Kd.R_reads' HO298.out).2.2 | (with_reducible refine Kd.C_alloc ?_ _) | (with_reducible refine Kd.C_drewN ?_ _) | (with_reducible refine Kd.C_drew ?_))); (case side2 => exact (Kd.R_reads' HO298.out).2.1); rintro e w18 ⟨v304, rfl, ho0, hb⟩; refine ⟨_, rfl, ?_⟩; have n0_ := Aside0.mk (Kd.R_elder' (ro_ HO298.out) (Kd.R_base ho0) hb); have n1_ := Aside0.mk (Kd.R_lower (Kd.R_new' ho0 (Kd.R_lt (ro_ HO298.out))) (below_size (be_ HB.out))); have n2_ := Aside0.mk (blk_below (g := gb294) (o := .cells #[.slice A0_0 l0_0.length c0_0, .int .i64 a0_1, .int .i64 a0_2, .int .i64 a0_3, .int .i64 a0_4] 24 (0, 0)) (bl_ BK294.out) hb); have n3_ := Aside0.mk (below_step (be_ HB.out) hb); clear HO298 BK294 HB; have HO298 := n0_; have HO305 := n1_; have BK294 := n2_; have HB := n3_; clear n0_ n1_ n2_ n3_; (try clear hb); (try clear hb2); (try clear hk); (try clear hi); (try clear ho0)) | ((with_reducible refine gate_dst (N := 4) rfl ?_); refine box_event ?hg (N := 4) ?hd (cs := #[.slice none 0 0, .int .i64 0, .int .i64 0, .int .i64 0, .int .i64 0]) (t := 28) ?hr ?_; (case hd => rfl); (case hg => rfl); (case hr => first | (go_simp; done) | (go_simp; rfl)); intro gb311 hg w19 hbox hb; have n0_ := Aside0.mk (Kd.R_below (ro_ HO298.out) hb); have n1_ := Aside0.mk (Kd.R_below (ro_ HO305.out) hb); have n2_ := Aside0.mk (blk_below (g := gb294) (o := .cells #[.slice A0_0 l0_0.length c0_0, .int .i64 a0_1, .int .i64 a0_2, .int .i64 a0_3, .int .i64 a0_4] 24 (0, 0)) (bl_ BK294.out) hb); have n3_ := Aside0.mk (below_step (be_ HB.out) hb); have n4_ := Aside0.mk (hbox); have n5_ := Aside0.mk ((by rw [hg]; exact (below_size (be_ HB.out)) : w.heap.size ≤ gb311)); have n6_ := Aside0.mk ((by rw [hg]; exact (below_size (be_ HB.out)) : w.heap.size ≤ gb311)); have n7_ := Aside0.mk ((by rw [hg]; exact Nat.ne_of_lt (blk_lt (g := gb294) (o := .cells #[.slice A0_0 l0_0.length c0_0, .int .i64 a0_1, .int .i64 a0_2, .int .i64 a0_3, .int .i64 a0_4] 24 (0, 0)) (bl_ BK294.out)) : gb294 ≠ gb311)); have n8_ := Aside0.mk ((by rw [hg]; exact Nat.ne_of_gt (blk_lt (g := gb294) (o := .cells #[.slice A0_0 l0_0.length c0_0, .int .i64 a0_1, .int .i64 a0_2, .int .i64 a0_3, .int .i64 a0_4] 24 (0, 0)) (bl_ BK294.out)) : gb311 ≠ gb294)); clear HO298 HO305 BK294 HB; have HO298 := n0_; have HO305 := n1_; have BK294 := n2_; have HB := n3_; have BK311 := n4_; have GW311 := n5_; have GE311 := n6_; have NB294_311 := n7_; have NB311_294 := n8_; clear n0_ n1_ n2_ n3_ n4_ n5_ n6_ n7_ n8_; clear hb hbox hg; obtain ⟨Ao20, co20, eo20⟩ := Kd.R_slice HO305.out; subst eo20; have hnb21 := NB311_294.out; have hnc21 := NB294_311.out; obtain ⟨hcz22_0, hcz22_1, hcz22_2, hcz22_3, hcz22_4, hfz22_0, hfz22_1, hfz22_2, hfz22_3, hfz22_4⟩ := cz5_ BK311.out; obtain ⟨hcz23_0, hcz23_1, hcz23_2, hcz23_3, hcz23_4, hfz23_0, hfz23_1, hfz23_2, hfz23_3, hfz23_4⟩ := cz5_ BK294.out) | ((with_reducible refine gate_callee (f := 15) rfl ?_); refine goesL_ (some 26) rfl rfl Try.func15 (by kernel_rfl) rfl #[.agg #[.slice A0_0 l0_0.length c0_0, .int .i64 a0_1, .int .i64 a0_2, .int .i64 a0_3, .int .i64 a0_4]] rfl (by (try simp only [List.map_toArray, List.map_cons, List.map_nil]); first | done | rfl | (simp only [List.length_drop, List.length_take]; rfl)) ?_; (with_reducible refine (laws_toQueue.calls k _ _ l0_0 a0_1 a0_2 a0_3 a0_4 t312 t315 t316 t317 t318 _ ?side1 ?side2 A9.out).mono ?_); (case side1 => exact Kd.C_below HR0_0.out (be_ HB.out)); (case side2 => exact HC0_0.out); rintro e w24 ⟨v313, rfl, ho0, hb⟩; refine ⟨_, rfl, ?_⟩; have n0_ := Aside0.mk (Kd.R_elder' (by (with_reducible repeat (first | apply Kd.R_alloc | apply Kd.R_drewN | apply Kd.R_drew)); exact (Kd.R_mono (Kd.R_far (p := ⟨gb311, 4, none⟩) (Kd.R_far (p := ⟨gb311, 3, none⟩) (Kd.R_far (p := ⟨gb311, 2, none⟩) (Kd.R_far (p := ⟨gb311, 1, none⟩) (Kd.R_far (p := ⟨gb311, 0, none⟩) (Kd.R_types HO298.out BK311.out (by decide)) (fun _ hk => hk.2) (.slice Ao20 t303.length co20)) (fun _ hk => hk.2) (.int .i64 t306)) (fun _ hk => hk.2) (.int .i64 t307)) (fun _ hk => hk.2) (.int .i64 t308)) (fun _ hk => hk.2) (.int .i64 t309)) (fun _ h_ => h_.1))) (Kd.R_base ho0) hb); have n1_ := Aside0.mk (Kd.R_elder' (by (with_reducible repeat (first | apply Kd.R_alloc | apply Kd.R_drewN | apply Kd.R_drew)); exact (Kd.R_mono (Kd.R_far (p := ⟨gb311, 4, none⟩) (Kd.R_far (p := ⟨gb311, 3, none⟩) (Kd.R_far (p := ⟨gb311, 2, none⟩) (Kd.R_far (p := ⟨gb311, 1, none⟩) (Kd.R_far (p := ⟨gb311, 0, none⟩) (Kd.R_types HO305.out BK311.out (by decide)) (fun _ hk => hk.2) (.slice Ao20 t303.length co20)) (fun _ hk => hk.2) (.int .i64 t306)) (fun _ hk => hk.2) (.int .i64 t307)) (fun _ hk => hk.2) (.int .i64 t308)) (fun _ hk => hk.2) (.int .i64 t309)) (fun _ h_ => h_.1))) (Kd.R_base ho0) hb); have n2_ := Aside0.mk (Kd.R_lower (Kd.R_new' (Kd.R_new' ho0 (Kd.R_lt (by (with_reducible repeat (first | apply Kd.R_alloc | apply Kd.R_drewN | apply Kd.R_drew)); exact (Kd.R_mono (Kd.R_far (p := ⟨gb311, 4, none⟩) (Kd.R_far (p := ⟨gb311, 3, none⟩) (Kd.R_far (p := ⟨gb311, 2, none⟩) (Kd.R_far (p := ⟨gb311, 1, none⟩) (Kd.R_far (p := ⟨gb311, 0, none⟩) (Kd.R_types HO298.out BK311.out (by decide)) (fun _ hk => hk.2) (.slice Ao20 t303.length co20)) (fun _ hk => hk.2) (.int .i64 t306)) (fun _ hk => hk.2) (.int .i64 t307)) (fun _ hk => hk.2) (.int .i64 t308)) (fun _ hk => hk.2) (.int .i64 t309)) (fun _ h_ => h_.1))))) (Kd.R_lt (by (with_reducible repeat (first | apply Kd.R_alloc | apply Kd.R_drewN | apply Kd.R_drew)); exact (Kd.R_mono (Kd.R_far (p := ⟨gb311, 4, none⟩) (Kd.R_far (p := ⟨gb311, 3, none⟩) (Kd.R_far (p := ⟨gb311, 2, none⟩) (Kd.R_far (p := ⟨gb311, 1, none⟩) (Kd.R_far (p := ⟨gb311, 0, none⟩) (Kd.R_types HO305.out BK311.out (by decide)) (fun _ hk => hk.2) (.slice Ao20 t303.length co20)) (fun _ hk => hk.2) (.int .i64 t306)) (fun _ hk => hk.2) (.int .i64 t307)) (fun _ hk => hk.2) (.int .i64 t308)) (fun _ hk => hk.2) (.int .i64 t309)) (fun _ h_ => h_.1))))) (below_size (be_ HB.out))); have n3_ := Aside0.mk (blk_below (g := gb294) (o := .cells #[.slice A0_0 l0_0.length c0_0, .int .i64 a0_1, .int .i64 a0_2, .int .i64 a0_3, .int .i64 a0_4] 24 (0, 0)) (by refine bl_ ?_; refine blk_far ?_ NB294_311.out _; refine bl_ ?_; refine blk_far ?_ NB294_311.out _; refine bl_ ?_; refine blk_far ?_ NB294_311.out _; refine bl_ ?_; refine blk_far ?_ NB294_311.out _; refine bl_ ?_; refine blk_far ?_ NB294_311.out _; refine bl_ ?_; exact BK294.out) hb); have n4_ := Aside0.mk (blk_below (g := gb311) (o := .cells #[.slice Ao20 t303.length co20, .int .i64 t306, .int .i64 t307, .int .i64 t308, .int .i64 t309] 28 (0, 0)) (by refine bl_ ?_; refine blk_put (cs := #[.slice Ao20 t303.length co20, .int .i64 t306, .int .i64 t307, .int .i64 t308, .int .i64 0]) ?_ 4 _ rfl; refine bl_ ?_; refine blk_put (cs := #[.slice Ao20 t303.length co20, .int .i64 t306, .int .i64 t307, .int .i64 0, .int .i64 0]) ?_ 3 _ rfl; refine bl_ ?_; refine blk_put (cs := #[.slice Ao20 t303.length co20, .int .i64 t306, .int .i64 0, .int .i64 0, .int .i64 0]) ?_ 2 _ rfl; refine bl_ ?_; refine blk_put (cs := #[.slice Ao20 t303.length co20, .int .i64 0, .int .i64 0, .int .i64 0, .int .i64 0]) ?_ 1 _ rfl; refine bl_ ?_; refine blk_put (cs := #[.slice none 0 0, .int .i64 0, .int .i64 0, .int .i64 0, .int .i64 0]) ?_ 0 _ rfl; refine bl_ ?_; exact BK311.out) hb); have n5_ := Aside0.mk (below_step (be_ HB.out) hb); clear HO298 HO305 BK294 BK311 HB; have HO298 := n0_; have HO305 := n1_; have HO314 := n2_; have BK294 := n3_; have BK311 := n4_; have HB := n5_; clear n0_ n1_ n2_ n3_ n4_ n5_; (try clear hb); (try clear hb2); (try clear hk); (try clear hi); (try clear ho0)) | ((with_reducible refine gate_dst (N := 6) rfl ?_); refine box_event ?hg (N := 6) ?hd (cs := #[.slice none 0 0, .int .i64 0, .int .i64 0, .int .i64 0, .int .i64 0]) (t := 28) ?hr ?_; (case hd => rfl); (case hg => rfl); (case hr => first | (go_simp; done) | (go_simp; rfl)); intro gb319 hg w25 hbox hb; have n0_ := Aside0.mk (Kd.R_below (ro_ HO298.out) hb); have n1_ := Aside0.mk (Kd.R_below (ro_ HO305.out) hb); have n2_ := Aside0.mk (Kd.R_below (ro_ HO314.out) hb); have n3_ := Aside0.mk (blk_below (g := gb294) (o := .cells #[.slice A0_0 l0_0.length c0_0, .int .i64 a0_1, .int .i64 a0_2, .int .i64 a0_3, .int .i64 a0_4] 24 (0, 0)) (bl_ BK294.out) hb); have n4_ := Aside0.mk (blk_below (g := gb311) (o := .cells #[.slice Ao20 t303.length co20, .int .i64 t306, .int .i64 t307, .int .i64 t308, .int .i64 t309] 28 (0, 0)) (bl_ BK311.out) hb); have n5_ := Aside0.mk (below_step (be_ HB.out) hb); have n6_ := Aside0.mk (hbox); have n7_ := Aside0.mk ((by rw [hg]; exact (below_size (be_ HB.out)) : w.heap.size ≤ gb319)); have n8_ := Aside0.mk ((by rw [hg]; exact (below_size (be_ HB.out)) : w.heap.size ≤ gb319)); have n9_ := Aside0.mk ((by rw [hg]; exact Nat.ne_of_lt (blk_lt (g := gb294) (o := .cells #[.slice A0_0 l0_0.length c0_0, .int .i64 a0_1, .int .i64 a0_2, .int .i64 a0_3, .int .i64 a0_4] 24 (0, 0)) (bl_ BK294.out)) : gb294 ≠ gb319)); have n10_ := Aside0.mk ((by rw [hg]; exact Nat.ne_of_gt (blk_lt (g := gb294) (o := .cells #[.slice A0_0 l0_0.length c0_0, .int .i64 a0_1, .int .i64 a0_2, .int .i64 a0_3, .int .i64 a0_4] 24 (0, 0)) (bl_ BK294.out)) : gb319 ≠ gb294)); have n11_ := Aside0.mk ((by rw [hg]; exact Nat.ne_of_lt (blk_lt (g := gb311) (o := .cells #[.slice Ao20 t303.length co20, .int .i64 t306, .int .i64 t307, .int .i64 t308, .int .i64 t309] 28 (0, 0)) (bl_ BK311.out)) : gb311 ≠ gb319)); have n12_ := Aside0.mk ((by rw [hg]; exact Nat.ne_of_gt (blk_lt (g := gb311) (o := .cells #[.slice Ao20 t303.length co20, .int .i64 t306, .int .i64 t307, .int .i64 t308, .int .i64 t309] 28 (0, 0)) (bl_ BK311.out)) : gb319 ≠ gb311)); clear HO298 HO305 HO314 BK294 BK311 HB; have HO298 := n0_; have HO305 := n1_; have HO314 := n2_; have BK294 := n3_; have BK311 := n4_; have HB := n5_; have BK319 := n6_; have GW319 := n7_; have GE319 := n8_; have NB294_319 := n9_; have NB319_294 := n10_; have NB311_319 := n11_; have NB319_311 := n12_; clear n0_ n1_ n2_ n3_ n4_ n5_ n6_ n7_ n8_ n9_ n10_ n11_ n12_; clear hb hbox hg; obtain ⟨Ao26, co26, eo26⟩ := Kd.R_slice HO314.out; subst eo26; have hnb27 := NB319_294.out; have hnc27 := NB294_319.out; have hnb28 := NB319_311.out; have hnc28 := NB311_319.out; obtain ⟨hcz29_0, hcz29_1, hcz29_2, hcz29_3, hcz29_4, hfz29_0, hfz29_1, hfz29_2, hfz29_3, hfz29_4⟩ := cz5_ BK319.out) | ((with_reducible refine gate_callee (f := 16) rfl ?_); refine goesL_ (some 29) rfl rfl Try.func16 (by kernel_rfl) rfl #[.agg #[.slice Ao26 t312.length co26, .int .i64 t315, .int .i64 t316, .int .i64 t317, .int .i64 t318]] rfl (by (try simp only [List.map_toArray, List.map_cons, List.map_nil]); first | done | rfl | (simp only [List.length_drop, List.length_take]; rfl)) ?_; (with_reducible refine (impl_PopFront.calls k _ _ t312 t315 t316 t317 t318 t320 t323 t324 t325 t326 t327 _ ?side1 ?side2 A10.out).mono ?_); (case side1 => refine (Kd.R_reads' (e := 65) (base := w.heap.size) (ok := fun k_ => ((True ∧ some k_ ≠ (.slice Ao17 t296.length co17 : Value).ownBlock) ∧ some k_ ≠ (.slice Ao20 t303.length co20 : Value).ownBlock)) (n := t312.length) (c := co26) ?_).2.2; exact (by (with_reducible repeat (first | apply Kd.R_alloc | apply Kd.R_drewN | apply Kd.R_drew)); exact (Kd.R_mono (Kd.R_far (p := ⟨gb319, 4, none⟩) (Kd.R_far (p := ⟨gb319, 3, none⟩) (Kd.R_far (p := ⟨gb319, 2, none⟩) (Kd.R_far (p := ⟨gb319, 1, none⟩) (Kd.R_far (p := ⟨gb319, 0, none⟩) (Kd.R_types HO314.out BK319.out (by decide)) (fun _ hk => hk.2) (.slice Ao26 t312.length co26)) (fun _ hk => hk.2) (.int .i64 t315)) (fun _ hk => hk.2) (.int .i64 t316)) (fun _ hk => hk.2) (.int .i64 t317)) (fun _ hk => hk.2) (.int .i64 t318)) (fun _ h_ => h_.1)))); (case side2 => exact (Kd.R_reads' HO314.out).2.1); rintro e w30 ⟨v321, rfl, ho0, hb⟩; refine ⟨_, rfl, ?_⟩; have n0_ := Aside0.mk (Kd.R_elder' (by (with_reducible repeat (first | apply Kd.R_alloc | apply Kd.R_drewN | apply Kd.R_drew)); exact (Kd.R_mono (Kd.R_far (p := ⟨gb319, 4, none⟩) (Kd.R_far (p := ⟨gb319, 3, none⟩) (Kd.R_far (p := ⟨gb319, 2, none⟩) (Kd.R_far (p := ⟨gb319, 1, none⟩) (Kd.R_far (p := ⟨gb319, 0, none⟩) (Kd.R_types HO298.out BK319.out (by decide)) (fun _ hk => hk.2) (.slice Ao26 t312.length co26)) (fun _ hk => hk.2) (.int .i64 t315)) (fun _ hk => hk.2) (.int .i64 t316)) (fun _ hk => hk.2) (.int .i64 t317)) (fun _ hk => hk.2) (.int .i64 t318)) (fun _ h_ => h_.1))) (Kd.R_base ho0) hb); have n1_ := Aside0.mk (Kd.R_elder' (by (with_reducible repeat (first | apply Kd.R_alloc | apply Kd.R_drewN | apply Kd.R_drew)); exact (Kd.R_mono (Kd.R_far (p := ⟨gb319, 4, none⟩) (Kd.R_far (p := ⟨gb319, 3, none⟩) (Kd.R_far (p := ⟨gb319, 2, none⟩) (Kd.R_far (p := ⟨gb319, 1, none⟩) (Kd.R_far (p := ⟨gb319, 0, none⟩) (Kd.R_types HO305.out BK319.out (by decide)) (fun _ hk => hk.2) (.slice Ao26 t312.length co26)) (fun _ hk => hk.2) (.int .i64 t315)) (fun _ hk => hk.2) (.int .i64 t316)) (fun _ hk => hk.2) (.int .i64 t317)) (fun _ hk => hk.2) (.int .i64 t318)) (fun _ h_ => h_.1))) (Kd.R_base ho0) hb); have n2_ := Aside0.mk (Kd.R_elder' (by (with_reducible repeat (first | apply Kd.R_alloc | apply Kd.R_drewN | apply Kd.R_drew)); exact (Kd.R_mono (Kd.R_far (p := ⟨gb319, 4, none⟩) (Kd.R_far (p := ⟨gb319, 3, none⟩) (Kd.R_far (p := ⟨gb319, 2, none⟩) (Kd.R_far (p := ⟨gb319, 1, none⟩) (Kd.R_far (p := ⟨gb319, 0, none⟩) (Kd.R_types HO314.out BK319.out (by decide)) (fun _ hk => hk.2) (.slice Ao26 t312.length co26)) (fun _ hk => hk.2) (.int .i64 t315)) (fun _ hk => hk.2) (.int .i64 t316)) (fun _ hk => hk.2) (.int .i64 t317)) (fun _ hk => hk.2) (.int .i64 t318)) (fun _ h_ => h_.1))) (Kd.R_base ho0) hb); have n3_ := Aside0.mk (Kd.R_lower (Kd.R_new' (Kd.R_new' (Kd.R_new' ho0 (Kd.R_lt (by (with_reducible repeat (first | apply Kd.R_alloc | apply Kd.R_drewN | apply Kd.R_drew)); exact (Kd.R_mono (Kd.R_far (p := ⟨gb319, 4, none⟩) (Kd.R_far (p := ⟨gb319, 3, none⟩) (Kd.R_far (p := ⟨gb319, 2, none⟩) (Kd.R_far (p := ⟨gb319, 1, none⟩) (Kd.R_far (p := ⟨gb319, 0, none⟩) (Kd.R_types HO298.out BK319.out (by decide)) (fun _ hk => hk.2) (.slice Ao26 t312.length co26)) (fun _ hk => hk.2) (.int .i64 t315)) (fun _ hk => hk.2) (.int .i64 t316)) (fun _ hk => hk.2) (.int .i64 t317)) (fun _ hk => hk.2) (.int .i64 t318)) (fun _ h_ => h_.1))))) (Kd.R_lt (by (with_reducible repeat (first | apply Kd.R_alloc | apply Kd.R_drewN | apply Kd.R_drew)); exact (Kd.R_mono (Kd.R_far (p := ⟨gb319, 4, none⟩) (Kd.R_far (p := ⟨gb319, 3, none⟩) (Kd.R_far (p := ⟨gb319, 2, none⟩) (Kd.R_far (p := ⟨gb319, 1, none⟩) (Kd.R_far (p := ⟨gb319, 0, none⟩) (Kd.R_types HO305.out BK319.out (by decide)) (fun _ hk => hk.2) (.slice Ao26 t312.length co26)) (fun _ hk => hk.2) (.int .i64 t315)) (fun _ hk => hk.2) (.int .i64 t316)) (fun _ hk => hk.2) (.int .i64 t317)) (fun _ hk => hk.2) (.int .i64 t318)) (fun _ h_ => h_.1))))) (Kd.R_lt (by (with_reducible repeat (first | apply Kd.R_alloc | apply Kd.R_drewN | apply Kd.R_drew)); exact (Kd.R_mono (Kd.R_far (p := ⟨gb319, 4, none⟩) (Kd.R_far (p := ⟨gb319, 3, none⟩) (Kd.R_far (p := ⟨gb319, 2, none⟩) (Kd.R_far (p := ⟨gb319, 1, none⟩) (Kd.R_far (p := ⟨gb319, 0, none⟩) (Kd.R_types HO314.out BK319.out (by decide)) (fun _ hk => hk.2) (.slice Ao26 t312.length co26)) (fun _ hk => hk.2) (.int .i64 t315)) (fun _ hk => hk.2) (.int .i64 t316)) (fun _ hk => hk.2) (.int .i64 t317)) (fun _ hk => hk.2) (.int .i64 t318)) (fun _ h_ => h_.1))))) (below_size (be_ HB.out))); have n4_ := Aside0.mk (blk_below (g := gb294) (o := .cells #[.slice A0_0 l0_0.length c0_0, .int .i64 a0_1, .int .i64 a0_2, .int .i64 a0_3, .int .i64 a0_4] 24 (0, 0)) (by refine bl_ ?_; refine blk_far ?_ NB294_319.out _; refine bl_ ?_; refine blk_far ?_ NB294_319.out _; refine bl_ ?_; refine blk_far ?_ NB294_319.out _; refine bl_ ?_; refine blk_far ?_ NB294_319.out _; refine bl_ ?_; refine blk_far ?_ NB294_319.out _; refine bl_ ?_; exact BK294.out) hb); have n5_ := Aside0.mk (blk_below (g := gb311) (o := .cells #[.slice Ao20 t303.length co20, .int .i64 t306, .int .i64 t307, .int .i64 t308, .int .i64 t309] 28 (0, 0)) (by refine bl_ ?_; refine blk_far ?_ NB311_319.out _; refine bl_ ?_; refine blk_far ?_ NB311_319.out _; refine bl_ ?_; refine blk_far ?_ NB311_319.out _; refine bl_ ?_; refine blk_far ?_ NB311_319.out _; refine bl_ ?_; refine blk_far ?_ NB311_319.out _; refine bl_ ?_; exact BK311.out) hb); have n6_ := Aside0.mk (blk_below (g := gb319) (o := .cells #[.slice Ao26 t312.length co26, .int .i64 t315, .int .i64 t316, .int .i64 t317, .int .i64 t318] 28 (0, 0)) (by refine bl_ ?_; refine blk_put (cs := #[.slice Ao26 t312.length co26, .int .i64 t315, .int .i64 t316, .int .i64 t317, .int .i64 0]) ?_ 4 _ rfl; refine bl_ ?_; refine blk_put (cs := #[.slice Ao26 t312.length co26, .int .i64 t315, .int .i64 t316, .int .i64 0, .int .i64 0]) ?_ 3 _ rfl; refine bl_ ?_; refine blk_put (cs := #[.slice Ao26 t312.length co26, .int .i64 t315, .int .i64 0, .int .i64 0, .int .i64 0]) ?_ 2 _ rfl; refine bl_ ?_; refine blk_put (cs := #[.slice Ao26 t312.length co26, .int .i64 0, .int .i64 0, .int .i64 0, .int .i64 0]) ?_ 1 _ rfl; refine bl_ ?_; refine blk_put (cs := #[.slice none 0 0, .int .i64 0, .int .i64 0, .int .i64 0, .int .i64 0]) ?_ 0 _ rfl; refine bl_ ?_; exact BK319.out) hb); have n7_ := Aside0.mk (below_step (be_ HB.out) hb); clear HO298 HO305 HO314 BK294 BK311 BK319 HB; have HO298 := n0_; have HO305 := n1_; have HO314 := n2_; have HO322 := n3_; have BK294 := n4_; have BK311 := n5_; have BK319 := n6_; have HB := n7_; clear n0_ n1_ n2_ n3_ n4_ n5_ n6_ n7_; (try clear hb); (try clear hb2); (try clear hk); (try clear hi); (try clear ho0)) | ((with_reducible refine gate_dst (N := 7) rfl ?_); refine box_event ?hg (N := 7) ?hd (cs := #[.slice none 0 0, .int .i64 0, .int .i64 0, .int .i64 0, .int .i64 0]) (t := 28) ?hr ?_; (case hd => rfl); (case hg => rfl); (case hr => first | (go_simp; done) | (go_simp; rfl)); intro gb328 hg w31 hbox hb; have n0_ := Aside0.mk (Kd.R_below (ro_ HO298.out) hb); have n1_ := Aside0.mk (Kd.R_below (ro_ HO305.out) hb); have n2_ := Aside0.mk (Kd.R_below (ro_ HO314.out) hb); have n3_ := Aside0.mk (Kd.R_below (ro_ HO322.out) hb); have n4_ := Aside0.mk (blk_below (g := gb294) (o := .cells #[.slice A0_0 l0_0.length c0_0, .int .i64 a0_1, .int .i64 a0_2, .int .i64 a0_3, .int .i64 a0_4] 24 (0, 0)) (bl_ BK294.out) hb); have n5_ := Aside0.mk (blk_below (g := gb311) (o := .cells #[.slice Ao20 t303.length co20, .int .i64 t306, .int .i64 t307, .int .i64 t308, .int .i64 t309] 28 (0, 0)) (bl_ BK311.out) hb); have n6_ := Aside0.mk (blk_below (g := gb319) (o := .cells #[.slice Ao26 t312.length co26, .int .i64 t315, .int .i64 t316, .int .i64 t317, .int .i64 t318] 28 (0, 0)) (bl_ BK319.out) hb); have n7_ := Aside0.mk (below_step (be_ HB.out) hb); have n8_ := Aside0.mk (hbox); have n9_ := Aside0.mk ((by rw [hg]; exact (below_size (be_ HB.out)) : w.heap.size ≤ gb328)); have n10_ := Aside0.mk ((by rw [hg]; exact (below_size (be_ HB.out)) : w.heap.size ≤ gb328)); have n11_ := Aside0.mk ((by rw [hg]; exact Nat.ne_of_lt (blk_lt (g := gb294) (o := .cells #[.slice A0_0 l0_0.length c0_0, .int .i64 a0_1, .int .i64 a0_2, .int .i64 a0_3, .int .i64 a0_4] 24 (0, 0)) (bl_ BK294.out)) : gb294 ≠ gb328)); have n12_ := Aside0.mk ((by rw [hg]; exact Nat.ne_of_gt (blk_lt (g := gb294) (o := .cells #[.slice A0_0 l0_0.length c0_0, .int .i64 a0_1, .int .i64 a0_2, .int .i64 a0_3, .int .i64 a0_4] 24 (0, 0)) (bl_ BK294.out)) : gb328 ≠ gb294)); have n13_ := Aside0.mk ((by rw [hg]; exact Nat.ne_of_lt (blk_lt (g := gb311) (o := .cells #[.slice Ao20 t303.length co20, .int .i64 t306, .int .i64 t307, .int .i64 t308, .int .i64 t309] 28 (0, 0)) (bl_ BK311.out)) : gb311 ≠ gb328)); have n14_ := Aside0.mk ((by rw [hg]; exact Nat.ne_of_gt (blk_lt (g := gb311) (o := .cells #[.slice Ao20 t303.length co20, .int .i64 t306, .int .i64 t307, .int .i64 t308, .int .i64 t309] 28 (0, 0)) (bl_ BK311.out)) : gb328 ≠ gb311)); have n15_ := Aside0.mk ((by rw [hg]; exact Nat.ne_of_lt (blk_lt (g := gb319) (o := .cells #[.slice Ao26 t312.length co26, .int .i64 t315, .int .i64 t316, .int .i64 t317, .int .i64 t318] 28 (0, 0)) (bl_ BK319.out)) : gb319 ≠ gb328)); have n16_ := Aside0.mk ((by rw [hg]; exact Nat.ne_of_gt (blk_lt (g := gb319) (o := .cells #[.slice Ao26 t312.length co26, .int .i64 t315, .int .i64 t316, .int .i64 t317, .int .i64 t318] 28 (0, 0)) (bl_ BK319.out)) : gb328 ≠ gb319)); clear HO298 HO305 HO314 HO322 BK294 BK311 BK319 HB; have HO298 := n0_; have HO305 := n1_; have HO314 := n2_; have HO322 := n3_; have BK294 := n4_; have BK311 := n5_; have BK319 := n6_; have HB := n7_; have BK328 := n8_; have GW328 := n9_; have GE328 := n10_; have NB294_328 := n11_; have NB328_294 := n12_; have NB311_328 := n13_; have NB328_311 := n14_; have NB319_328 := n15_; have NB328_319 := n16_; clear n0_ n1_ n2_ n3_ n4_ n5_ n6_ n7_ n8_ n9_ n10_ n11_ n12_ n13_ n14_ n15_ n16_; clear hb hbox hg; obtain ⟨Ao32, co32, eo32⟩ := Kd.R_slice HO322.out; subst eo32; have hnb33 := NB328_294.out; have hnc33 := NB294_328.out; have hnb34 := NB328_311.out; have hnc34 := NB311_328.out; have hnb35 := NB328_319.out; have hnc35 := NB319_328.out; obtain ⟨hcz36_0, hcz36_1, hcz36_2, hcz36_3, hcz36_4, hfz36_0, hfz36_1, hfz36_2, hfz36_3, hfz36_4⟩ := cz5_ BK328.out))
    (try simp only [Act.put, List.setIfInBounds_toArray, List.set_cons_zero, List.set_cons_succ])
    go_cut [40] (fun zv40 wc => ∃ (kq : Nat) (x40_10 : Bool), zv40 = .bool x40_10 ∧ Aside0 (laws_FnExactPopFront.j0 kq t310 t327 x40_10 l0_0 a0_1 a0_2 a0_3 a0_4 t303 t306 t307 t308 t309 t312 t315 t316 t317 t318 t320 t323 t324 t325 t326 = some r) ∧ Aside0 (kq ≤ k) ∧ Aside0 (Kd.R k65 65 wc w.heap.size (fun k_ => some k_ ≠ ((.slice Ao26 t312.length co26) : Value).ownBlock ∧ some k_ ≠ ((.slice Ao32 t320.length co32) : Value).ownBlock) (.slice Ao20 t303.length co20) t303) ∧ Aside0 (Kd.R k65 65 wc w.heap.size (fun k_ => some k_ ≠ ((.slice Ao20 t303.length co20) : Value).ownBlock ∧ some k_ ≠ ((.slice Ao32 t320.length co32) : Value).ownBlock) (.slice Ao26 t312.length co26) t312) ∧ Aside0 (Kd.R k65 65 wc w.heap.size (fun k_ => some k_ ≠ ((.slice Ao20 t303.length co20) : Value).ownBlock ∧ some k_ ≠ ((.slice Ao26 t312.length co26) : Value).ownBlock) (.slice Ao32 t320.length co32) t320) ∧ Aside0 (wc.heap[gb294]? = some (.cells #[(.slice A0_0 l0_0.length c0_0), .int .i64 a0_1, .int .i64 a0_2, .int .i64 a0_3, .int .i64 a0_4] 24 (0, 0))) ∧ Aside0 (wc.heap[gb311]? = some (.cells #[(.slice Ao20 t303.length co20), .int .i64 t306, .int .i64 t307, .int .i64 t308, .int .i64 t309] 28 (0, 0))) ∧ Aside0 (wc.heap[gb319]? = some (.cells #[(.slice Ao26 t312.length co26), .int .i64 t315, .int .i64 t316, .int .i64 t317, .int .i64 t318] 28 (0, 0))) ∧ Aside0 (wc.heap[gb328]? = some (.cells #[(.slice Ao32 t320.length co32), .int .i64 t323, .int .i64 t324, .int .i64 t325, .int .i64 t326] 28 (0, 0))) ∧ Aside0 (Below w.heap.size w wc))
    case first =>
      have H := HC11.out
      clear HC11
      replace H := Option.bind_eq_some_iff.mp H
      obtain ⟨t329, A370, H⟩ := H
      replace H : (if t329 = true then (laws_FnExactPopFront.j0 k t310 t327 (t327 != t310) l0_0 a0_1 a0_2 a0_3 a0_4 t303 t306 t307 t308 t309 t312 t315 t316 t317 t318 t320 t323 t324 t325 t326) else (laws_FnExactPopFront.j0 k t310 t327 true l0_0 a0_1 a0_2 a0_3 a0_4 t303 t306 t307 t308 t309 t312 t315 t316 t317 t318 t320 t323 t324 t325 t326)) = some r := H
      have A37 := Aside0.mk A370
      clear A370
      by_cases c38 : t329 = true
      · subst c38
        have H1 : (laws_FnExactPopFront.j0 k t310 t327 (t327 != t310) l0_0 a0_1 a0_2 a0_3 a0_4 t303 t306 t307 t308 t309 t312 t315 t316 t317 t318 t320 t323 t324 t325 t326) = some r := by rw [if_pos rfl] at H; exact H
        clear H
        have H := H1
        clear H1
        have H' := Aside0.mk H
        clear H
        have hnb39 := NB328_294.out
        have hnc39 := NB294_328.out
        have hnb40 := NB328_311.out
        have hnc40 := NB311_328.out
        have hnb41 := NB328_319.out
        have hnc41 := NB319_328.out
        have hcz42_0 : w31.cell? ⟨gb328, 0, none⟩ = some (.slice none 0 0) := (blk_cell BK328.out 0).trans rfl
        have hcz42_1 : w31.cell? ⟨gb328, 1, none⟩ = some (.int .i64 0) := (blk_cell BK328.out 1).trans rfl
        have hcz42_2 : w31.cell? ⟨gb328, 2, none⟩ = some (.int .i64 0) := (blk_cell BK328.out 2).trans rfl
        have hcz42_3 : w31.cell? ⟨gb328, 3, none⟩ = some (.int .i64 0) := (blk_cell BK328.out 3).trans rfl
        have hcz42_4 : w31.cell? ⟨gb328, 4, none⟩ = some (.int .i64 0) := (blk_cell BK328.out 4).trans rfl
        have hfz42_0 := blk_frozen BK328.out 0
        have hfz42_1 := blk_frozen BK328.out 1
        have hfz42_2 := blk_frozen BK328.out 2
        have hfz42_3 := blk_frozen BK328.out 3
        have hfz42_4 := blk_frozen BK328.out 4
        have hnb43 := NB311_294.out
        have hnc43 := NB294_311.out
        have hnb44 := NB311_319.out
        have hnc44 := NB319_311.out
        have hcz45_0 : w31.cell? ⟨gb311, 0, none⟩ = some (.slice Ao20 t303.length co20) := (blk_cell BK311.out 0).trans rfl
        have hcz45_1 : w31.cell? ⟨gb311, 1, none⟩ = some (.int .i64 t306) := (blk_cell BK311.out 1).trans rfl
        have hcz45_2 : w31.cell? ⟨gb311, 2, none⟩ = some (.int .i64 t307) := (blk_cell BK311.out 2).trans rfl
        have hcz45_3 : w31.cell? ⟨gb311, 3, none⟩ = some (.int .i64 t308) := (blk_cell BK311.out 3).trans rfl
        have hcz45_4 : w31.cell? ⟨gb311, 4, none⟩ = some (.int .i64 t309) := (blk_cell BK311.out 4).trans rfl
        have hfz45_0 := blk_frozen BK311.out 0
        have hfz45_1 := blk_frozen BK311.out 1
        have hfz45_2 := blk_frozen BK311.out 2
        have hfz45_3 := blk_frozen BK311.out 3
        have hfz45_4 := blk_frozen BK311.out 4
        go_wp2_with (first | ((with_reducible refine gate_callee (f := 17) rfl ?_); refine goesL_ (some 34) rfl rfl Try.func17 (by kernel_rfl) rfl #[.agg #[.slice Ao32 t320.length co32, .int .i64 t323, .int .i64 t324, .int .i64 t325, .int .i64 t326], .agg #[.slice Ao20 t303.length co20, .int .i64 t306, .int .i64 t307, .int .i64 t308, .int .i64 t309]] rfl (by (try simp only [List.map_toArray, List.map_cons, List.map_nil]); first | done | rfl | (simp only [List.length_drop, List.length_take]; rfl)) ?_; (with_reducible refine (laws_eqQueue.calls k _ _ t320 t323 t324 t325 t326 _ _ t303 t306 t307 t308 t309 true _ ?side1 ?side2 ?side3 ?side4 A37.out).mono ?_); (case side1 => refine (Kd.R_reads' (e := 65) (base := w.heap.size) (ok := fun k_ => (((True ∧ some k_ ≠ (.slice Ao17 t296.length co17 : Value).ownBlock) ∧ some k_ ≠ (.slice Ao20 t303.length co20 : Value).ownBlock) ∧ some k_ ≠ (.slice Ao26 t312.length co26 : Value).ownBlock)) (n := t320.length) (c := co32) ?_).2.2; exact (by (with_reducible repeat (first | apply Kd.R_alloc | apply Kd.R_drewN | apply Kd.R_drew)); exact (Kd.R_mono (Kd.R_far (p := ⟨gb328, 4, none⟩) (Kd.R_far (p := ⟨gb328, 3, none⟩) (Kd.R_far (p := ⟨gb328, 2, none⟩) (Kd.R_far (p := ⟨gb328, 1, none⟩) (Kd.R_far (p := ⟨gb328, 0, none⟩) (Kd.R_types HO322.out BK328.out (by decide)) (fun _ hk => hk.2) (.slice Ao32 t320.length co32)) (fun _ hk => hk.2) (.int .i64 t323)) (fun _ hk => hk.2) (.int .i64 t324)) (fun _ hk => hk.2) (.int .i64 t325)) (fun _ hk => hk.2) (.int .i64 t326)) (fun _ h_ => h_.1)))); (case side2 => exact (Kd.R_reads' HO322.out).2.1); (case side3 => refine (Kd.R_reads' (e := 65) (base := w.heap.size) (ok := fun k_ => (((True ∧ some k_ ≠ (.slice Ao17 t296.length co17 : Value).ownBlock) ∧ some k_ ≠ (.slice Ao26 t312.length co26 : Value).ownBlock) ∧ some k_ ≠ (.slice Ao32 t320.length co32 : Value).ownBlock)) (n := t303.length) (c := co20) ?_).2.2; exact (by (with_reducible repeat (first | apply Kd.R_alloc | apply Kd.R_drewN | apply Kd.R_drew)); exact (Kd.R_mono (Kd.R_far (p := ⟨gb328, 4, none⟩) (Kd.R_far (p := ⟨gb328, 3, none⟩) (Kd.R_far (p := ⟨gb328, 2, none⟩) (Kd.R_far (p := ⟨gb328, 1, none⟩) (Kd.R_far (p := ⟨gb328, 0, none⟩) (Kd.R_types HO305.out BK328.out (by decide)) (fun _ hk => hk.2) (.slice Ao32 t320.length co32)) (fun _ hk => hk.2) (.int .i64 t323)) (fun _ hk => hk.2) (.int .i64 t324)) (fun _ hk => hk.2) (.int .i64 t325)) (fun _ hk => hk.2) (.int .i64 t326)) (fun _ h_ => h_.1)))); (case side4 => exact (Kd.R_reads' HO305.out).2.1); rintro e w46 ⟨rfl, hb⟩; refine ⟨_, rfl, ?_⟩; have n0_ := Aside0.mk (Kd.R_below (by (with_reducible repeat (first | apply Kd.R_alloc | apply Kd.R_drewN | apply Kd.R_drew)); exact (Kd.R_mono (Kd.R_far (p := ⟨gb328, 4, none⟩) (Kd.R_far (p := ⟨gb328, 3, none⟩) (Kd.R_far (p := ⟨gb328, 2, none⟩) (Kd.R_far (p := ⟨gb328, 1, none⟩) (Kd.R_far (p := ⟨gb328, 0, none⟩) (Kd.R_types HO298.out BK328.out (by decide)) (fun _ hk => hk.2) (.slice Ao32 t320.length co32)) (fun _ hk => hk.2) (.int .i64 t323)) (fun _ hk => hk.2) (.int .i64 t324)) (fun _ hk => hk.2) (.int .i64 t325)) (fun _ hk => hk.2) (.int .i64 t326)) (fun _ h_ => h_.1))) hb); have n1_ := Aside0.mk (Kd.R_below (by (with_reducible repeat (first | apply Kd.R_alloc | apply Kd.R_drewN | apply Kd.R_drew)); exact (Kd.R_mono (Kd.R_far (p := ⟨gb328, 4, none⟩) (Kd.R_far (p := ⟨gb328, 3, none⟩) (Kd.R_far (p := ⟨gb328, 2, none⟩) (Kd.R_far (p := ⟨gb328, 1, none⟩) (Kd.R_far (p := ⟨gb328, 0, none⟩) (Kd.R_types HO305.out BK328.out (by decide)) (fun _ hk => hk.2) (.slice Ao32 t320.length co32)) (fun _ hk => hk.2) (.int .i64 t323)) (fun _ hk => hk.2) (.int .i64 t324)) (fun _ hk => hk.2) (.int .i64 t325)) (fun _ hk => hk.2) (.int .i64 t326)) (fun _ h_ => h_.1))) hb); have n2_ := Aside0.mk (Kd.R_below (by (with_reducible repeat (first | apply Kd.R_alloc | apply Kd.R_drewN | apply Kd.R_drew)); exact (Kd.R_mono (Kd.R_far (p := ⟨gb328, 4, none⟩) (Kd.R_far (p := ⟨gb328, 3, none⟩) (Kd.R_far (p := ⟨gb328, 2, none⟩) (Kd.R_far (p := ⟨gb328, 1, none⟩) (Kd.R_far (p := ⟨gb328, 0, none⟩) (Kd.R_types HO314.out BK328.out (by decide)) (fun _ hk => hk.2) (.slice Ao32 t320.length co32)) (fun _ hk => hk.2) (.int .i64 t323)) (fun _ hk => hk.2) (.int .i64 t324)) (fun _ hk => hk.2) (.int .i64 t325)) (fun _ hk => hk.2) (.int .i64 t326)) (fun _ h_ => h_.1))) hb); have n3_ := Aside0.mk (Kd.R_below (by (with_reducible repeat (first | apply Kd.R_alloc | apply Kd.R_drewN | apply Kd.R_drew)); exact (Kd.R_mono (Kd.R_far (p := ⟨gb328, 4, none⟩) (Kd.R_far (p := ⟨gb328, 3, none⟩) (Kd.R_far (p := ⟨gb328, 2, none⟩) (Kd.R_far (p := ⟨gb328, 1, none⟩) (Kd.R_far (p := ⟨gb328, 0, none⟩) (Kd.R_types HO322.out BK328.out (by decide)) (fun _ hk => hk.2) (.slice Ao32 t320.length co32)) (fun _ hk => hk.2) (.int .i64 t323)) (fun _ hk => hk.2) (.int .i64 t324)) (fun _ hk => hk.2) (.int .i64 t325)) (fun _ hk => hk.2) (.int .i64 t326)) (fun _ h_ => h_.1))) hb); have n4_ := Aside0.mk (blk_below (g := gb294) (o := .cells #[.slice A0_0 l0_0.length c0_0, .int .i64 a0_1, .int .i64 a0_2, .int .i64 a0_3, .int .i64 a0_4] 24 (0, 0)) (by refine bl_ ?_; refine blk_far ?_ NB294_328.out _; refine bl_ ?_; refine blk_far ?_ NB294_328.out _; refine bl_ ?_; refine blk_far ?_ NB294_328.out _; refine bl_ ?_; refine blk_far ?_ NB294_328.out _; refine bl_ ?_; refine blk_far ?_ NB294_328.out _; refine bl_ ?_; exact BK294.out) hb); have n5_ := Aside0.mk (blk_below (g := gb311) (o := .cells #[.slice Ao20 t303.length co20, .int .i64 t306, .int .i64 t307, .int .i64 t308, .int .i64 t309] 28 (0, 0)) (by refine bl_ ?_; refine blk_far ?_ NB311_328.out _; refine bl_ ?_; refine blk_far ?_ NB311_328.out _; refine bl_ ?_; refine blk_far ?_ NB311_328.out _; refine bl_ ?_; refine blk_far ?_ NB311_328.out _; refine bl_ ?_; refine blk_far ?_ NB311_328.out _; refine bl_ ?_; exact BK311.out) hb); have n6_ := Aside0.mk (blk_below (g := gb319) (o := .cells #[.slice Ao26 t312.length co26, .int .i64 t315, .int .i64 t316, .int .i64 t317, .int .i64 t318] 28 (0, 0)) (by refine bl_ ?_; refine blk_far ?_ NB319_328.out _; refine bl_ ?_; refine blk_far ?_ NB319_328.out _; refine bl_ ?_; refine blk_far ?_ NB319_328.out _; refine bl_ ?_; refine blk_far ?_ NB319_328.out _; refine bl_ ?_; refine blk_far ?_ NB319_328.out _; refine bl_ ?_; exact BK319.out) hb); have n7_ := Aside0.mk (blk_below (g := gb328) (o := .cells #[.slice Ao32 t320.length co32, .int .i64 t323, .int .i64 t324, .int .i64 t325, .int .i64 t326] 28 (0, 0)) (by refine bl_ ?_; refine blk_put (cs := #[.slice Ao32 t320.length co32, .int .i64 t323, .int .i64 t324, .int .i64 t325, .int .i64 0]) ?_ 4 _ rfl; refine bl_ ?_; refine blk_put (cs := #[.slice Ao32 t320.length co32, .int .i64 t323, .int .i64 t324, .int .i64 0, .int .i64 0]) ?_ 3 _ rfl; refine bl_ ?_; refine blk_put (cs := #[.slice Ao32 t320.length co32, .int .i64 t323, .int .i64 0, .int .i64 0, .int .i64 0]) ?_ 2 _ rfl; refine bl_ ?_; refine blk_put (cs := #[.slice Ao32 t320.length co32, .int .i64 0, .int .i64 0, .int .i64 0, .int .i64 0]) ?_ 1 _ rfl; refine bl_ ?_; refine blk_put (cs := #[.slice none 0 0, .int .i64 0, .int .i64 0, .int .i64 0, .int .i64 0]) ?_ 0 _ rfl; refine bl_ ?_; exact BK328.out) hb); have n8_ := Aside0.mk (below_step (be_ HB.out) hb); clear HO298 HO305 HO314 HO322 BK294 BK311 BK319 BK328 HB; have HO298 := n0_; have HO305 := n1_; have HO314 := n2_; have HO322 := n3_; have BK294 := n4_; have BK311 := n5_; have BK319 := n6_; have BK328 := n7_; have HB := n8_; clear n0_ n1_ n2_ n3_ n4_ n5_ n6_ n7_ n8_; (try clear hb); (try clear hb2); (try clear hk); (try clear hi)))
        go_meet
        case rel => exact ⟨_, ((t327 != t310)), (by first | rfl | (simp; done) | (simp [*]; done)), H', ⟨by first | omega | exact Nat.le_refl _⟩, ⟨by (with_reducible repeat (first | apply Kd.R_alloc | apply Kd.R_drewN | apply Kd.R_drew)); exact Kd.R_mono HO305.out (fun _ hk => ⟨hk.1.2, hk.2⟩)⟩, ⟨by (with_reducible repeat (first | apply Kd.R_alloc | apply Kd.R_drewN | apply Kd.R_drew)); exact Kd.R_mono HO314.out (fun _ hk => ⟨hk.1.2, hk.2⟩)⟩, ⟨by (with_reducible repeat (first | apply Kd.R_alloc | apply Kd.R_drewN | apply Kd.R_drew)); exact Kd.R_mono HO322.out (fun _ hk => ⟨hk.1.2, hk.2⟩)⟩, ⟨by refine bl_ ?_; exact BK294.out⟩, ⟨by refine bl_ ?_; exact BK311.out⟩, ⟨by refine bl_ ?_; exact BK319.out⟩, ⟨by refine bl_ ?_; exact BK328.out⟩, ⟨be_ HB.out⟩⟩
      · replace c38 := Bool.eq_false_iff.mpr c38
        subst c38
        have H1 : (laws_FnExactPopFront.j0 k t310 t327 true l0_0 a0_1 a0_2 a0_3 a0_4 t303 t306 t307 t308 t309 t312 t315 t316 t317 t318 t320 t323 t324 t325 t326) = some r := by rw [if_neg (show ¬ (false = true) by decide)] at H; exact H
        clear H
        have H := H1
        clear H1
        have H' := Aside0.mk H
        clear H
        have hnb47 := NB328_294.out
        have hnc47 := NB294_328.out
        have hnb48 := NB328_311.out
        have hnc48 := NB311_328.out
        have hnb49 := NB328_319.out
        have hnc49 := NB319_328.out
        have hcz50_0 : w31.cell? ⟨gb328, 0, none⟩ = some (.slice none 0 0) := (blk_cell BK328.out 0).trans rfl
        have hcz50_1 : w31.cell? ⟨gb328, 1, none⟩ = some (.int .i64 0) := (blk_cell BK328.out 1).trans rfl
        have hcz50_2 : w31.cell? ⟨gb328, 2, none⟩ = some (.int .i64 0) := (blk_cell BK328.out 2).trans rfl
        have hcz50_3 : w31.cell? ⟨gb328, 3, none⟩ = some (.int .i64 0) := (blk_cell BK328.out 3).trans rfl
        have hcz50_4 : w31.cell? ⟨gb328, 4, none⟩ = some (.int .i64 0) := (blk_cell BK328.out 4).trans rfl
        have hfz50_0 := blk_frozen BK328.out 0
        have hfz50_1 := blk_frozen BK328.out 1
        have hfz50_2 := blk_frozen BK328.out 2
        have hfz50_3 := blk_frozen BK328.out 3
        have hfz50_4 := blk_frozen BK328.out 4
        have hnb51 := NB311_294.out
        have hnc51 := NB294_311.out
        have hnb52 := NB311_319.out
        have hnc52 := NB319_311.out
        have hcz53_0 : w31.cell? ⟨gb311, 0, none⟩ = some (.slice Ao20 t303.length co20) := (blk_cell BK311.out 0).trans rfl
        have hcz53_1 : w31.cell? ⟨gb311, 1, none⟩ = some (.int .i64 t306) := (blk_cell BK311.out 1).trans rfl
        have hcz53_2 : w31.cell? ⟨gb311, 2, none⟩ = some (.int .i64 t307) := (blk_cell BK311.out 2).trans rfl
        have hcz53_3 : w31.cell? ⟨gb311, 3, none⟩ = some (.int .i64 t308) := (blk_cell BK311.out 3).trans rfl
        have hcz53_4 : w31.cell? ⟨gb311, 4, none⟩ = some (.int .i64 t309) := (blk_cell BK311.out 4).trans rfl
        have hfz53_0 := blk_frozen BK311.out 0
        have hfz53_1 := blk_frozen BK311.out 1
        have hfz53_2 := blk_frozen BK311.out 2
        have hfz53_3 := blk_frozen BK311.out 3
        have hfz53_4 := blk_frozen BK311.out 4
        go_wp2_with (first | ((with_reducible refine gate_callee (f := 17) rfl ?_); refine goesL_ (some 34) rfl rfl Try.func17 (by kernel_rfl) rfl #[.agg #[.slice Ao32 t320.length co32, .int .i64 t323, .int .i64 t324, .int .i64 t325, .int .i64 t326], .agg #[.slice Ao20 t303.length co20, .int .i64 t306, .int .i64 t307, .int .i64 t308, .int .i64 t309]] rfl (by (try simp only [List.map_toArray, List.map_cons, List.map_nil]); first | done | rfl | (simp only [List.length_drop, List.length_take]; rfl)) ?_; (with_reducible refine (laws_eqQueue.calls k _ _ t320 t323 t324 t325 t326 _ _ t303 t306 t307 t308 t309 false _ ?side1 ?side2 ?side3 ?side4 A37.out).mono ?_); (case side1 => refine (Kd.R_reads' (e := 65) (base := w.heap.size) (ok := fun k_ => (((True ∧ some k_ ≠ (.slice Ao17 t296.length co17 : Value).ownBlock) ∧ some k_ ≠ (.slice Ao20 t303.length co20 : Value).ownBlock) ∧ some k_ ≠ (.slice Ao26 t312.length co26 : Value).ownBlock)) (n := t320.length) (c := co32) ?_).2.2; exact (by (with_reducible repeat (first | apply Kd.R_alloc | apply Kd.R_drewN | apply Kd.R_drew)); exact (Kd.R_mono (Kd.R_far (p := ⟨gb328, 4, none⟩) (Kd.R_far (p := ⟨gb328, 3, none⟩) (Kd.R_far (p := ⟨gb328, 2, none⟩) (Kd.R_far (p := ⟨gb328, 1, none⟩) (Kd.R_far (p := ⟨gb328, 0, none⟩) (Kd.R_types HO322.out BK328.out (by decide)) (fun _ hk => hk.2) (.slice Ao32 t320.length co32)) (fun _ hk => hk.2) (.int .i64 t323)) (fun _ hk => hk.2) (.int .i64 t324)) (fun _ hk => hk.2) (.int .i64 t325)) (fun _ hk => hk.2) (.int .i64 t326)) (fun _ h_ => h_.1)))); (case side2 => exact (Kd.R_reads' HO322.out).2.1); (case side3 => refine (Kd.R_reads' (e := 65) (base := w.heap.size) (ok := fun k_ => (((True ∧ some k_ ≠ (.slice Ao17 t296.length co17 : Value).ownBlock) ∧ some k_ ≠ (.slice Ao26 t312.length co26 : Value).ownBlock) ∧ some k_ ≠ (.slice Ao32 t320.length co32 : Value).ownBlock)) (n := t303.length) (c := co20) ?_).2.2; exact (by (with_reducible repeat (first | apply Kd.R_alloc | apply Kd.R_drewN | apply Kd.R_drew)); exact (Kd.R_mono (Kd.R_far (p := ⟨gb328, 4, none⟩) (Kd.R_far (p := ⟨gb328, 3, none⟩) (Kd.R_far (p := ⟨gb328, 2, none⟩) (Kd.R_far (p := ⟨gb328, 1, none⟩) (Kd.R_far (p := ⟨gb328, 0, none⟩) (Kd.R_types HO305.out BK328.out (by decide)) (fun _ hk => hk.2) (.slice Ao32 t320.length co32)) (fun _ hk => hk.2) (.int .i64 t323)) (fun _ hk => hk.2) (.int .i64 t324)) (fun _ hk => hk.2) (.int .i64 t325)) (fun _ hk => hk.2) (.int .i64 t326)) (fun _ h_ => h_.1)))); (case side4 => exact (Kd.R_reads' HO305.out).2.1); rintro e w54 ⟨rfl, hb⟩; refine ⟨_, rfl, ?_⟩; have n0_ := Aside0.mk (Kd.R_below (by (with_reducible repeat (first | apply Kd.R_alloc | apply Kd.R_drewN | apply Kd.R_drew)); exact (Kd.R_mono (Kd.R_far (p := ⟨gb328, 4, none⟩) (Kd.R_far (p := ⟨gb328, 3, none⟩) (Kd.R_far (p := ⟨gb328, 2, none⟩) (Kd.R_far (p := ⟨gb328, 1, none⟩) (Kd.R_far (p := ⟨gb328, 0, none⟩) (Kd.R_types HO298.out BK328.out (by decide)) (fun _ hk => hk.2) (.slice Ao32 t320.length co32)) (fun _ hk => hk.2) (.int .i64 t323)) (fun _ hk => hk.2) (.int .i64 t324)) (fun _ hk => hk.2) (.int .i64 t325)) (fun _ hk => hk.2) (.int .i64 t326)) (fun _ h_ => h_.1))) hb); have n1_ := Aside0.mk (Kd.R_below (by (with_reducible repeat (first | apply Kd.R_alloc | apply Kd.R_drewN | apply Kd.R_drew)); exact (Kd.R_mono (Kd.R_far (p := ⟨gb328, 4, none⟩) (Kd.R_far (p := ⟨gb328, 3, none⟩) (Kd.R_far (p := ⟨gb328, 2, none⟩) (Kd.R_far (p := ⟨gb328, 1, none⟩) (Kd.R_far (p := ⟨gb328, 0, none⟩) (Kd.R_types HO305.out BK328.out (by decide)) (fun _ hk => hk.2) (.slice Ao32 t320.length co32)) (fun _ hk => hk.2) (.int .i64 t323)) (fun _ hk => hk.2) (.int .i64 t324)) (fun _ hk => hk.2) (.int .i64 t325)) (fun _ hk => hk.2) (.int .i64 t326)) (fun _ h_ => h_.1))) hb); have n2_ := Aside0.mk (Kd.R_below (by (with_reducible repeat (first | apply Kd.R_alloc | apply Kd.R_drewN | apply Kd.R_drew)); exact (Kd.R_mono (Kd.R_far (p := ⟨gb328, 4, none⟩) (Kd.R_far (p := ⟨gb328, 3, none⟩) (Kd.R_far (p := ⟨gb328, 2, none⟩) (Kd.R_far (p := ⟨gb328, 1, none⟩) (Kd.R_far (p := ⟨gb328, 0, none⟩) (Kd.R_types HO314.out BK328.out (by decide)) (fun _ hk => hk.2) (.slice Ao32 t320.length co32)) (fun _ hk => hk.2) (.int .i64 t323)) (fun _ hk => hk.2) (.int .i64 t324)) (fun _ hk => hk.2) (.int .i64 t325)) (fun _ hk => hk.2) (.int .i64 t326)) (fun _ h_ => h_.1))) hb); have n3_ := Aside0.mk (Kd.R_below (by (with_reducible repeat (first | apply Kd.R_alloc | apply Kd.R_drewN | apply Kd.R_drew)); exact (Kd.R_mono (Kd.R_far (p := ⟨gb328, 4, none⟩) (Kd.R_far (p := ⟨gb328, 3, none⟩) (Kd.R_far (p := ⟨gb328, 2, none⟩) (Kd.R_far (p := ⟨gb328, 1, none⟩) (Kd.R_far (p := ⟨gb328, 0, none⟩) (Kd.R_types HO322.out BK328.out (by decide)) (fun _ hk => hk.2) (.slice Ao32 t320.length co32)) (fun _ hk => hk.2) (.int .i64 t323)) (fun _ hk => hk.2) (.int .i64 t324)) (fun _ hk => hk.2) (.int .i64 t325)) (fun _ hk => hk.2) (.int .i64 t326)) (fun _ h_ => h_.1))) hb); have n4_ := Aside0.mk (blk_below (g := gb294) (o := .cells #[.slice A0_0 l0_0.length c0_0, .int .i64 a0_1, .int .i64 a0_2, .int .i64 a0_3, .int .i64 a0_4] 24 (0, 0)) (by refine bl_ ?_; refine blk_far ?_ NB294_328.out _; refine bl_ ?_; refine blk_far ?_ NB294_328.out _; refine bl_ ?_; refine blk_far ?_ NB294_328.out _; refine bl_ ?_; refine blk_far ?_ NB294_328.out _; refine bl_ ?_; refine blk_far ?_ NB294_328.out _; refine bl_ ?_; exact BK294.out) hb); have n5_ := Aside0.mk (blk_below (g := gb311) (o := .cells #[.slice Ao20 t303.length co20, .int .i64 t306, .int .i64 t307, .int .i64 t308, .int .i64 t309] 28 (0, 0)) (by refine bl_ ?_; refine blk_far ?_ NB311_328.out _; refine bl_ ?_; refine blk_far ?_ NB311_328.out _; refine bl_ ?_; refine blk_far ?_ NB311_328.out _; refine bl_ ?_; refine blk_far ?_ NB311_328.out _; refine bl_ ?_; refine blk_far ?_ NB311_328.out _; refine bl_ ?_; exact BK311.out) hb); have n6_ := Aside0.mk (blk_below (g := gb319) (o := .cells #[.slice Ao26 t312.length co26, .int .i64 t315, .int .i64 t316, .int .i64 t317, .int .i64 t318] 28 (0, 0)) (by refine bl_ ?_; refine blk_far ?_ NB319_328.out _; refine bl_ ?_; refine blk_far ?_ NB319_328.out _; refine bl_ ?_; refine blk_far ?_ NB319_328.out _; refine bl_ ?_; refine blk_far ?_ NB319_328.out _; refine bl_ ?_; refine blk_far ?_ NB319_328.out _; refine bl_ ?_; exact BK319.out) hb); have n7_ := Aside0.mk (blk_below (g := gb328) (o := .cells #[.slice Ao32 t320.length co32, .int .i64 t323, .int .i64 t324, .int .i64 t325, .int .i64 t326] 28 (0, 0)) (by refine bl_ ?_; refine blk_put (cs := #[.slice Ao32 t320.length co32, .int .i64 t323, .int .i64 t324, .int .i64 t325, .int .i64 0]) ?_ 4 _ rfl; refine bl_ ?_; refine blk_put (cs := #[.slice Ao32 t320.length co32, .int .i64 t323, .int .i64 t324, .int .i64 0, .int .i64 0]) ?_ 3 _ rfl; refine bl_ ?_; refine blk_put (cs := #[.slice Ao32 t320.length co32, .int .i64 t323, .int .i64 0, .int .i64 0, .int .i64 0]) ?_ 2 _ rfl; refine bl_ ?_; refine blk_put (cs := #[.slice Ao32 t320.length co32, .int .i64 0, .int .i64 0, .int .i64 0, .int .i64 0]) ?_ 1 _ rfl; refine bl_ ?_; refine blk_put (cs := #[.slice none 0 0, .int .i64 0, .int .i64 0, .int .i64 0, .int .i64 0]) ?_ 0 _ rfl; refine bl_ ?_; exact BK328.out) hb); have n8_ := Aside0.mk (below_step (be_ HB.out) hb); clear HO298 HO305 HO314 HO322 BK294 BK311 BK319 BK328 HB; have HO298 := n0_; have HO305 := n1_; have HO314 := n2_; have HO322 := n3_; have BK294 := n4_; have BK311 := n5_; have BK319 := n6_; have BK328 := n7_; have HB := n8_; clear n0_ n1_ n2_ n3_ n4_ n5_ n6_ n7_ n8_; (try clear hb); (try clear hb2); (try clear hk); (try clear hi)))
        go_meet
        case rel => exact ⟨_, (true), (by first | rfl | (simp; done) | (simp [*]; done)), H', ⟨by first | omega | exact Nat.le_refl _⟩, ⟨by (with_reducible repeat (first | apply Kd.R_alloc | apply Kd.R_drewN | apply Kd.R_drew)); exact Kd.R_mono HO305.out (fun _ hk => ⟨hk.1.2, hk.2⟩)⟩, ⟨by (with_reducible repeat (first | apply Kd.R_alloc | apply Kd.R_drewN | apply Kd.R_drew)); exact Kd.R_mono HO314.out (fun _ hk => ⟨hk.1.2, hk.2⟩)⟩, ⟨by (with_reducible repeat (first | apply Kd.R_alloc | apply Kd.R_drewN | apply Kd.R_drew)); exact Kd.R_mono HO322.out (fun _ hk => ⟨hk.1.2, hk.2⟩)⟩, ⟨by refine bl_ ?_; exact BK294.out⟩, ⟨by refine bl_ ?_; exact BK311.out⟩, ⟨by refine bl_ ?_; exact BK319.out⟩, ⟨by refine bl_ ?_; exact BK328.out⟩, ⟨be_ HB.out⟩⟩
    case rest =>
      clear HC11
      try clear c1
      try clear c2
      try clear p2
      try clear c3
      try clear c3b0
      try clear c4
      try clear c5
      try clear c13
      try clear c14
      try clear c15
      try clear c16
      try clear c17
      try clear c21
      try clear c27
      try clear c28
      try clear c33
      try clear c34
      try clear c35
      try clear c38
      try clear c39
      try clear c40
      try clear c41
      try clear c43
      try clear c44
      try clear c47
      try clear c48
      try clear c49
      try clear c51
      try clear c52
      try clear hcz13_0
      try clear hcz13_1
      try clear hcz13_2
      try clear hcz13_3
      try clear hcz13_4
      try clear hcz15_0
      try clear hcz15_1
      try clear hcz15_2
      try clear hcz15_3
      try clear hcz15_4
      try clear hcz22_0
      try clear hcz22_1
      try clear hcz22_2
      try clear hcz22_3
      try clear hcz22_4
      try clear hcz23_0
      try clear hcz23_1
      try clear hcz23_2
      try clear hcz23_3
      try clear hcz23_4
      try clear hcz29_0
      try clear hcz29_1
      try clear hcz29_2
      try clear hcz29_3
      try clear hcz29_4
      try clear hcz36_0
      try clear hcz36_1
      try clear hcz36_2
      try clear hcz36_3
      try clear hcz36_4
      try clear hcz42_0
      try clear hcz42_1
      try clear hcz42_2
      try clear hcz42_3
      try clear hcz42_4
      try clear hcz45_0
      try clear hcz45_1
      try clear hcz45_2
      try clear hcz45_3
      try clear hcz45_4
      try clear hcz50_0
      try clear hcz50_1
      try clear hcz50_2
      try clear hcz50_3
      try clear hcz50_4
      try clear hcz53_0
      try clear hcz53_1
      try clear hcz53_2
      try clear hcz53_3
      try clear hcz53_4
      try clear hcz5_0
      try clear hcz5_1
      try clear hcz5_2
      try clear hcz5_3
      try clear hcz5_4
      try clear hfz13_0
      try clear hfz13_1
      try clear hfz13_2
      try clear hfz13_3
      try clear hfz13_4
      try clear hfz15_0
      try clear hfz15_1
      try clear hfz15_2
      try clear hfz15_3
      try clear hfz15_4
      try clear hfz22_0
      try clear hfz22_1
      try clear hfz22_2
      try clear hfz22_3
      try clear hfz22_4
      try clear hfz23_0
      try clear hfz23_1
      try clear hfz23_2
      try clear hfz23_3
      try clear hfz23_4
      try clear hfz29_0
      try clear hfz29_1
      try clear hfz29_2
      try clear hfz29_3
      try clear hfz29_4
      try clear hfz36_0
      try clear hfz36_1
      try clear hfz36_2
      try clear hfz36_3
      try clear hfz36_4
      try clear hfz42_0
      try clear hfz42_1
      try clear hfz42_2
      try clear hfz42_3
      try clear hfz42_4
      try clear hfz45_0
      try clear hfz45_1
      try clear hfz45_2
      try clear hfz45_3
      try clear hfz45_4
      try clear hfz50_0
      try clear hfz50_1
      try clear hfz50_2
      try clear hfz50_3
      try clear hfz50_4
      try clear hfz53_0
      try clear hfz53_1
      try clear hfz53_2
      try clear hfz53_3
      try clear hfz53_4
      try clear hfz5_0
      try clear hfz5_1
      try clear hfz5_2
      try clear hfz5_3
      try clear hfz5_4
      obtain ⟨kq, x40_10, rfl, HA, HJ10, HO_312000, HO_320000, HO_329000, BK294, BK311, BK319, BK328, HB⟩ := hcut
      cases kq with
      | zero => exact absurd HA.out (by simp [laws_FnExactPopFront.j0])
      | succ kj10 =>
        have H := HA.out
        clear HA
        simp only [laws_FnExactPopFront.j0] at H
        by_cases c55 : x40_10 = true
        · subst c55
          have H1 : (some false) = some r := by rw [if_pos rfl] at H; exact H
          clear H
          have H := H1
          clear H1
          obtain rfl := Option.some.inj H
          go_wp2
          go_ret
          exact ⟨by first | rfl | (simp [errW_none, errW_some] <;> rfl) | (simp [*, errW_none, errW_some] <;> rfl), be_ HB.out⟩
        · replace c55 := Bool.eq_false_iff.mpr c55
          subst c55
          have H1 : ((laws_toQueue.f kj10 l0_0 a0_1 a0_2 a0_3 a0_4).bind fun bt330 => ((laws_eqQueue.f kj10 t312 t315 t316 t317 t318 bt330.1 bt330.2.1 bt330.2.2.1 bt330.2.2.2.1 bt330.2.2.2.2).bind fun t337 => (if t337 = true then ((laws_markQueue.f kj10 t312 t315 t316 t317 t318 1).bind fun bt338 => (if bt338.1 < 0 then (laws_FnExactPopFront.j1 kj10 t310 true l0_0 a0_1 a0_2 a0_3 a0_4 t303 t306 t307 t308 t309 t320 t323 t324 t325 t326) else ((laws_eqQueue.f kj10 t320 t323 t324 t325 t326 t303 t306 t307 t308 t309).bind fun t340 => (if t340 = true then (laws_FnExactPopFront.j1 kj10 t310 (t327 != t310) l0_0 a0_1 a0_2 a0_3 a0_4 t303 t306 t307 t308 t309 t320 t323 t324 t325 t326) else (laws_FnExactPopFront.j1 kj10 t310 true l0_0 a0_1 a0_2 a0_3 a0_4 t303 t306 t307 t308 t309 t320 t323 t324 t325 t326))))) else (some false)))) = some r := by rw [if_neg (show ¬ (false = true) by decide)] at H; exact H
          clear H
          have H := H1
          clear H1
          replace H := Option.bind_eq_some_iff.mp H
          obtain ⟨⟨t330, t333, t334, t335, t336⟩, A560, H⟩ := H
          replace H : ((laws_eqQueue.f kj10 t312 t315 t316 t317 t318 t330 t333 t334 t335 t336).bind fun t337 => (if t337 = true then ((laws_markQueue.f kj10 t312 t315 t316 t317 t318 1).bind fun bt338 => (if bt338.1 < 0 then (laws_FnExactPopFront.j1 kj10 t310 true l0_0 a0_1 a0_2 a0_3 a0_4 t303 t306 t307 t308 t309 t320 t323 t324 t325 t326) else ((laws_eqQueue.f kj10 t320 t323 t324 t325 t326 t303 t306 t307 t308 t309).bind fun t340 => (if t340 = true then (laws_FnExactPopFront.j1 kj10 t310 (t327 != t310) l0_0 a0_1 a0_2 a0_3 a0_4 t303 t306 t307 t308 t309 t320 t323 t324 t325 t326) else (laws_FnExactPopFront.j1 kj10 t310 true l0_0 a0_1 a0_2 a0_3 a0_4 t303 t306 t307 t308 t309 t320 t323 t324 t325 t326))))) else (some false))) = some r := H
          have A56 := Aside0.mk A560
          clear A560
          replace H := Option.bind_eq_some_iff.mp H
          obtain ⟨t337, A570, H⟩ := H
          replace H : (if t337 = true then ((laws_markQueue.f kj10 t312 t315 t316 t317 t318 1).bind fun bt338 => (if bt338.1 < 0 then (laws_FnExactPopFront.j1 kj10 t310 true l0_0 a0_1 a0_2 a0_3 a0_4 t303 t306 t307 t308 t309 t320 t323 t324 t325 t326) else ((laws_eqQueue.f kj10 t320 t323 t324 t325 t326 t303 t306 t307 t308 t309).bind fun t340 => (if t340 = true then (laws_FnExactPopFront.j1 kj10 t310 (t327 != t310) l0_0 a0_1 a0_2 a0_3 a0_4 t303 t306 t307 t308 t309 t320 t323 t324 t325 t326) else (laws_FnExactPopFront.j1 kj10 t310 true l0_0 a0_1 a0_2 a0_3 a0_4 t303 t306 t307 t308 t309 t320 t323 t324 t325 t326))))) else (some false)) = some r := H
          have A57 := Aside0.mk A570
          clear A570
          by_cases c58 : t337 = true
          · subst c58
            have H1 : ((laws_markQueue.f kj10 t312 t315 t316 t317 t318 1).bind fun bt338 => (if bt338.1 < 0 then (laws_FnExactPopFront.j1 kj10 t310 true l0_0 a0_1 a0_2 a0_3 a0_4 t303 t306 t307 t308 t309 t320 t323 t324 t325 t326) else ((laws_eqQueue.f kj10 t320 t323 t324 t325 t326 t303 t306 t307 t308 t309).bind fun t340 => (if t340 = true then (laws_FnExactPopFront.j1 kj10 t310 (t327 != t310) l0_0 a0_1 a0_2 a0_3 a0_4 t303 t306 t307 t308 t309 t320 t323 t324 t325 t326) else (laws_FnExactPopFront.j1 kj10 t310 true l0_0 a0_1 a0_2 a0_3 a0_4 t303 t306 t307 t308 t309 t320 t323 t324 t325 t326))))) = some r := by rw [if_pos rfl] at H; exact H
            clear H
            have H := H1
            clear H1
            replace H := Option.bind_eq_some_iff.mp H
            obtain ⟨⟨t338, t339⟩, A590, H⟩ := H
            replace H : (if t338 < 0 then (laws_FnExactPopFront.j1 kj10 t310 true l0_0 a0_1 a0_2 a0_3 a0_4 t303 t306 t307 t308 t309 t320 t323 t324 t325 t326) else ((laws_eqQueue.f kj10 t320 t323 t324 t325 t326 t303 t306 t307 t308 t309).bind fun t340 => (if t340 = true then (laws_FnExactPopFront.j1 kj10 t310 (t327 != t310) l0_0 a0_1 a0_2 a0_3 a0_4 t303 t306 t307 t308 t309 t320 t323 t324 t325 t326) else (laws_FnExactPopFront.j1 kj10 t310 true l0_0 a0_1 a0_2 a0_3 a0_4 t303 t306 t307 t308 t309 t320 t323 t324 t325 t326)))) = some r := H
            have A59 := Aside0.mk A590
            clear A590
            have HC60 := Aside0.mk H
            clear H
            try go_wp2
            have n0_ := Aside0.mk (Kd.R_drew HO_312000.out)
            have n1_ := Aside0.mk (Kd.R_drew HO_320000.out)
            have n2_ := Aside0.mk (Kd.R_drew HO_329000.out)
            have n3_ := Aside0.mk (blk_drew BK294.out)
            have n4_ := Aside0.mk (blk_drew BK311.out)
            have n5_ := Aside0.mk (blk_drew BK319.out)
            have n6_ := Aside0.mk (blk_drew BK328.out)
            have n7_ := Aside0.mk (below_drew1 HB.out)
            clear HO_312000
            clear HO_320000
            clear HO_329000
            clear BK294
            clear BK311
            clear BK319
            clear BK328
            clear HB
            have HO_312000 := n0_
            have HO_320000 := n1_
            have HO_329000 := n2_
            have BK294 := n3_
            have BK311 := n4_
            have BK319 := n5_
            have BK328 := n6_
            have HB := n7_
            clear n0_ n1_ n2_ n3_ n4_ n5_ n6_ n7_
            refine start_ (n := 5) (S := fun w' => w'.cell? ⟨gb319, 0, none⟩ = some (.slice Ao26 t312.length co26) ∧ w'.cell? ⟨gb319, 1, none⟩ = some (.int .i64 t315) ∧ w'.cell? ⟨gb319, 2, none⟩ = some (.int .i64 t316) ∧ w'.cell? ⟨gb319, 3, none⟩ = some (.int .i64 t317) ∧ w'.cell? ⟨gb319, 4, none⟩ = some (.int .i64 t318) ∧ w'.cell? ⟨gb294, 0, none⟩ = some (.slice A0_0 l0_0.length c0_0) ∧ w'.cell? ⟨gb294, 1, none⟩ = some (.int .i64 a0_1) ∧ w'.cell? ⟨gb294, 2, none⟩ = some (.int .i64 a0_2) ∧ w'.cell? ⟨gb294, 3, none⟩ = some (.int .i64 a0_3) ∧ w'.cell? ⟨gb294, 4, none⟩ = some (.int .i64 a0_4)) (ds := []) #[false, false, false, false, false] (by kernel_rfl) rfl rfl ⟨(blk_cell BK319.out 0).trans rfl, (blk_cell BK319.out 1).trans rfl, (blk_cell BK319.out 2).trans rfl, (blk_cell BK319.out 3).trans rfl, (blk_cell BK319.out 4).trans rfl, (blk_cell BK294.out 0).trans rfl, (blk_cell BK294.out 1).trans rfl, (blk_cell BK294.out 2).trans rfl, (blk_cell BK294.out 3).trans rfl, (blk_cell BK294.out 4).trans rfl⟩ (fun hHeld => ?_)
            generalize wc.drew = w61 at HO_312000 HO_320000 HO_329000 BK294 BK311 BK319 BK328 HB hHeld ⊢
            refine take_ (i := 0) (N := some 41) (v := ?_) (a' := ?_) #[true, false, false, false, false] rfl rfl (by kernel_rfl) (fun _ _ _ h => h) (Or.inl ⟨by rfl, ?_⟩) hHeld ?_ ?_
            rotate_left
            · rintro w' ⟨s0, s1, s2, s3, s4, s5, s6, s7, s8, s9⟩
              go_simp
              with_reducible rfl
            rotate_left
            · simp only [Act.put, List.setIfInBounds_toArray, List.set_cons_zero, List.set_cons_succ, i64_w, i32_w]
              rfl
            refine take_ (i := 1) (N := some 42) (v := ?_) (a' := ?_) #[true, true, false, false, false] rfl rfl (by kernel_rfl) (fun _ _ _ h => h) (Or.inl ⟨by rfl, ?_⟩) hHeld ?_ ?_
            rotate_left
            · rintro w' ⟨s0, s1, s2, s3, s4, s5, s6, s7, s8, s9⟩
              go_simp
              with_reducible rfl
            rotate_left
            · simp only [Act.put, List.setIfInBounds_toArray, List.set_cons_zero, List.set_cons_succ, i64_w, i32_w]
              rfl
            refine one_ (i := 2) (N := some 43) #[true, true, true, false, false] rfl rfl (by kernel_rfl) (by decide) (fun K hK => ?_)
            refine goes_ Try.func15 (by kernel_rfl) rfl #[.agg #[.slice A0_0 l0_0.length c0_0, .int .i64 a0_1, .int .i64 a0_2, .int .i64 a0_3, .int .i64 a0_4]] (by rfl) rfl rfl (by (try simp only [List.map_toArray, List.map_cons, List.map_nil]); first | done | rfl | (simp only [List.length_drop, List.length_take]; rfl)) ?_
            with_reducible refine (laws_toQueue.calls kj10 _ _ l0_0 a0_1 a0_2 a0_3 a0_4 t330 t333 t334 t335 t336 _ ?side1 ?side2 A56.out).mono ?_
            (case side1 => repeat (first | exact (Kd.C_below HR0_0.out HB.out) | (with_reducible refine Kd.C_alloc ?_ _) | (with_reducible refine Kd.C_drewN ?_ _) | (with_reducible refine Kd.C_drew ?_)))
            (case side2 => exact HC0_0.out)
            rintro e w62 ⟨v331, rfl, ho0, hb⟩
            refine ⟨_, rfl, ?_⟩
            have n0_ := Aside0.mk (Kd.R_elder' (ro_ HO_312000.out) (Kd.R_base ho0) hb)
            have n1_ := Aside0.mk (Kd.R_elder' (ro_ HO_320000.out) (Kd.R_base ho0) hb)
            have n2_ := Aside0.mk (Kd.R_elder' (ro_ HO_329000.out) (Kd.R_base ho0) hb)
            have n3_ := Aside0.mk (Kd.R_lower (Kd.R_new' (Kd.R_new' (Kd.R_new' ho0 (Kd.R_lt (ro_ HO_312000.out))) (Kd.R_lt (ro_ HO_320000.out))) (Kd.R_lt (ro_ HO_329000.out))) (below_size (be_ HB.out)))
            have n4_ := Aside0.mk (blk_below (g := gb294) (o := .cells #[.slice A0_0 l0_0.length c0_0, .int .i64 a0_1, .int .i64 a0_2, .int .i64 a0_3, .int .i64 a0_4] 24 (0, 0)) (bl_ BK294.out) hb)
            have n5_ := Aside0.mk (blk_below (g := gb311) (o := .cells #[.slice Ao20 t303.length co20, .int .i64 t306, .int .i64 t307, .int .i64 t308, .int .i64 t309] 28 (0, 0)) (bl_ BK311.out) hb)
            have n6_ := Aside0.mk (blk_below (g := gb319) (o := .cells #[.slice Ao26 t312.length co26, .int .i64 t315, .int .i64 t316, .int .i64 t317, .int .i64 t318] 28 (0, 0)) (bl_ BK319.out) hb)
            have n7_ := Aside0.mk (blk_below (g := gb328) (o := .cells #[.slice Ao32 t320.length co32, .int .i64 t323, .int .i64 t324, .int .i64 t325, .int .i64 t326] 28 (0, 0)) (bl_ BK328.out) hb)
            have n8_ := Aside0.mk (below_step (be_ HB.out) hb)
            clear HO_312000
            clear HO_320000
            clear HO_329000
            clear BK294
            clear BK311
            clear BK319
            clear BK328
            clear HB
            have HO_312000 := n0_
            have HO_320000 := n1_
            have HO_329000 := n2_
            have HO332 := n3_
            have BK294 := n4_
            have BK311 := n5_
            have BK319 := n6_
            have BK328 := n7_
            have HB := n8_
            clear n0_ n1_ n2_ n3_ n4_ n5_ n6_ n7_ n8_
            (try clear hb)
            (try clear hb2)
            (try clear hk)
            (try clear hi)
            (try clear ho0)
            obtain ⟨Ao63, co63, eo63⟩ := Kd.R_slice HO332.out
            (first | subst eo63 | (injection eo63 with f1_ f2_ f3_; have f4_ := f1_.symm; have f5_ := f3_.symm; clear f1_ f2_ f3_; subst f4_; subst f5_))
            refine hK.out _ _ ⟨(blk_cell BK319.out 0).trans rfl, (blk_cell BK319.out 1).trans rfl, (blk_cell BK319.out 2).trans rfl, (blk_cell BK319.out 3).trans rfl, (blk_cell BK319.out 4).trans rfl, (blk_cell BK294.out 0).trans rfl, (blk_cell BK294.out 1).trans rfl, (blk_cell BK294.out 2).trans rfl, (blk_cell BK294.out 3).trans rfl, (blk_cell BK294.out 4).trans rfl⟩ (fun hHeld => ?_)
            clear hK K
            refine norm_ (a' := ?_) ?_ ?_
            rotate_left
            · show Act.put _ (some 43) _ = _
              simp only [Act.put, List.setIfInBounds_toArray, List.set_cons_zero, List.set_cons_succ, i64_w, i32_w]
              rfl
            refine one_ (i := 3) (N := some 44) #[true, true, true, true, false] rfl rfl (by kernel_rfl) (by decide) (fun K hK => ?_)
            refine goes_ Try.func17 (by kernel_rfl) rfl #[.agg #[.slice Ao26 t312.length co26, .int .i64 t315, .int .i64 t316, .int .i64 t317, .int .i64 t318], .agg #[.slice Ao63 t330.length co63, .int .i64 t333, .int .i64 t334, .int .i64 t335, .int .i64 t336]] (by rfl) rfl rfl (by (try simp only [List.map_toArray, List.map_cons, List.map_nil]); first | done | rfl | (simp only [List.length_drop, List.length_take]; rfl)) ?_
            with_reducible refine (laws_eqQueue.calls kj10 _ _ t312 t315 t316 t317 t318 _ _ t330 t333 t334 t335 t336 true _ ?side1 ?side2 ?side3 ?side4 A57.out).mono ?_
            (case side1 => repeat (first | exact (Kd.R_reads' HO_320000.out).2.2 | (with_reducible refine Kd.C_alloc ?_ _) | (with_reducible refine Kd.C_drewN ?_ _) | (with_reducible refine Kd.C_drew ?_)))
            (case side2 => exact (Kd.R_reads' HO_320000.out).2.1)
            (case side3 => repeat (first | exact (Kd.R_reads' HO332.out).2.2 | (with_reducible refine Kd.C_alloc ?_ _) | (with_reducible refine Kd.C_drewN ?_ _) | (with_reducible refine Kd.C_drew ?_)))
            (case side4 => exact (Kd.R_reads' HO332.out).2.1)
            rintro e w64 ⟨rfl, hb⟩
            refine ⟨_, rfl, ?_⟩
            have n0_ := Aside0.mk (Kd.R_below (ro_ HO_312000.out) hb)
            have n1_ := Aside0.mk (Kd.R_below (ro_ HO_320000.out) hb)
            have n2_ := Aside0.mk (Kd.R_below (ro_ HO_329000.out) hb)
            have n3_ := Aside0.mk (Kd.R_below (ro_ HO332.out) hb)
            have n4_ := Aside0.mk (blk_below (g := gb294) (o := .cells #[.slice A0_0 l0_0.length c0_0, .int .i64 a0_1, .int .i64 a0_2, .int .i64 a0_3, .int .i64 a0_4] 24 (0, 0)) (bl_ BK294.out) hb)
            have n5_ := Aside0.mk (blk_below (g := gb311) (o := .cells #[.slice Ao20 t303.length co20, .int .i64 t306, .int .i64 t307, .int .i64 t308, .int .i64 t309] 28 (0, 0)) (bl_ BK311.out) hb)
            have n6_ := Aside0.mk (blk_below (g := gb319) (o := .cells #[.slice Ao26 t312.length co26, .int .i64 t315, .int .i64 t316, .int .i64 t317, .int .i64 t318] 28 (0, 0)) (bl_ BK319.out) hb)
            have n7_ := Aside0.mk (blk_below (g := gb328) (o := .cells #[.slice Ao32 t320.length co32, .int .i64 t323, .int .i64 t324, .int .i64 t325, .int .i64 t326] 28 (0, 0)) (bl_ BK328.out) hb)
            have n8_ := Aside0.mk (below_step (be_ HB.out) hb)
            clear HO_312000
            clear HO_320000
            clear HO_329000
            clear HO332
            clear BK294
            clear BK311
            clear BK319
            clear BK328
            clear HB
            have HO_312000 := n0_
            have HO_320000 := n1_
            have HO_329000 := n2_
            have HO332 := n3_
            have BK294 := n4_
            have BK311 := n5_
            have BK319 := n6_
            have BK328 := n7_
            have HB := n8_
            clear n0_ n1_ n2_ n3_ n4_ n5_ n6_ n7_ n8_
            (try clear hb)
            (try clear hb2)
            (try clear hk)
            (try clear hi)
            refine hK.out _ _ ⟨(blk_cell BK319.out 0).trans rfl, (blk_cell BK319.out 1).trans rfl, (blk_cell BK319.out 2).trans rfl, (blk_cell BK319.out 3).trans rfl, (blk_cell BK319.out 4).trans rfl, (blk_cell BK294.out 0).trans rfl, (blk_cell BK294.out 1).trans rfl, (blk_cell BK294.out 2).trans rfl, (blk_cell BK294.out 3).trans rfl, (blk_cell BK294.out 4).trans rfl⟩ (fun hHeld => ?_)
            clear hK K
            refine norm_ (a' := ?_) ?_ ?_
            rotate_left
            · show Act.put _ (some 44) _ = _
              simp only [Act.put, List.setIfInBounds_toArray, List.set_cons_zero, List.set_cons_succ, i64_w, i32_w]
              rfl
            refine pure_ (i := 4) (N := some 45) (v := ?_) (a' := ?_) #[true, true, true, true, true] rfl rfl (by kernel_rfl) (fun _ _ _ h => h) (Or.inl ⟨by rfl, ?_⟩) ?_ ?_
            rotate_left
            · intro w'
              go_simp
              with_reducible rfl
            rotate_left
            · simp only [Act.put, List.setIfInBounds_toArray, List.set_cons_zero, List.set_cons_succ, i64_w, i32_w]
              rfl
            refine done_ (by kernel_rfl) ?_
            have hnb65 := NB319_294.out
            have hnc65 := NB294_319.out
            have hnb66 := NB319_311.out
            have hnc66 := NB311_319.out
            have hnb67 := NB319_328.out
            have hnc67 := NB328_319.out
            have hcz68_0 : w64.cell? ⟨gb319, 0, none⟩ = some (.slice Ao26 t312.length co26) := (blk_cell BK319.out 0).trans rfl
            have hcz68_1 : w64.cell? ⟨gb319, 1, none⟩ = some (.int .i64 t315) := (blk_cell BK319.out 1).trans rfl
            have hcz68_2 : w64.cell? ⟨gb319, 2, none⟩ = some (.int .i64 t316) := (blk_cell BK319.out 2).trans rfl
            have hcz68_3 : w64.cell? ⟨gb319, 3, none⟩ = some (.int .i64 t317) := (blk_cell BK319.out 3).trans rfl
            have hcz68_4 : w64.cell? ⟨gb319, 4, none⟩ = some (.int .i64 t318) := (blk_cell BK319.out 4).trans rfl
            have hfz68_0 := blk_frozen BK319.out 0
            have hfz68_1 := blk_frozen BK319.out 1
            have hfz68_2 := blk_frozen BK319.out 2
            have hfz68_3 := blk_frozen BK319.out 3
            have hfz68_4 := blk_frozen BK319.out 4
            go_upto_region 14 with (first | ((with_reducible refine gate_callee (f := 18) rfl ?_); refine goesL_ (some 48) rfl rfl Try.func18 (by kernel_rfl) rfl #[.agg #[.slice Ao26 t312.length co26, .int .i64 t315, .int .i64 t316, .int .i64 t317, .int .i64 t318], .int .i64 1] rfl (by (try simp only [List.map_toArray, List.map_cons, List.map_nil]); first | done | rfl | (simp only [List.length_drop, List.length_take]; rfl)) ?_; (with_reducible refine (laws_markQueue.calls kj10 (fun k_ => some k_ = (.slice Ao26 t312.length co26 : Value).ownBlock) (.slice Ao26 t312.length co26) t312 t315 t316 t317 t318 1 t338 t339 w _ ?side1 ?side2 A59.out).mono ?_); (case side1 => exact be_ HB.out); (case side2 => exact Kd.R_tight rfl HO_320000.out); rintro e w69 ⟨rfl, hy0, hb, hkp⟩; refine ⟨_, rfl, ?_⟩; have n0_ := Aside0.mk (Kd.R_mono (ok' := fun k_ => some k_ ≠ (.slice Ao26 t312.length co26 : Value).ownBlock ∧ some k_ ≠ (.slice Ao32 t320.length co32 : Value).ownBlock ∧ some k_ ≠ (.slice Ao63 t330.length co63 : Value).ownBlock) (Kd.R_keptB (HO_312000.out) hkp rn_) rm_); have n1_ := Aside0.mk (Kd.R_reok rfl hy0 (fun k_ e_ => HO_320000.out.1 k_ e_)); have n2_ := Aside0.mk (Kd.R_mono (ok' := fun k_ => some k_ ≠ (.slice Ao20 t303.length co20 : Value).ownBlock ∧ some k_ ≠ (.slice Ao26 t312.length co26 : Value).ownBlock ∧ some k_ ≠ (.slice Ao63 t330.length co63 : Value).ownBlock) (Kd.R_keptB (HO_329000.out) hkp rn_) rm_); have n3_ := Aside0.mk (blk_kept (bl_ BK294.out) hkp (fun hs_ => (fun e_ => (Kd.R_ne HO_320000.out BK294.out (by decide)) e_) hs_)); have n4_ := Aside0.mk (blk_kept (bl_ BK311.out) hkp (fun hs_ => (fun e_ => (Kd.R_ne HO_320000.out BK311.out (by decide)) e_) hs_)); have n5_ := Aside0.mk (blk_kept (bl_ BK319.out) hkp (fun hs_ => (fun e_ => (Kd.R_ne HO_320000.out BK319.out (by decide)) e_) hs_)); have n6_ := Aside0.mk (blk_kept (bl_ BK328.out) hkp (fun hs_ => (fun e_ => (Kd.R_ne HO_320000.out BK328.out (by decide)) e_) hs_)); have n7_ := Aside0.mk (Kd.R_mono (ok' := fun k_ => some k_ ≠ (.slice Ao20 t303.length co20 : Value).ownBlock ∧ some k_ ≠ (.slice Ao26 t312.length co26 : Value).ownBlock ∧ some k_ ≠ (.slice Ao32 t320.length co32 : Value).ownBlock) (Kd.R_keptB (HO332.out) hkp rn_) rm_); have n8_ := Aside0.mk (hb); clear HO_312000 HO_320000 HO_329000 BK294 BK311 BK319 BK328 HO332 HB; have HO_312000 := n0_; have HO_320000 := n1_; have HO_329000 := n2_; have BK294 := n3_; have BK311 := n4_; have BK319 := n5_; have BK328 := n6_; have HO332 := n7_; have HB := n8_; clear n0_ n1_ n2_ n3_ n4_ n5_ n6_ n7_ n8_; (try clear hb); (try clear hkp); (try clear hy0)))
            (try simp only [Act.put, List.setIfInBounds_toArray, List.set_cons_zero, List.set_cons_succ])
            go_cut [61] (fun zv61 wc => ∃ (kq : Nat) (x61_59 : Bool), zv61 = .bool x61_59 ∧ Aside0 (laws_FnExactPopFront.j1 kq t310 x61_59 l0_0 a0_1 a0_2 a0_3 a0_4 t303 t306 t307 t308 t309 t320 t323 t324 t325 t326 = some r) ∧ Aside0 (kq ≤ kj10) ∧ Aside0 (Kd.R k65 65 wc w.heap.size (fun k_ => some k_ ≠ ((.slice Ao26 t312.length co26) : Value).ownBlock ∧ some k_ ≠ ((.slice Ao32 t320.length co32) : Value).ownBlock) (.slice Ao20 t303.length co20) t303) ∧ Aside0 (Kd.R k65 65 wc w.heap.size (fun k_ => some k_ ≠ ((.slice Ao20 t303.length co20) : Value).ownBlock ∧ some k_ ≠ ((.slice Ao32 t320.length co32) : Value).ownBlock) (.slice Ao26 t312.length co26) t339) ∧ Aside0 (Kd.R k65 65 wc w.heap.size (fun k_ => some k_ ≠ ((.slice Ao20 t303.length co20) : Value).ownBlock ∧ some k_ ≠ ((.slice Ao26 t312.length co26) : Value).ownBlock) (.slice Ao32 t320.length co32) t320) ∧ Aside0 (wc.heap[gb294]? = some (.cells #[(.slice A0_0 l0_0.length c0_0), .int .i64 a0_1, .int .i64 a0_2, .int .i64 a0_3, .int .i64 a0_4] 24 (0, 0))) ∧ Aside0 (wc.heap[gb311]? = some (.cells #[(.slice Ao20 t303.length co20), .int .i64 t306, .int .i64 t307, .int .i64 t308, .int .i64 t309] 28 (0, 0))) ∧ Aside0 (wc.heap[gb319]? = some (.cells #[(.slice Ao26 t312.length co26), .int .i64 t315, .int .i64 t316, .int .i64 t317, .int .i64 t318] 28 (0, 0))) ∧ Aside0 (wc.heap[gb328]? = some (.cells #[(.slice Ao32 t320.length co32), .int .i64 t323, .int .i64 t324, .int .i64 t325, .int .i64 t326] 28 (0, 0))) ∧ Aside0 (Below w.heap.size w wc))
            case first =>
              have H := HC60.out
              clear HC60
              by_cases c70 : t338 < 0
              · rw [if_pos c70] at H
                have c70b0 : decide (t338 < 0) = true := decide_eq_true c70
                clear c70
                (first | rw [c70b0] | (simp only [i64_w, i32_w]; rw [c70b0]) | skip)
                have H' := Aside0.mk H
                clear H
                go_wp2
                go_meet
                case rel => exact ⟨_, (true), (by first | rfl | (simp; done) | (simp [*]; done)), H', ⟨by have := HJ10.out; first | omega | exact Nat.le_refl _⟩, ⟨by (with_reducible repeat (first | apply Kd.R_alloc | apply Kd.R_drewN | apply Kd.R_drew)); exact Kd.R_mono HO_312000.out (fun _ hk => ⟨hk.1, hk.2.1⟩)⟩, ⟨by (with_reducible repeat (first | apply Kd.R_alloc | apply Kd.R_drewN | apply Kd.R_drew)); exact Kd.R_mono HO_320000.out (fun _ hk => ⟨hk.1.1, hk.1.2⟩)⟩, ⟨by (with_reducible repeat (first | apply Kd.R_alloc | apply Kd.R_drewN | apply Kd.R_drew)); exact Kd.R_mono HO_329000.out (fun _ hk => ⟨hk.1, hk.2.1⟩)⟩, ⟨by refine bl_ ?_; exact BK294.out⟩, ⟨by refine bl_ ?_; exact BK311.out⟩, ⟨by refine bl_ ?_; exact BK319.out⟩, ⟨by refine bl_ ?_; exact BK328.out⟩, ⟨be_ HB.out⟩⟩
              · rw [if_neg c70] at H
                have c70b0 : decide (t338 < 0) = false := decide_eq_false c70
                clear c70
                (first | rw [c70b0] | (simp only [i64_w, i32_w]; rw [c70b0]) | skip)
                replace H := Option.bind_eq_some_iff.mp H
                obtain ⟨t340, A710, H⟩ := H
                replace H : (if t340 = true then (laws_FnExactPopFront.j1 kj10 t310 (t327 != t310) l0_0 a0_1 a0_2 a0_3 a0_4 t303 t306 t307 t308 t309 t320 t323 t324 t325 t326) else (laws_FnExactPopFront.j1 kj10 t310 true l0_0 a0_1 a0_2 a0_3 a0_4 t303 t306 t307 t308 t309 t320 t323 t324 t325 t326)) = some r := H
                have A71 := Aside0.mk A710
                clear A710
                by_cases c72 : t340 = true
                · subst c72
                  have H1 : (laws_FnExactPopFront.j1 kj10 t310 (t327 != t310) l0_0 a0_1 a0_2 a0_3 a0_4 t303 t306 t307 t308 t309 t320 t323 t324 t325 t326) = some r := by rw [if_pos rfl] at H; exact H
                  clear H
                  have H := H1
                  clear H1
                  have H' := Aside0.mk H
                  clear H
                  have hnb73 := NB328_294.out
                  have hnc73 := NB294_328.out
                  have hnb74 := NB328_311.out
                  have hnc74 := NB311_328.out
                  have hnb75 := NB328_319.out
                  have hnc75 := NB319_328.out
                  have hcz76_0 : w69.cell? ⟨gb328, 0, none⟩ = some (.slice Ao32 t320.length co32) := (blk_cell BK328.out 0).trans rfl
                  have hcz76_1 : w69.cell? ⟨gb328, 1, none⟩ = some (.int .i64 t323) := (blk_cell BK328.out 1).trans rfl
                  have hcz76_2 : w69.cell? ⟨gb328, 2, none⟩ = some (.int .i64 t324) := (blk_cell BK328.out 2).trans rfl
                  have hcz76_3 : w69.cell? ⟨gb328, 3, none⟩ = some (.int .i64 t325) := (blk_cell BK328.out 3).trans rfl
                  have hcz76_4 : w69.cell? ⟨gb328, 4, none⟩ = some (.int .i64 t326) := (blk_cell BK328.out 4).trans rfl
                  have hfz76_0 := blk_frozen BK328.out 0
                  have hfz76_1 := blk_frozen BK328.out 1
                  have hfz76_2 := blk_frozen BK328.out 2
                  have hfz76_3 := blk_frozen BK328.out 3
                  have hfz76_4 := blk_frozen BK328.out 4
                  have hnb77 := NB311_294.out
                  have hnc77 := NB294_311.out
                  have hnb78 := NB311_319.out
                  have hnc78 := NB319_311.out
                  have hcz79_0 : w69.cell? ⟨gb311, 0, none⟩ = some (.slice Ao20 t303.length co20) := (blk_cell BK311.out 0).trans rfl
                  have hcz79_1 : w69.cell? ⟨gb311, 1, none⟩ = some (.int .i64 t306) := (blk_cell BK311.out 1).trans rfl
                  have hcz79_2 : w69.cell? ⟨gb311, 2, none⟩ = some (.int .i64 t307) := (blk_cell BK311.out 2).trans rfl
                  have hcz79_3 : w69.cell? ⟨gb311, 3, none⟩ = some (.int .i64 t308) := (blk_cell BK311.out 3).trans rfl
                  have hcz79_4 : w69.cell? ⟨gb311, 4, none⟩ = some (.int .i64 t309) := (blk_cell BK311.out 4).trans rfl
                  have hfz79_0 := blk_frozen BK311.out 0
                  have hfz79_1 := blk_frozen BK311.out 1
                  have hfz79_2 := blk_frozen BK311.out 2
                  have hfz79_3 := blk_frozen BK311.out 3
                  have hfz79_4 := blk_frozen BK311.out 4
                  go_wp2_with (first | (go_at_call 17; (with_reducible refine (laws_eqQueue.calls kj10 _ _ t320 t323 t324 t325 t326 _ _ t303 t306 t307 t308 t309 true _ ?side1 ?side2 ?side3 ?side4 A71.out).mono ?_); (case side1 => repeat (first | exact (Kd.R_reads' HO_329000.out).2.2 | (with_reducible refine Kd.C_alloc ?_ _) | (with_reducible refine Kd.C_drewN ?_ _) | (with_reducible refine Kd.C_drew ?_))); (case side2 => exact (Kd.R_reads' HO_329000.out).2.1); (case side3 => repeat (first | exact (Kd.R_reads' HO_312000.out).2.2 | (with_reducible refine Kd.C_alloc ?_ _) | (with_reducible refine Kd.C_drewN ?_ _) | (with_reducible refine Kd.C_drew ?_))); (case side4 => exact (Kd.R_reads' HO_312000.out).2.1); rintro e w80 ⟨rfl, hb⟩; have n0_ := Aside0.mk (Kd.R_below (ro_ HO_312000.out) hb); have n1_ := Aside0.mk (Kd.R_below (ro_ HO_320000.out) hb); have n2_ := Aside0.mk (Kd.R_below (ro_ HO_329000.out) hb); have n3_ := Aside0.mk (Kd.R_below (ro_ HO332.out) hb); have n4_ := Aside0.mk (blk_below (g := gb294) (o := .cells #[.slice A0_0 l0_0.length c0_0, .int .i64 a0_1, .int .i64 a0_2, .int .i64 a0_3, .int .i64 a0_4] 24 (0, 0)) (bl_ BK294.out) hb); have n5_ := Aside0.mk (blk_below (g := gb311) (o := .cells #[.slice Ao20 t303.length co20, .int .i64 t306, .int .i64 t307, .int .i64 t308, .int .i64 t309] 28 (0, 0)) (bl_ BK311.out) hb); have n6_ := Aside0.mk (blk_below (g := gb319) (o := .cells #[.slice Ao26 t312.length co26, .int .i64 t315, .int .i64 t316, .int .i64 t317, .int .i64 t318] 28 (0, 0)) (bl_ BK319.out) hb); have n7_ := Aside0.mk (blk_below (g := gb328) (o := .cells #[.slice Ao32 t320.length co32, .int .i64 t323, .int .i64 t324, .int .i64 t325, .int .i64 t326] 28 (0, 0)) (bl_ BK328.out) hb); have n8_ := Aside0.mk (below_step (be_ HB.out) hb); clear HO_312000 HO_320000 HO_329000 HO332 BK294 BK311 BK319 BK328 HB; have HO_312000 := n0_; have HO_320000 := n1_; have HO_329000 := n2_; have HO332 := n3_; have BK294 := n4_; have BK311 := n5_; have BK319 := n6_; have BK328 := n7_; have HB := n8_; clear n0_ n1_ n2_ n3_ n4_ n5_ n6_ n7_ n8_; (try clear hb); (try clear hb2); (try clear hk); (try clear hi)))
                  go_meet
                  case rel => exact ⟨_, ((t327 != t310)), (by first | rfl | (simp; done) | (simp [*]; done)), H', ⟨by have := HJ10.out; first | omega | exact Nat.le_refl _⟩, ⟨by (with_reducible repeat (first | apply Kd.R_alloc | apply Kd.R_drewN | apply Kd.R_drew)); exact Kd.R_mono HO_312000.out (fun _ hk => ⟨hk.1, hk.2.1⟩)⟩, ⟨by (with_reducible repeat (first | apply Kd.R_alloc | apply Kd.R_drewN | apply Kd.R_drew)); exact Kd.R_mono HO_320000.out (fun _ hk => ⟨hk.1.1, hk.1.2⟩)⟩, ⟨by (with_reducible repeat (first | apply Kd.R_alloc | apply Kd.R_drewN | apply Kd.R_drew)); exact Kd.R_mono HO_329000.out (fun _ hk => ⟨hk.1, hk.2.1⟩)⟩, ⟨by refine bl_ ?_; exact BK294.out⟩, ⟨by refine bl_ ?_; exact BK311.out⟩, ⟨by refine bl_ ?_; exact BK319.out⟩, ⟨by refine bl_ ?_; exact BK328.out⟩, ⟨be_ HB.out⟩⟩
                · replace c72 := Bool.eq_false_iff.mpr c72
                  subst c72
                  have H1 : (laws_FnExactPopFront.j1 kj10 t310 true l0_0 a0_1 a0_2 a0_3 a0_4 t303 t306 t307 t308 t309 t320 t323 t324 t325 t326) = some r := by rw [if_neg (show ¬ (false = true) by decide)] at H; exact H
                  clear H
                  have H := H1
                  clear H1
                  have H' := Aside0.mk H
                  clear H
                  have hnb81 := NB328_294.out
                  have hnc81 := NB294_328.out
                  have hnb82 := NB328_311.out
                  have hnc82 := NB311_328.out
                  have hnb83 := NB328_319.out
                  have hnc83 := NB319_328.out
                  have hcz84_0 : w69.cell? ⟨gb328, 0, none⟩ = some (.slice Ao32 t320.length co32) := (blk_cell BK328.out 0).trans rfl
                  have hcz84_1 : w69.cell? ⟨gb328, 1, none⟩ = some (.int .i64 t323) := (blk_cell BK328.out 1).trans rfl
                  have hcz84_2 : w69.cell? ⟨gb328, 2, none⟩ = some (.int .i64 t324) := (blk_cell BK328.out 2).trans rfl
                  have hcz84_3 : w69.cell? ⟨gb328, 3, none⟩ = some (.int .i64 t325) := (blk_cell BK328.out 3).trans rfl
                  have hcz84_4 : w69.cell? ⟨gb328, 4, none⟩ = some (.int .i64 t326) := (blk_cell BK328.out 4).trans rfl
                  have hfz84_0 := blk_frozen BK328.out 0
                  have hfz84_1 := blk_frozen BK328.out 1
                  have hfz84_2 := blk_frozen BK328.out 2
                  have hfz84_3 := blk_frozen BK328.out 3
                  have hfz84_4 := blk_frozen BK328.out 4
                  have hnb85 := NB311_294.out
                  have hnc85 := NB294_311.out
                  have hnb86 := NB311_319.out
                  have hnc86 := NB319_311.out
                  have hcz87_0 : w69.cell? ⟨gb311, 0, none⟩ = some (.slice Ao20 t303.length co20) := (blk_cell BK311.out 0).trans rfl
                  have hcz87_1 : w69.cell? ⟨gb311, 1, none⟩ = some (.int .i64 t306) := (blk_cell BK311.out 1).trans rfl
                  have hcz87_2 : w69.cell? ⟨gb311, 2, none⟩ = some (.int .i64 t307) := (blk_cell BK311.out 2).trans rfl
                  have hcz87_3 : w69.cell? ⟨gb311, 3, none⟩ = some (.int .i64 t308) := (blk_cell BK311.out 3).trans rfl
                  have hcz87_4 : w69.cell? ⟨gb311, 4, none⟩ = some (.int .i64 t309) := (blk_cell BK311.out 4).trans rfl
                  have hfz87_0 := blk_frozen BK311.out 0
                  have hfz87_1 := blk_frozen BK311.out 1
                  have hfz87_2 := blk_frozen BK311.out 2
                  have hfz87_3 := blk_frozen BK311.out 3
                  have hfz87_4 := blk_frozen BK311.out 4
                  go_wp2_with (first | (go_at_call 17; (with_reducible refine (laws_eqQueue.calls kj10 _ _ t320 t323 t324 t325 t326 _ _ t303 t306 t307 t308 t309 false _ ?side1 ?side2 ?side3 ?side4 A71.out).mono ?_); (case side1 => repeat (first | exact (Kd.R_reads' HO_329000.out).2.2 | (with_reducible refine Kd.C_alloc ?_ _) | (with_reducible refine Kd.C_drewN ?_ _) | (with_reducible refine Kd.C_drew ?_))); (case side2 => exact (Kd.R_reads' HO_329000.out).2.1); (case side3 => repeat (first | exact (Kd.R_reads' HO_312000.out).2.2 | (with_reducible refine Kd.C_alloc ?_ _) | (with_reducible refine Kd.C_drewN ?_ _) | (with_reducible refine Kd.C_drew ?_))); (case side4 => exact (Kd.R_reads' HO_312000.out).2.1); rintro e w88 ⟨rfl, hb⟩; have n0_ := Aside0.mk (Kd.R_below (ro_ HO_312000.out) hb); have n1_ := Aside0.mk (Kd.R_below (ro_ HO_320000.out) hb); have n2_ := Aside0.mk (Kd.R_below (ro_ HO_329000.out) hb); have n3_ := Aside0.mk (Kd.R_below (ro_ HO332.out) hb); have n4_ := Aside0.mk (blk_below (g := gb294) (o := .cells #[.slice A0_0 l0_0.length c0_0, .int .i64 a0_1, .int .i64 a0_2, .int .i64 a0_3, .int .i64 a0_4] 24 (0, 0)) (bl_ BK294.out) hb); have n5_ := Aside0.mk (blk_below (g := gb311) (o := .cells #[.slice Ao20 t303.length co20, .int .i64 t306, .int .i64 t307, .int .i64 t308, .int .i64 t309] 28 (0, 0)) (bl_ BK311.out) hb); have n6_ := Aside0.mk (blk_below (g := gb319) (o := .cells #[.slice Ao26 t312.length co26, .int .i64 t315, .int .i64 t316, .int .i64 t317, .int .i64 t318] 28 (0, 0)) (bl_ BK319.out) hb); have n7_ := Aside0.mk (blk_below (g := gb328) (o := .cells #[.slice Ao32 t320.length co32, .int .i64 t323, .int .i64 t324, .int .i64 t325, .int .i64 t326] 28 (0, 0)) (bl_ BK328.out) hb); have n8_ := Aside0.mk (below_step (be_ HB.out) hb); clear HO_312000 HO_320000 HO_329000 HO332 BK294 BK311 BK319 BK328 HB; have HO_312000 := n0_; have HO_320000 := n1_; have HO_329000 := n2_; have HO332 := n3_; have BK294 := n4_; have BK311 := n5_; have BK319 := n6_; have BK328 := n7_; have HB := n8_; clear n0_ n1_ n2_ n3_ n4_ n5_ n6_ n7_ n8_; (try clear hb); (try clear hb2); (try clear hk); (try clear hi)))
                  go_meet
                  case rel => exact ⟨_, (true), (by first | rfl | (simp; done) | (simp [*]; done)), H', ⟨by have := HJ10.out; first | omega | exact Nat.le_refl _⟩, ⟨by (with_reducible repeat (first | apply Kd.R_alloc | apply Kd.R_drewN | apply Kd.R_drew)); exact Kd.R_mono HO_312000.out (fun _ hk => ⟨hk.1, hk.2.1⟩)⟩, ⟨by (with_reducible repeat (first | apply Kd.R_alloc | apply Kd.R_drewN | apply Kd.R_drew)); exact Kd.R_mono HO_320000.out (fun _ hk => ⟨hk.1.1, hk.1.2⟩)⟩, ⟨by (with_reducible repeat (first | apply Kd.R_alloc | apply Kd.R_drewN | apply Kd.R_drew)); exact Kd.R_mono HO_329000.out (fun _ hk => ⟨hk.1, hk.2.1⟩)⟩, ⟨by refine bl_ ?_; exact BK294.out⟩, ⟨by refine bl_ ?_; exact BK311.out⟩, ⟨by refine bl_ ?_; exact BK319.out⟩, ⟨by refine bl_ ?_; exact BK328.out⟩, ⟨be_ HB.out⟩⟩
            case rest =>
              clear HC60
              try clear c1
              try clear c2
              try clear p2
              try clear c3
              try clear c3b0
              try clear c4
              try clear c5
              try clear c6
              try clear c7
              try clear c8
              try clear c13
              try clear c14
              try clear c15
              try clear c16
              try clear c17
              try clear c18
              try clear c21
              try clear c27
              try clear c28
              try clear c33
              try clear c34
              try clear c35
              try clear c38
              try clear c39
              try clear c40
              try clear c41
              try clear c43
              try clear c44
              try clear c47
              try clear c48
              try clear c49
              try clear c51
              try clear c52
              try clear c55
              try clear c58
              try clear c65
              try clear c66
              try clear c67
              try clear c70
              try clear c70b0
              try clear c72
              try clear c73
              try clear c74
              try clear c75
              try clear c77
              try clear c78
              try clear c81
              try clear c82
              try clear c83
              try clear c85
              try clear c86
              try clear hcz13_0
              try clear hcz13_1
              try clear hcz13_2
              try clear hcz13_3
              try clear hcz13_4
              try clear hcz15_0
              try clear hcz15_1
              try clear hcz15_2
              try clear hcz15_3
              try clear hcz15_4
              try clear hcz22_0
              try clear hcz22_1
              try clear hcz22_2
              try clear hcz22_3
              try clear hcz22_4
              try clear hcz23_0
              try clear hcz23_1
              try clear hcz23_2
              try clear hcz23_3
              try clear hcz23_4
              try clear hcz29_0
              try clear hcz29_1
              try clear hcz29_2
              try clear hcz29_3
              try clear hcz29_4
              try clear hcz36_0
              try clear hcz36_1
              try clear hcz36_2
              try clear hcz36_3
              try clear hcz36_4
              try clear hcz42_0
              try clear hcz42_1
              try clear hcz42_2
              try clear hcz42_3
              try clear hcz42_4
              try clear hcz45_0
              try clear hcz45_1
              try clear hcz45_2
              try clear hcz45_3
              try clear hcz45_4
              try clear hcz50_0
              try clear hcz50_1
              try clear hcz50_2
              try clear hcz50_3
              try clear hcz50_4
              try clear hcz53_0
              try clear hcz53_1
              try clear hcz53_2
              try clear hcz53_3
              try clear hcz53_4
              try clear hcz5_0
              try clear hcz5_1
              try clear hcz5_2
              try clear hcz5_3
              try clear hcz5_4
              try clear hcz68_0
              try clear hcz68_1
              try clear hcz68_2
              try clear hcz68_3
              try clear hcz68_4
              try clear hcz76_0
              try clear hcz76_1
              try clear hcz76_2
              try clear hcz76_3
              try clear hcz76_4
              try clear hcz79_0
              try clear hcz79_1
              try clear hcz79_2
              try clear hcz79_3
              try clear hcz79_4
              try clear hcz84_0
              try clear hcz84_1
              try clear hcz84_2
              try clear hcz84_3
              try clear hcz84_4
              try clear hcz87_0
              try clear hcz87_1
              try clear hcz87_2
              try clear hcz87_3
              try clear hcz87_4
              try clear hfz13_0
              try clear hfz13_1
              try clear hfz13_2
              try clear hfz13_3
              try clear hfz13_4
              try clear hfz15_0
              try clear hfz15_1
              try clear hfz15_2
              try clear hfz15_3
              try clear hfz15_4
              try clear hfz22_0
              try clear hfz22_1
              try clear hfz22_2
              try clear hfz22_3
              try clear hfz22_4
              try clear hfz23_0
              try clear hfz23_1
              try clear hfz23_2
              try clear hfz23_3
              try clear hfz23_4
              try clear hfz29_0
              try clear hfz29_1
              try clear hfz29_2
              try clear hfz29_3
              try clear hfz29_4
              try clear hfz36_0
              try clear hfz36_1
              try clear hfz36_2
              try clear hfz36_3
              try clear hfz36_4
              try clear hfz42_0
              try clear hfz42_1
              try clear hfz42_2
              try clear hfz42_3
              try clear hfz42_4
              try clear hfz45_0
              try clear hfz45_1
              try clear hfz45_2
              try clear hfz45_3
              try clear hfz45_4
              try clear hfz50_0
              try clear hfz50_1
              try clear hfz50_2
              try clear hfz50_3
              try clear hfz50_4
              try clear hfz53_0
              try clear hfz53_1
              try clear hfz53_2
              try clear hfz53_3
              try clear hfz53_4
              try clear hfz5_0
              try clear hfz5_1
              try clear hfz5_2
              try clear hfz5_3
              try clear hfz5_4
              try clear hfz68_0
              try clear hfz68_1
              try clear hfz68_2
              try clear hfz68_3
              try clear hfz68_4
              try clear hfz76_0
              try clear hfz76_1
              try clear hfz76_2
              try clear hfz76_3
              try clear hfz76_4
              try clear hfz79_0
              try clear hfz79_1
              try clear hfz79_2
              try clear hfz79_3
              try clear hfz79_4
              try clear hfz84_0
              try clear hfz84_1
              try clear hfz84_2
              try clear hfz84_3
              try clear hfz84_4
              try clear hfz87_0
              try clear hfz87_1
              try clear hfz87_2
              try clear hfz87_3
              try clear hfz87_4
              try clear p2
              obtain ⟨kq, x61_59, rfl, HA, HJ59, HO_312000, HO_320000, HO_329000, BK294, BK311, BK319, BK328, HB⟩ := hcut
              have hl320000_59 := (Kd.R_reads' HO_320000.out).1
              rw [hl320000_59] at HO_320000
              (try simp only [hl320000_59])
              (try simp only [hl320000_59] at BK294)
              (try simp only [hl320000_59] at BK311)
              (try simp only [hl320000_59] at BK319)
              (try simp only [hl320000_59] at BK328)
              (try simp only [hl320000_59] at HO_312000)
              (try simp only [hl320000_59] at HO_329000)
              cases kq with
              | zero => exact absurd HA.out (by simp [laws_FnExactPopFront.j1])
              | succ kj59 =>
                have H := HA.out
                clear HA
                simp only [laws_FnExactPopFront.j1] at H
                by_cases c89 : x61_59 = true
                · subst c89
                  have H1 : (some false) = some r := by rw [if_pos rfl] at H; exact H
                  clear H
                  have H := H1
                  clear H1
                  obtain rfl := Option.some.inj H
                  go_wp2
                  go_ret
                  exact ⟨by first | rfl | (simp [errW_none, errW_some] <;> rfl) | (simp [*, errW_none, errW_some] <;> rfl), be_ HB.out⟩
                · replace c89 := Bool.eq_false_iff.mpr c89
                  subst c89
                  have H1 : ((laws_markQueue.f kj59 t320 t323 t324 t325 t326 1).bind fun bt341 => ((laws_heldQueue.f kj59 bt341.2 t323 t324 t325 t326 1).bind fun t343 => (if t343 < 0 then (some false) else (if t343 = bt341.1 then ((laws_toQueue.f kj59 l0_0 a0_1 a0_2 a0_3 a0_4).bind fun bt344 => ((impl_PopFront.f kj59 bt344.1 bt344.2.1 bt344.2.2.1 bt344.2.2.2.1 bt344.2.2.2.2).bind fun bt351 => ((laws_eqQueue.f kj59 bt351.1 bt351.2.1 bt351.2.2.1 bt351.2.2.2.1 bt351.2.2.2.2.1 t303 t306 t307 t308 t309).bind fun t360 => (if t360 = true then (laws_FnExactPopFront.j2 kj59 bt341.1 (bt351.2.2.2.2.2 != t310) bt341.2 t323 t324 t325 t326) else (laws_FnExactPopFront.j2 kj59 bt341.1 true bt341.2 t323 t324 t325 t326))))) else (some false))))) = some r := by rw [if_neg (show ¬ (false = true) by decide)] at H; exact H
                  clear H
                  have H := H1
                  clear H1
                  replace H := Option.bind_eq_some_iff.mp H
                  obtain ⟨⟨t341, t342⟩, A900, H⟩ := H
                  replace H : ((laws_heldQueue.f kj59 t342 t323 t324 t325 t326 1).bind fun t343 => (if t343 < 0 then (some false) else (if t343 = t341 then ((laws_toQueue.f kj59 l0_0 a0_1 a0_2 a0_3 a0_4).bind fun bt344 => ((impl_PopFront.f kj59 bt344.1 bt344.2.1 bt344.2.2.1 bt344.2.2.2.1 bt344.2.2.2.2).bind fun bt351 => ((laws_eqQueue.f kj59 bt351.1 bt351.2.1 bt351.2.2.1 bt351.2.2.2.1 bt351.2.2.2.2.1 t303 t306 t307 t308 t309).bind fun t360 => (if t360 = true then (laws_FnExactPopFront.j2 kj59 t341 (bt351.2.2.2.2.2 != t310) t342 t323 t324 t325 t326) else (laws_FnExactPopFront.j2 kj59 t341 true t342 t323 t324 t325 t326))))) else (some false)))) = some r := H
                  have A90 := Aside0.mk A900
                  clear A900
                  replace H := Option.bind_eq_some_iff.mp H
                  obtain ⟨t343, A910, H⟩ := H
                  replace H : (if t343 < 0 then (some false) else (if t343 = t341 then ((laws_toQueue.f kj59 l0_0 a0_1 a0_2 a0_3 a0_4).bind fun bt344 => ((impl_PopFront.f kj59 bt344.1 bt344.2.1 bt344.2.2.1 bt344.2.2.2.1 bt344.2.2.2.2).bind fun bt351 => ((laws_eqQueue.f kj59 bt351.1 bt351.2.1 bt351.2.2.1 bt351.2.2.2.1 bt351.2.2.2.2.1 t303 t306 t307 t308 t309).bind fun t360 => (if t360 = true then (laws_FnExactPopFront.j2 kj59 t341 (bt351.2.2.2.2.2 != t310) t342 t323 t324 t325 t326) else (laws_FnExactPopFront.j2 kj59 t341 true t342 t323 t324 t325 t326))))) else (some false))) = some r := H
                  have A91 := Aside0.mk A910
                  clear A910
                  by_cases c92 : t343 < 0
                  · rw [if_pos c92] at H
                    have c92b0 : decide (t343 < 0) = true := decide_eq_true c92
                    clear c92
                    obtain rfl := Option.some.inj H
                    have hnb93 := NB328_294.out
                    have hnc93 := NB294_328.out
                    have hnb94 := NB328_311.out
                    have hnc94 := NB311_328.out
                    have hnb95 := NB328_319.out
                    have hnc95 := NB319_328.out
                    have hcz96_0 : wc.cell? ⟨gb328, 0, none⟩ = some (.slice Ao32 t320.length co32) := (blk_cell BK328.out 0).trans rfl
                    have hcz96_1 : wc.cell? ⟨gb328, 1, none⟩ = some (.int .i64 t323) := (blk_cell BK328.out 1).trans rfl
                    have hcz96_2 : wc.cell? ⟨gb328, 2, none⟩ = some (.int .i64 t324) := (blk_cell BK328.out 2).trans rfl
                    have hcz96_3 : wc.cell? ⟨gb328, 3, none⟩ = some (.int .i64 t325) := (blk_cell BK328.out 3).trans rfl
                    have hcz96_4 : wc.cell? ⟨gb328, 4, none⟩ = some (.int .i64 t326) := (blk_cell BK328.out 4).trans rfl
                    have hfz96_0 := blk_frozen BK328.out 0
                    have hfz96_1 := blk_frozen BK328.out 1
                    have hfz96_2 := blk_frozen BK328.out 2
                    have hfz96_3 := blk_frozen BK328.out 3
                    have hfz96_4 := blk_frozen BK328.out 4
                    go_wp2_with (first | ((with_reducible refine gate_callee (f := 18) rfl ?_); refine goesL_ (some 64) rfl rfl Try.func18 (by kernel_rfl) rfl #[.agg #[.slice Ao32 t320.length co32, .int .i64 t323, .int .i64 t324, .int .i64 t325, .int .i64 t326], .int .i64 1] rfl (by (try simp only [List.map_toArray, List.map_cons, List.map_nil]); first | done | rfl | (simp only [List.length_drop, List.length_take]; rfl)) ?_; (with_reducible refine (laws_markQueue.calls kj59 (fun k_ => some k_ = (.slice Ao32 t320.length co32 : Value).ownBlock) (.slice Ao32 t320.length co32) t320 t323 t324 t325 t326 1 t341 t342 w _ ?side1 ?side2 A90.out).mono ?_); (case side1 => exact be_ HB.out); (case side2 => exact Kd.R_tight rfl HO_329000.out); rintro e w97 ⟨rfl, hy0, hb, hkp⟩; refine ⟨_, rfl, ?_⟩; have n0_ := Aside0.mk (Kd.R_mono (ok' := fun k_ => some k_ ≠ (.slice Ao26 t339.length co26 : Value).ownBlock ∧ some k_ ≠ (.slice Ao32 t320.length co32 : Value).ownBlock) (Kd.R_keptB (HO_312000.out) hkp rn_) rm_); have n1_ := Aside0.mk (Kd.R_mono (ok' := fun k_ => some k_ ≠ (.slice Ao20 t303.length co20 : Value).ownBlock ∧ some k_ ≠ (.slice Ao32 t320.length co32 : Value).ownBlock) (Kd.R_keptB (HO_320000.out) hkp rn_) rm_); have n2_ := Aside0.mk (Kd.R_reok rfl hy0 (fun k_ e_ => HO_329000.out.1 k_ e_)); have n3_ := Aside0.mk (blk_kept (bl_ BK294.out) hkp (fun hs_ => (fun e_ => (Kd.R_ne HO_329000.out BK294.out (by decide)) e_) hs_)); have n4_ := Aside0.mk (blk_kept (bl_ BK311.out) hkp (fun hs_ => (fun e_ => (Kd.R_ne HO_329000.out BK311.out (by decide)) e_) hs_)); have n5_ := Aside0.mk (blk_kept (bl_ BK319.out) hkp (fun hs_ => (fun e_ => (Kd.R_ne HO_329000.out BK319.out (by decide)) e_) hs_)); have n6_ := Aside0.mk (blk_kept (bl_ BK328.out) hkp (fun hs_ => (fun e_ => (Kd.R_ne HO_329000.out BK328.out (by decide)) e_) hs_)); have n7_ := Aside0.mk (hb); clear HO_312000 HO_320000 HO_329000 BK294 BK311 BK319 BK328 HB; have HO_312000 := n0_; have HO_320000 := n1_; have HO_329000 := n2_; have BK294 := n3_; have BK311 := n4_; have BK319 := n5_; have BK328 := n6_; have HB := n7_; clear n0_ n1_ n2_ n3_ n4_ n5_ n6_ n7_; (try clear hb); (try clear hkp); (try clear hy0); obtain ⟨hcz98_0, hcz98_1, hcz98_2, hcz98_3, hcz98_4, hfz98_0, hfz98_1, hfz98_2, hfz98_3, hfz98_4⟩ := cz5_ BK328.out) | ((with_reducible refine gate_callee (f := 19) rfl ?_); refine goesL_ (some 67) rfl rfl Try.func19 (by kernel_rfl) rfl #[.agg #[.slice Ao32 t342.length co32, .int .i64 t323, .int .i64 t324, .int .i64 t325, .int .i64 t326], .int .i64 1] rfl (by (try simp only [List.map_toArray, List.map_cons, List.map_nil]); first | done | (rw [show t342.length = t320.length from (Kd.R_reads' HO_329000.out).1.symm] <;> rfl) | rfl | (simp only [List.length_drop, List.length_take]; rfl)) ?_; (with_reducible refine (laws_heldQueue.calls kj59 _ _ t342 t323 t324 t325 t326 1 t343 _ ?side1 ?side2 A91.out).mono ?_); (case side1 => repeat (first | exact (Kd.R_reads' HO_329000.out).2.2 | (with_reducible refine Kd.C_alloc ?_ _) | (with_reducible refine Kd.C_drewN ?_ _) | (with_reducible refine Kd.C_drew ?_))); (case side2 => rw [show t342.length = t320.length from (Kd.R_reads' HO_329000.out).1.symm]; exact (Kd.R_reads' HO_329000.out).2.1); rintro e w99 ⟨rfl, hb⟩; refine ⟨_, rfl, ?_⟩; have n0_ := Aside0.mk (Kd.R_below (ro_ HO_312000.out) hb); have n1_ := Aside0.mk (Kd.R_below (ro_ HO_320000.out) hb); have n2_ := Aside0.mk (Kd.R_below (ro_ HO_329000.out) hb); have n3_ := Aside0.mk (blk_below (g := gb294) (o := .cells #[.slice A0_0 l0_0.length c0_0, .int .i64 a0_1, .int .i64 a0_2, .int .i64 a0_3, .int .i64 a0_4] 24 (0, 0)) (bl_ BK294.out) hb); have n4_ := Aside0.mk (blk_below (g := gb311) (o := .cells #[.slice Ao20 t303.length co20, .int .i64 t306, .int .i64 t307, .int .i64 t308, .int .i64 t309] 28 (0, 0)) (bl_ BK311.out) hb); have n5_ := Aside0.mk (blk_below (g := gb319) (o := .cells #[.slice Ao26 t339.length co26, .int .i64 t315, .int .i64 t316, .int .i64 t317, .int .i64 t318] 28 (0, 0)) (bl_ BK319.out) hb); have n6_ := Aside0.mk (blk_below (g := gb328) (o := .cells #[.slice Ao32 t320.length co32, .int .i64 t323, .int .i64 t324, .int .i64 t325, .int .i64 t326] 28 (0, 0)) (bl_ BK328.out) hb); have n7_ := Aside0.mk (below_step (be_ HB.out) hb); clear HO_312000 HO_320000 HO_329000 BK294 BK311 BK319 BK328 HB; have HO_312000 := n0_; have HO_320000 := n1_; have HO_329000 := n2_; have BK294 := n3_; have BK311 := n4_; have BK319 := n5_; have BK328 := n6_; have HB := n7_; clear n0_ n1_ n2_ n3_ n4_ n5_ n6_ n7_; (try clear hb); (try clear hb2); (try clear hk); (try clear hi)))
                    go_ret
                    exact ⟨by first | rfl | (simp [errW_none, errW_some] <;> rfl) | (simp [*, errW_none, errW_some] <;> rfl), be_ HB.out⟩
                  · rw [if_neg c92] at H
                    have c92b0 : decide (t343 < 0) = false := decide_eq_false c92
                    clear c92
                    by_cases c100 : t343 = t341
                    · rw [if_pos c100] at H
                      have c100b0 : (t343 == t341) = true := beq_iff_eq.mpr c100
                      have c100b1 : (t343 != t341) = false := bne_eq_false_iff_eq.mpr c100
                      clear c100
                      replace H := Option.bind_eq_some_iff.mp H
                      obtain ⟨⟨t344, t347, t348, t349, t350⟩, A1010, H⟩ := H
                      replace H : ((impl_PopFront.f kj59 t344 t347 t348 t349 t350).bind fun bt351 => ((laws_eqQueue.f kj59 bt351.1 bt351.2.1 bt351.2.2.1 bt351.2.2.2.1 bt351.2.2.2.2.1 t303 t306 t307 t308 t309).bind fun t360 => (if t360 = true then (laws_FnExactPopFront.j2 kj59 t341 (bt351.2.2.2.2.2 != t310) t342 t323 t324 t325 t326) else (laws_FnExactPopFront.j2 kj59 t341 true t342 t323 t324 t325 t326)))) = some r := H
                      have A101 := Aside0.mk A1010
                      clear A1010
                      replace H := Option.bind_eq_some_iff.mp H
                      obtain ⟨⟨t351, t354, t355, t356, t357, t358⟩, A1020, H⟩ := H
                      replace H : ((laws_eqQueue.f kj59 t351 t354 t355 t356 t357 t303 t306 t307 t308 t309).bind fun t360 => (if t360 = true then (laws_FnExactPopFront.j2 kj59 t341 (t358 != t310) t342 t323 t324 t325 t326) else (laws_FnExactPopFront.j2 kj59 t341 true t342 t323 t324 t325 t326))) = some r := H
                      have A102 := Aside0.mk A1020
                      clear A1020
                      have HC103 := Aside0.mk H
                      clear H
                      have hnb104 := NB328_294.out
                      have hnc104 := NB294_328.out
                      have hnb105 := NB328_311.out
                      have hnc105 := NB311_328.out
                      have hnb106 := NB328_319.out
                      have hnc106 := NB319_328.out
                      have hcz107_0 : wc.cell? ⟨gb328, 0, none⟩ = some (.slice Ao32 t320.length co32) := (blk_cell BK328.out 0).trans rfl
                      have hcz107_1 : wc.cell? ⟨gb328, 1, none⟩ = some (.int .i64 t323) := (blk_cell BK328.out 1).trans rfl
                      have hcz107_2 : wc.cell? ⟨gb328, 2, none⟩ = some (.int .i64 t324) := (blk_cell BK328.out 2).trans rfl
                      have hcz107_3 : wc.cell? ⟨gb328, 3, none⟩ = some (.int .i64 t325) := (blk_cell BK328.out 3).trans rfl
                      have hcz107_4 : wc.cell? ⟨gb328, 4, none⟩ = some (.int .i64 t326) := (blk_cell BK328.out 4).trans rfl
                      have hfz107_0 := blk_frozen BK328.out 0
                      have hfz107_1 := blk_frozen BK328.out 1
                      have hfz107_2 := blk_frozen BK328.out 2
                      have hfz107_3 := blk_frozen BK328.out 3
                      have hfz107_4 := blk_frozen BK328.out 4
                      go_upto_region 25 with (first | ((with_reducible refine gate_callee (f := 18) rfl ?_); refine goesL_ (some 64) rfl rfl Try.func18 (by kernel_rfl) rfl #[.agg #[.slice Ao32 t320.length co32, .int .i64 t323, .int .i64 t324, .int .i64 t325, .int .i64 t326], .int .i64 1] rfl (by (try simp only [List.map_toArray, List.map_cons, List.map_nil]); first | done | rfl | (simp only [List.length_drop, List.length_take]; rfl)) ?_; (with_reducible refine (laws_markQueue.calls kj59 (fun k_ => some k_ = (.slice Ao32 t320.length co32 : Value).ownBlock) (.slice Ao32 t320.length co32) t320 t323 t324 t325 t326 1 t341 t342 w _ ?side1 ?side2 A90.out).mono ?_); (case side1 => exact be_ HB.out); (case side2 => exact Kd.R_tight rfl HO_329000.out); rintro e w108 ⟨rfl, hy0, hb, hkp⟩; refine ⟨_, rfl, ?_⟩; have n0_ := Aside0.mk (Kd.R_mono (ok' := fun k_ => some k_ ≠ (.slice Ao26 t339.length co26 : Value).ownBlock ∧ some k_ ≠ (.slice Ao32 t320.length co32 : Value).ownBlock) (Kd.R_keptB (HO_312000.out) hkp rn_) rm_); have n1_ := Aside0.mk (Kd.R_mono (ok' := fun k_ => some k_ ≠ (.slice Ao20 t303.length co20 : Value).ownBlock ∧ some k_ ≠ (.slice Ao32 t320.length co32 : Value).ownBlock) (Kd.R_keptB (HO_320000.out) hkp rn_) rm_); have n2_ := Aside0.mk (Kd.R_reok rfl hy0 (fun k_ e_ => HO_329000.out.1 k_ e_)); have n3_ := Aside0.mk (blk_kept (bl_ BK294.out) hkp (fun hs_ => (fun e_ => (Kd.R_ne HO_329000.out BK294.out (by decide)) e_) hs_)); have n4_ := Aside0.mk (blk_kept (bl_ BK311.out) hkp (fun hs_ => (fun e_ => (Kd.R_ne HO_329000.out BK311.out (by decide)) e_) hs_)); have n5_ := Aside0.mk (blk_kept (bl_ BK319.out) hkp (fun hs_ => (fun e_ => (Kd.R_ne HO_329000.out BK319.out (by decide)) e_) hs_)); have n6_ := Aside0.mk (blk_kept (bl_ BK328.out) hkp (fun hs_ => (fun e_ => (Kd.R_ne HO_329000.out BK328.out (by decide)) e_) hs_)); have n7_ := Aside0.mk (hb); clear HO_312000 HO_320000 HO_329000 BK294 BK311 BK319 BK328 HB; have HO_312000 := n0_; have HO_320000 := n1_; have HO_329000 := n2_; have BK294 := n3_; have BK311 := n4_; have BK319 := n5_; have BK328 := n6_; have HB := n7_; clear n0_ n1_ n2_ n3_ n4_ n5_ n6_ n7_; (try clear hb); (try clear hkp); (try clear hy0); obtain ⟨hcz109_0, hcz109_1, hcz109_2, hcz109_3, hcz109_4, hfz109_0, hfz109_1, hfz109_2, hfz109_3, hfz109_4⟩ := cz5_ BK328.out) | ((with_reducible refine gate_callee (f := 19) rfl ?_); refine goesL_ (some 67) rfl rfl Try.func19 (by kernel_rfl) rfl #[.agg #[.slice Ao32 t342.length co32, .int .i64 t323, .int .i64 t324, .int .i64 t325, .int .i64 t326], .int .i64 1] rfl (by (try simp only [List.map_toArray, List.map_cons, List.map_nil]); first | done | (rw [show t342.length = t320.length from (Kd.R_reads' HO_329000.out).1.symm] <;> rfl) | rfl | (simp only [List.length_drop, List.length_take]; rfl)) ?_; (with_reducible refine (laws_heldQueue.calls kj59 _ _ t342 t323 t324 t325 t326 1 t343 _ ?side1 ?side2 A91.out).mono ?_); (case side1 => repeat (first | exact (Kd.R_reads' HO_329000.out).2.2 | (with_reducible refine Kd.C_alloc ?_ _) | (with_reducible refine Kd.C_drewN ?_ _) | (with_reducible refine Kd.C_drew ?_))); (case side2 => rw [show t342.length = t320.length from (Kd.R_reads' HO_329000.out).1.symm]; exact (Kd.R_reads' HO_329000.out).2.1); rintro e w110 ⟨rfl, hb⟩; refine ⟨_, rfl, ?_⟩; have n0_ := Aside0.mk (Kd.R_below (ro_ HO_312000.out) hb); have n1_ := Aside0.mk (Kd.R_below (ro_ HO_320000.out) hb); have n2_ := Aside0.mk (Kd.R_below (ro_ HO_329000.out) hb); have n3_ := Aside0.mk (blk_below (g := gb294) (o := .cells #[.slice A0_0 l0_0.length c0_0, .int .i64 a0_1, .int .i64 a0_2, .int .i64 a0_3, .int .i64 a0_4] 24 (0, 0)) (bl_ BK294.out) hb); have n4_ := Aside0.mk (blk_below (g := gb311) (o := .cells #[.slice Ao20 t303.length co20, .int .i64 t306, .int .i64 t307, .int .i64 t308, .int .i64 t309] 28 (0, 0)) (bl_ BK311.out) hb); have n5_ := Aside0.mk (blk_below (g := gb319) (o := .cells #[.slice Ao26 t339.length co26, .int .i64 t315, .int .i64 t316, .int .i64 t317, .int .i64 t318] 28 (0, 0)) (bl_ BK319.out) hb); have n6_ := Aside0.mk (blk_below (g := gb328) (o := .cells #[.slice Ao32 t320.length co32, .int .i64 t323, .int .i64 t324, .int .i64 t325, .int .i64 t326] 28 (0, 0)) (bl_ BK328.out) hb); have n7_ := Aside0.mk (below_step (be_ HB.out) hb); clear HO_312000 HO_320000 HO_329000 BK294 BK311 BK319 BK328 HB; have HO_312000 := n0_; have HO_320000 := n1_; have HO_329000 := n2_; have BK294 := n3_; have BK311 := n4_; have BK319 := n5_; have BK328 := n6_; have HB := n7_; clear n0_ n1_ n2_ n3_ n4_ n5_ n6_ n7_; (try clear hb); (try clear hb2); (try clear hk); (try clear hi); have hnb111 := NB294_311.out; have hnc111 := NB311_294.out; have hnb112 := NB294_319.out; have hnc112 := NB319_294.out; obtain ⟨hcz113_0, hcz113_1, hcz113_2, hcz113_3, hcz113_4, hfz113_0, hfz113_1, hfz113_2, hfz113_3, hfz113_4⟩ := cz5_ BK294.out) | ((with_reducible refine gate_callee (f := 15) rfl ?_); refine goesL_ (some 75) rfl rfl Try.func15 (by kernel_rfl) rfl #[.agg #[.slice A0_0 l0_0.length c0_0, .int .i64 a0_1, .int .i64 a0_2, .int .i64 a0_3, .int .i64 a0_4]] rfl (by (try simp only [List.map_toArray, List.map_cons, List.map_nil]); first | done | rfl | (simp only [List.length_drop, List.length_take]; rfl)) ?_; (with_reducible refine (laws_toQueue.calls kj59 _ _ l0_0 a0_1 a0_2 a0_3 a0_4 t344 t347 t348 t349 t350 _ ?side1 ?side2 A101.out).mono ?_); (case side1 => repeat (first | exact (Kd.C_below HR0_0.out HB.out) | (with_reducible refine Kd.C_alloc ?_ _) | (with_reducible refine Kd.C_drewN ?_ _) | (with_reducible refine Kd.C_drew ?_))); (case side2 => exact HC0_0.out); rintro e w114 ⟨v345, rfl, ho0, hb⟩; refine ⟨_, rfl, ?_⟩; have n0_ := Aside0.mk (Kd.R_elder' (ro_ HO_312000.out) (Kd.R_base ho0) hb); have n1_ := Aside0.mk (Kd.R_elder' (ro_ HO_320000.out) (Kd.R_base ho0) hb); have n2_ := Aside0.mk (Kd.R_elder' (ro_ HO_329000.out) (Kd.R_base ho0) hb); have n3_ := Aside0.mk (Kd.R_lower (Kd.R_new' (Kd.R_new' (Kd.R_new' ho0 (Kd.R_lt (ro_ HO_312000.out))) (Kd.R_lt (ro_ HO_320000.out))) (Kd.R_lt (ro_ HO_329000.out))) (below_size (be_ HB.out))); have n4_ := Aside0.mk (blk_below (g := gb294) (o := .cells #[.slice A0_0 l0_0.length c0_0, .int .i64 a0_1, .int .i64 a0_2, .int .i64 a0_3, .int .i64 a0_4] 24 (0, 0)) (bl_ BK294.out) hb); have n5_ := Aside0.mk (blk_below (g := gb311) (o := .cells #[.slice Ao20 t303.length co20, .int .i64 t306, .int .i64 t307, .int .i64 t308, .int .i64 t309] 28 (0, 0)) (bl_ BK311.out) hb); have n6_ := Aside0.mk (blk_below (g := gb319) (o := .cells #[.slice Ao26 t339.length co26, .int .i64 t315, .int .i64 t316, .int .i64 t317, .int .i64 t318] 28 (0, 0)) (bl_ BK319.out) hb); have n7_ := Aside0.mk (blk_below (g := gb328) (o := .cells #[.slice Ao32 t320.length co32, .int .i64 t323, .int .i64 t324, .int .i64 t325, .int .i64 t326] 28 (0, 0)) (bl_ BK328.out) hb); have n8_ := Aside0.mk (below_step (be_ HB.out) hb); clear HO_312000 HO_320000 HO_329000 BK294 BK311 BK319 BK328 HB; have HO_312000 := n0_; have HO_320000 := n1_; have HO_329000 := n2_; have HO346 := n3_; have BK294 := n4_; have BK311 := n5_; have BK319 := n6_; have BK328 := n7_; have HB := n8_; clear n0_ n1_ n2_ n3_ n4_ n5_ n6_ n7_ n8_; (try clear hb); (try clear hb2); (try clear hk); (try clear hi); (try clear ho0); obtain ⟨Ao115, co115, eo115⟩ := Kd.R_slice HO346.out; subst eo115) | ((with_reducible refine gate_callee (f := 16) rfl ?_); refine goesL_ (some 76) rfl rfl Try.func16 (by kernel_rfl) rfl #[.agg #[.slice Ao115 t344.length co115, .int .i64 t347, .int .i64 t348, .int .i64 t349, .int .i64 t350]] rfl (by (try simp only [List.map_toArray, List.map_cons, List.map_nil]); first | done | rfl | (simp only [List.length_drop, List.length_take]; rfl)) ?_; (with_reducible refine (impl_PopFront.calls kj59 _ _ t344 t347 t348 t349 t350 t351 t354 t355 t356 t357 t358 _ ?side1 ?side2 A102.out).mono ?_); (case side1 => repeat (first | exact (Kd.R_reads' HO346.out).2.2 | (with_reducible refine Kd.C_alloc ?_ _) | (with_reducible refine Kd.C_drewN ?_ _) | (with_reducible refine Kd.C_drew ?_))); (case side2 => exact (Kd.R_reads' HO346.out).2.1); rintro e w116 ⟨v352, rfl, ho0, hb⟩; refine ⟨_, rfl, ?_⟩; have n0_ := Aside0.mk (Kd.R_elder' (ro_ HO_312000.out) (Kd.R_base ho0) hb); have n1_ := Aside0.mk (Kd.R_elder' (ro_ HO_320000.out) (Kd.R_base ho0) hb); have n2_ := Aside0.mk (Kd.R_elder' (ro_ HO_329000.out) (Kd.R_base ho0) hb); have n3_ := Aside0.mk (Kd.R_elder' (ro_ HO346.out) (Kd.R_base ho0) hb); have n4_ := Aside0.mk (Kd.R_lower (Kd.R_new' (Kd.R_new' (Kd.R_new' (Kd.R_new' ho0 (Kd.R_lt (ro_ HO_312000.out))) (Kd.R_lt (ro_ HO_320000.out))) (Kd.R_lt (ro_ HO_329000.out))) (Kd.R_lt (ro_ HO346.out))) (below_size (be_ HB.out))); have n5_ := Aside0.mk (blk_below (g := gb294) (o := .cells #[.slice A0_0 l0_0.length c0_0, .int .i64 a0_1, .int .i64 a0_2, .int .i64 a0_3, .int .i64 a0_4] 24 (0, 0)) (bl_ BK294.out) hb); have n6_ := Aside0.mk (blk_below (g := gb311) (o := .cells #[.slice Ao20 t303.length co20, .int .i64 t306, .int .i64 t307, .int .i64 t308, .int .i64 t309] 28 (0, 0)) (bl_ BK311.out) hb); have n7_ := Aside0.mk (blk_below (g := gb319) (o := .cells #[.slice Ao26 t339.length co26, .int .i64 t315, .int .i64 t316, .int .i64 t317, .int .i64 t318] 28 (0, 0)) (bl_ BK319.out) hb); have n8_ := Aside0.mk (blk_below (g := gb328) (o := .cells #[.slice Ao32 t320.length co32, .int .i64 t323, .int .i64 t324, .int .i64 t325, .int .i64 t326] 28 (0, 0)) (bl_ BK328.out) hb); have n9_ := Aside0.mk (below_step (be_ HB.out) hb); clear HO_312000 HO_320000 HO_329000 HO346 BK294 BK311 BK319 BK328 HB; have HO_312000 := n0_; have HO_320000 := n1_; have HO_329000 := n2_; have HO346 := n3_; have HO353 := n4_; have BK294 := n5_; have BK311 := n6_; have BK319 := n7_; have BK328 := n8_; have HB := n9_; clear n0_ n1_ n2_ n3_ n4_ n5_ n6_ n7_ n8_ n9_; (try clear hb); (try clear hb2); (try clear hk); (try clear hi); (try clear ho0)) | ((with_reducible refine gate_dst (N := 12) rfl ?_); refine box_event ?hg (N := 12) ?hd (cs := #[.slice none 0 0, .int .i64 0, .int .i64 0, .int .i64 0, .int .i64 0]) (t := 28) ?hr ?_; (case hd => rfl); (case hg => rfl); (case hr => first | (go_simp; done) | (go_simp; rfl)); intro gb359 hg w117 hbox hb; have n0_ := Aside0.mk (Kd.R_below (ro_ HO_312000.out) hb); have n1_ := Aside0.mk (Kd.R_below (ro_ HO_320000.out) hb); have n2_ := Aside0.mk (Kd.R_below (ro_ HO_329000.out) hb); have n3_ := Aside0.mk (Kd.R_below (ro_ HO346.out) hb); have n4_ := Aside0.mk (Kd.R_below (ro_ HO353.out) hb); have n5_ := Aside0.mk (blk_below (g := gb294) (o := .cells #[.slice A0_0 l0_0.length c0_0, .int .i64 a0_1, .int .i64 a0_2, .int .i64 a0_3, .int .i64 a0_4] 24 (0, 0)) (bl_ BK294.out) hb); have n6_ := Aside0.mk (blk_below (g := gb311) (o := .cells #[.slice Ao20 t303.length co20, .int .i64 t306, .int .i64 t307, .int .i64 t308, .int .i64 t309] 28 (0, 0)) (bl_ BK311.out) hb); have n7_ := Aside0.mk (blk_below (g := gb319) (o := .cells #[.slice Ao26 t339.length co26, .int .i64 t315, .int .i64 t316, .int .i64 t317, .int .i64 t318] 28 (0, 0)) (bl_ BK319.out) hb); have n8_ := Aside0.mk (blk_below (g := gb328) (o := .cells #[.slice Ao32 t320.length co32, .int .i64 t323, .int .i64 t324, .int .i64 t325, .int .i64 t326] 28 (0, 0)) (bl_ BK328.out) hb); have n9_ := Aside0.mk (below_step (be_ HB.out) hb); have n10_ := Aside0.mk (hbox); have n11_ := Aside0.mk ((by rw [hg]; exact (below_size (be_ HB.out)) : w.heap.size ≤ gb359)); have n12_ := Aside0.mk ((by rw [hg]; exact (below_size (be_ HB.out)) : w.heap.size ≤ gb359)); have n13_ := Aside0.mk ((by rw [hg]; exact Nat.ne_of_lt (blk_lt (g := gb294) (o := .cells #[.slice A0_0 l0_0.length c0_0, .int .i64 a0_1, .int .i64 a0_2, .int .i64 a0_3, .int .i64 a0_4] 24 (0, 0)) (bl_ BK294.out)) : gb294 ≠ gb359)); have n14_ := Aside0.mk ((by rw [hg]; exact Nat.ne_of_gt (blk_lt (g := gb294) (o := .cells #[.slice A0_0 l0_0.length c0_0, .int .i64 a0_1, .int .i64 a0_2, .int .i64 a0_3, .int .i64 a0_4] 24 (0, 0)) (bl_ BK294.out)) : gb359 ≠ gb294)); have n15_ := Aside0.mk ((by rw [hg]; exact Nat.ne_of_lt (blk_lt (g := gb311) (o := .cells #[.slice Ao20 t303.length co20, .int .i64 t306, .int .i64 t307, .int .i64 t308, .int .i64 t309] 28 (0, 0)) (bl_ BK311.out)) : gb311 ≠ gb359)); have n16_ := Aside0.mk ((by rw [hg]; exact Nat.ne_of_gt (blk_lt (g := gb311) (o := .cells #[.slice Ao20 t303.length co20, .int .i64 t306, .int .i64 t307, .int .i64 t308, .int .i64 t309] 28 (0, 0)) (bl_ BK311.out)) : gb359 ≠ gb311)); have n17_ := Aside0.mk ((by rw [hg]; exact Nat.ne_of_lt (blk_lt (g := gb319) (o := .cells #[.slice Ao26 t339.length co26, .int .i64 t315, .int .i64 t316, .int .i64 t317, .int .i64 t318] 28 (0, 0)) (bl_ BK319.out)) : gb319 ≠ gb359)); have n18_ := Aside0.mk ((by rw [hg]; exact Nat.ne_of_gt (blk_lt (g := gb319) (o := .cells #[.slice Ao26 t339.length co26, .int .i64 t315, .int .i64 t316, .int .i64 t317, .int .i64 t318] 28 (0, 0)) (bl_ BK319.out)) : gb359 ≠ gb319)); have n19_ := Aside0.mk ((by rw [hg]; exact Nat.ne_of_lt (blk_lt (g := gb328) (o := .cells #[.slice Ao32 t320.length co32, .int .i64 t323, .int .i64 t324, .int .i64 t325, .int .i64 t326] 28 (0, 0)) (bl_ BK328.out)) : gb328 ≠ gb359)); have n20_ := Aside0.mk ((by rw [hg]; exact Nat.ne_of_gt (blk_lt (g := gb328) (o := .cells #[.slice Ao32 t320.length co32, .int .i64 t323, .int .i64 t324, .int .i64 t325, .int .i64 t326] 28 (0, 0)) (bl_ BK328.out)) : gb359 ≠ gb328)); clear HO_312000 HO_320000 HO_329000 HO346 HO353 BK294 BK311 BK319 BK328 HB; have HO_312000 := n0_; have HO_320000 := n1_; have HO_329000 := n2_; have HO346 := n3_; have HO353 := n4_; have BK294 := n5_; have BK311 := n6_; have BK319 := n7_; have BK328 := n8_; have HB := n9_; have BK359 := n10_; have GW359 := n11_; have GE359 := n12_; have NB294_359 := n13_; have NB359_294 := n14_; have NB311_359 := n15_; have NB359_311 := n16_; have NB319_359 := n17_; have NB359_319 := n18_; have NB328_359 := n19_; have NB359_328 := n20_; clear n0_ n1_ n2_ n3_ n4_ n5_ n6_ n7_ n8_ n9_ n10_ n11_ n12_ n13_ n14_ n15_ n16_ n17_ n18_ n19_ n20_; clear hb hbox hg; obtain ⟨Ao118, co118, eo118⟩ := Kd.R_slice HO353.out; subst eo118; have hnb119 := NB359_294.out; have hnc119 := NB294_359.out; have hnb120 := NB359_311.out; have hnc120 := NB311_359.out; have hnb121 := NB359_319.out; have hnc121 := NB319_359.out; have hnb122 := NB359_328.out; have hnc122 := NB328_359.out; obtain ⟨hcz123_0, hcz123_1, hcz123_2, hcz123_3, hcz123_4, hfz123_0, hfz123_1, hfz123_2, hfz123_3, hfz123_4⟩ := cz5_ BK359.out))
                      (try simp only [Act.put, List.setIfInBounds_toArray, List.set_cons_zero, List.set_cons_succ])
                      go_cut [87] (fun zv87 wc => ∃ (kq : Nat) (x87_102 : Bool), zv87 = .bool x87_102 ∧ Aside0 (laws_FnExactPopFront.j2 kq t341 x87_102 t342 t323 t324 t325 t326 = some r) ∧ Aside0 (kq ≤ kj59) ∧ Aside0 (Kd.R k65 65 wc w.heap.size (fun k_ => some k_ ≠ ((.slice Ao26 t339.length co26) : Value).ownBlock ∧ some k_ ≠ ((.slice Ao32 t320.length co32) : Value).ownBlock ∧ some k_ ≠ ((.slice Ao118 t351.length co118) : Value).ownBlock) (.slice Ao20 t303.length co20) t303) ∧ Aside0 (Kd.R k65 65 wc w.heap.size (fun k_ => some k_ ≠ ((.slice Ao20 t303.length co20) : Value).ownBlock ∧ some k_ ≠ ((.slice Ao32 t320.length co32) : Value).ownBlock ∧ some k_ ≠ ((.slice Ao118 t351.length co118) : Value).ownBlock) (.slice Ao26 t339.length co26) t339) ∧ Aside0 (Kd.R k65 65 wc w.heap.size (fun k_ => some k_ ≠ ((.slice Ao20 t303.length co20) : Value).ownBlock ∧ some k_ ≠ ((.slice Ao26 t339.length co26) : Value).ownBlock ∧ some k_ ≠ ((.slice Ao118 t351.length co118) : Value).ownBlock) (.slice Ao32 t320.length co32) t342) ∧ Aside0 (Kd.R k65 65 wc w.heap.size (fun k_ => some k_ ≠ ((.slice Ao20 t303.length co20) : Value).ownBlock ∧ some k_ ≠ ((.slice Ao26 t339.length co26) : Value).ownBlock ∧ some k_ ≠ ((.slice Ao32 t320.length co32) : Value).ownBlock) (.slice Ao118 t351.length co118) t351) ∧ Aside0 (wc.heap[gb294]? = some (.cells #[(.slice A0_0 l0_0.length c0_0), .int .i64 a0_1, .int .i64 a0_2, .int .i64 a0_3, .int .i64 a0_4] 24 (0, 0))) ∧ Aside0 (wc.heap[gb311]? = some (.cells #[(.slice Ao20 t303.length co20), .int .i64 t306, .int .i64 t307, .int .i64 t308, .int .i64 t309] 28 (0, 0))) ∧ Aside0 (wc.heap[gb319]? = some (.cells #[(.slice Ao26 t339.length co26), .int .i64 t315, .int .i64 t316, .int .i64 t317, .int .i64 t318] 28 (0, 0))) ∧ Aside0 (wc.heap[gb328]? = some (.cells #[(.slice Ao32 t320.length co32), .int .i64 t323, .int .i64 t324, .int .i64 t325, .int .i64 t326] 28 (0, 0))) ∧ Aside0 (wc.heap[gb359]? = some (.cells #[(.slice Ao118 t351.length co118), .int .i64 t354, .int .i64 t355, .int .i64 t356, .int .i64 t357] 28 (0, 0))) ∧ Aside0 (Below w.heap.size w wc))
                      case first =>
                        have H := HC103.out
                        clear HC103
                        replace H := Option.bind_eq_some_iff.mp H
                        obtain ⟨t360, A1240, H⟩ := H
                        replace H : (if t360 = true then (laws_FnExactPopFront.j2 kj59 t341 (t358 != t310) t342 t323 t324 t325 t326) else (laws_FnExactPopFront.j2 kj59 t341 true t342 t323 t324 t325 t326)) = some r := H
                        have A124 := Aside0.mk A1240
                        clear A1240
                        by_cases c125 : t360 = true
                        · subst c125
                          have H1 : (laws_FnExactPopFront.j2 kj59 t341 (t358 != t310) t342 t323 t324 t325 t326) = some r := by rw [if_pos rfl] at H; exact H
                          clear H
                          have H := H1
                          clear H1
                          have H' := Aside0.mk H
                          clear H
                          have hnb126 := NB359_294.out
                          have hnc126 := NB294_359.out
                          have hnb127 := NB359_311.out
                          have hnc127 := NB311_359.out
                          have hnb128 := NB359_319.out
                          have hnc128 := NB319_359.out
                          have hnb129 := NB359_328.out
                          have hnc129 := NB328_359.out
                          have hcz130_0 : w117.cell? ⟨gb359, 0, none⟩ = some (.slice none 0 0) := (blk_cell BK359.out 0).trans rfl
                          have hcz130_1 : w117.cell? ⟨gb359, 1, none⟩ = some (.int .i64 0) := (blk_cell BK359.out 1).trans rfl
                          have hcz130_2 : w117.cell? ⟨gb359, 2, none⟩ = some (.int .i64 0) := (blk_cell BK359.out 2).trans rfl
                          have hcz130_3 : w117.cell? ⟨gb359, 3, none⟩ = some (.int .i64 0) := (blk_cell BK359.out 3).trans rfl
                          have hcz130_4 : w117.cell? ⟨gb359, 4, none⟩ = some (.int .i64 0) := (blk_cell BK359.out 4).trans rfl
                          have hfz130_0 := blk_frozen BK359.out 0
                          have hfz130_1 := blk_frozen BK359.out 1
                          have hfz130_2 := blk_frozen BK359.out 2
                          have hfz130_3 := blk_frozen BK359.out 3
                          have hfz130_4 := blk_frozen BK359.out 4
                          have hnb131 := NB311_294.out
                          have hnc131 := NB294_311.out
                          have hnb132 := NB311_319.out
                          have hnc132 := NB319_311.out
                          have hnb133 := NB311_328.out
                          have hnc133 := NB328_311.out
                          have hcz134_0 : w117.cell? ⟨gb311, 0, none⟩ = some (.slice Ao20 t303.length co20) := (blk_cell BK311.out 0).trans rfl
                          have hcz134_1 : w117.cell? ⟨gb311, 1, none⟩ = some (.int .i64 t306) := (blk_cell BK311.out 1).trans rfl
                          have hcz134_2 : w117.cell? ⟨gb311, 2, none⟩ = some (.int .i64 t307) := (blk_cell BK311.out 2).trans rfl
                          have hcz134_3 : w117.cell? ⟨gb311, 3, none⟩ = some (.int .i64 t308) := (blk_cell BK311.out 3).trans rfl
                          have hcz134_4 : w117.cell? ⟨gb311, 4, none⟩ = some (.int .i64 t309) := (blk_cell BK311.out 4).trans rfl
                          have hfz134_0 := blk_frozen BK311.out 0
                          have hfz134_1 := blk_frozen BK311.out 1
                          have hfz134_2 := blk_frozen BK311.out 2
                          have hfz134_3 := blk_frozen BK311.out 3
                          have hfz134_4 := blk_frozen BK311.out 4
                          go_wp2_with (first | ((with_reducible refine gate_callee (f := 17) rfl ?_); refine goesL_ (some 81) rfl rfl Try.func17 (by kernel_rfl) rfl #[.agg #[.slice Ao118 t351.length co118, .int .i64 t354, .int .i64 t355, .int .i64 t356, .int .i64 t357], .agg #[.slice Ao20 t303.length co20, .int .i64 t306, .int .i64 t307, .int .i64 t308, .int .i64 t309]] rfl (by (try simp only [List.map_toArray, List.map_cons, List.map_nil]); first | done | rfl | (simp only [List.length_drop, List.length_take]; rfl)) ?_; (with_reducible refine (laws_eqQueue.calls kj59 _ _ t351 t354 t355 t356 t357 _ _ t303 t306 t307 t308 t309 true _ ?side1 ?side2 ?side3 ?side4 A124.out).mono ?_); (case side1 => refine (Kd.R_reads' (e := 65) (base := w.heap.size) (ok := fun k_ => ((((True ∧ some k_ ≠ (.slice Ao20 t303.length co20 : Value).ownBlock) ∧ some k_ ≠ (.slice Ao26 t339.length co26 : Value).ownBlock) ∧ some k_ ≠ (.slice Ao32 t320.length co32 : Value).ownBlock) ∧ some k_ ≠ (.slice Ao115 t344.length co115 : Value).ownBlock)) (n := t351.length) (c := co118) ?_).2.2; exact (by (with_reducible repeat (first | apply Kd.R_alloc | apply Kd.R_drewN | apply Kd.R_drew)); exact (Kd.R_mono (Kd.R_far (p := ⟨gb359, 4, none⟩) (Kd.R_far (p := ⟨gb359, 3, none⟩) (Kd.R_far (p := ⟨gb359, 2, none⟩) (Kd.R_far (p := ⟨gb359, 1, none⟩) (Kd.R_far (p := ⟨gb359, 0, none⟩) (Kd.R_types HO353.out BK359.out (by decide)) (fun _ hk => hk.2) (.slice Ao118 t351.length co118)) (fun _ hk => hk.2) (.int .i64 t354)) (fun _ hk => hk.2) (.int .i64 t355)) (fun _ hk => hk.2) (.int .i64 t356)) (fun _ hk => hk.2) (.int .i64 t357)) (fun _ h_ => h_.1)))); (case side2 => exact (Kd.R_reads' HO353.out).2.1); (case side3 => refine (Kd.R_reads' (e := 65) (base := w.heap.size) (ok := fun k_ => (((some k_ ≠ (.slice Ao26 t339.length co26 : Value).ownBlock ∧ some k_ ≠ (.slice Ao32 t320.length co32 : Value).ownBlock) ∧ some k_ ≠ (.slice Ao115 t344.length co115 : Value).ownBlock) ∧ some k_ ≠ (.slice Ao118 t351.length co118 : Value).ownBlock)) (n := t303.length) (c := co20) ?_).2.2; exact (by (with_reducible repeat (first | apply Kd.R_alloc | apply Kd.R_drewN | apply Kd.R_drew)); exact (Kd.R_mono (Kd.R_far (p := ⟨gb359, 4, none⟩) (Kd.R_far (p := ⟨gb359, 3, none⟩) (Kd.R_far (p := ⟨gb359, 2, none⟩) (Kd.R_far (p := ⟨gb359, 1, none⟩) (Kd.R_far (p := ⟨gb359, 0, none⟩) (Kd.R_types HO_312000.out BK359.out (by decide)) (fun _ hk => hk.2) (.slice Ao118 t351.length co118)) (fun _ hk => hk.2) (.int .i64 t354)) (fun _ hk => hk.2) (.int .i64 t355)) (fun _ hk => hk.2) (.int .i64 t356)) (fun _ hk => hk.2) (.int .i64 t357)) (fun _ h_ => h_.1)))); (case side4 => exact (Kd.R_reads' HO_312000.out).2.1); rintro e w135 ⟨rfl, hb⟩; refine ⟨_, rfl, ?_⟩; have n0_ := Aside0.mk (Kd.R_below (by (with_reducible repeat (first | apply Kd.R_alloc | apply Kd.R_drewN | apply Kd.R_drew)); exact (Kd.R_mono (Kd.R_far (p := ⟨gb359, 4, none⟩) (Kd.R_far (p := ⟨gb359, 3, none⟩) (Kd.R_far (p := ⟨gb359, 2, none⟩) (Kd.R_far (p := ⟨gb359, 1, none⟩) (Kd.R_far (p := ⟨gb359, 0, none⟩) (Kd.R_types HO_312000.out BK359.out (by decide)) (fun _ hk => hk.2) (.slice Ao118 t351.length co118)) (fun _ hk => hk.2) (.int .i64 t354)) (fun _ hk => hk.2) (.int .i64 t355)) (fun _ hk => hk.2) (.int .i64 t356)) (fun _ hk => hk.2) (.int .i64 t357)) (fun _ h_ => h_.1))) hb); have n1_ := Aside0.mk (Kd.R_below (by (with_reducible repeat (first | apply Kd.R_alloc | apply Kd.R_drewN | apply Kd.R_drew)); exact (Kd.R_mono (Kd.R_far (p := ⟨gb359, 4, none⟩) (Kd.R_far (p := ⟨gb359, 3, none⟩) (Kd.R_far (p := ⟨gb359, 2, none⟩) (Kd.R_far (p := ⟨gb359, 1, none⟩) (Kd.R_far (p := ⟨gb359, 0, none⟩) (Kd.R_types HO_320000.out BK359.out (by decide)) (fun _ hk => hk.2) (.slice Ao118 t351.length co118)) (fun _ hk => hk.2) (.int .i64 t354)) (fun _ hk => hk.2) (.int .i64 t355)) (fun _ hk => hk.2) (.int .i64 t356)) (fun _ hk => hk.2) (.int .i64 t357)) (fun _ h_ => h_.1))) hb); have n2_ := Aside0.mk (Kd.R_below (by (with_reducible repeat (first | apply Kd.R_alloc | apply Kd.R_drewN | apply Kd.R_drew)); exact (Kd.R_mono (Kd.R_far (p := ⟨gb359, 4, none⟩) (Kd.R_far (p := ⟨gb359, 3, none⟩) (Kd.R_far (p := ⟨gb359, 2, none⟩) (Kd.R_far (p := ⟨gb359, 1, none⟩) (Kd.R_far (p := ⟨gb359, 0, none⟩) (Kd.R_types HO_329000.out BK359.out (by decide)) (fun _ hk => hk.2) (.slice Ao118 t351.length co118)) (fun _ hk => hk.2) (.int .i64 t354)) (fun _ hk => hk.2) (.int .i64 t355)) (fun _ hk => hk.2) (.int .i64 t356)) (fun _ hk => hk.2) (.int .i64 t357)) (fun _ h_ => h_.1))) hb); have n3_ := Aside0.mk (Kd.R_below (by (with_reducible repeat (first | apply Kd.R_alloc | apply Kd.R_drewN | apply Kd.R_drew)); exact (Kd.R_mono (Kd.R_far (p := ⟨gb359, 4, none⟩) (Kd.R_far (p := ⟨gb359, 3, none⟩) (Kd.R_far (p := ⟨gb359, 2, none⟩) (Kd.R_far (p := ⟨gb359, 1, none⟩) (Kd.R_far (p := ⟨gb359, 0, none⟩) (Kd.R_types HO346.out BK359.out (by decide)) (fun _ hk => hk.2) (.slice Ao118 t351.length co118)) (fun _ hk => hk.2) (.int .i64 t354)) (fun _ hk => hk.2) (.int .i64 t355)) (fun _ hk => hk.2) (.int .i64 t356)) (fun _ hk => hk.2) (.int .i64 t357)) (fun _ h_ => h_.1))) hb); have n4_ := Aside0.mk (Kd.R_below (by (with_reducible repeat (first | apply Kd.R_alloc | apply Kd.R_drewN | apply Kd.R_drew)); exact (Kd.R_mono (Kd.R_far (p := ⟨gb359, 4, none⟩) (Kd.R_far (p := ⟨gb359, 3, none⟩) (Kd.R_far (p := ⟨gb359, 2, none⟩) (Kd.R_far (p := ⟨gb359, 1, none⟩) (Kd.R_far (p := ⟨gb359, 0, none⟩) (Kd.R_types HO353.out BK359.out (by decide)) (fun _ hk => hk.2) (.slice Ao118 t351.length co118)) (fun _ hk => hk.2) (.int .i64 t354)) (fun _ hk => hk.2) (.int .i64 t355)) (fun _ hk => hk.2) (.int .i64 t356)) (fun _ hk => hk.2) (.int .i64 t357)) (fun _ h_ => h_.1))) hb); have n5_ := Aside0.mk (blk_below (g := gb294) (o := .cells #[.slice A0_0 l0_0.length c0_0, .int .i64 a0_1, .int .i64 a0_2, .int .i64 a0_3, .int .i64 a0_4] 24 (0, 0)) (by refine bl_ ?_; refine blk_far ?_ NB294_359.out _; refine bl_ ?_; refine blk_far ?_ NB294_359.out _; refine bl_ ?_; refine blk_far ?_ NB294_359.out _; refine bl_ ?_; refine blk_far ?_ NB294_359.out _; refine bl_ ?_; refine blk_far ?_ NB294_359.out _; refine bl_ ?_; exact BK294.out) hb); have n6_ := Aside0.mk (blk_below (g := gb311) (o := .cells #[.slice Ao20 t303.length co20, .int .i64 t306, .int .i64 t307, .int .i64 t308, .int .i64 t309] 28 (0, 0)) (by refine bl_ ?_; refine blk_far ?_ NB311_359.out _; refine bl_ ?_; refine blk_far ?_ NB311_359.out _; refine bl_ ?_; refine blk_far ?_ NB311_359.out _; refine bl_ ?_; refine blk_far ?_ NB311_359.out _; refine bl_ ?_; refine blk_far ?_ NB311_359.out _; refine bl_ ?_; exact BK311.out) hb); have n7_ := Aside0.mk (blk_below (g := gb319) (o := .cells #[.slice Ao26 t339.length co26, .int .i64 t315, .int .i64 t316, .int .i64 t317, .int .i64 t318] 28 (0, 0)) (by refine bl_ ?_; refine blk_far ?_ NB319_359.out _; refine bl_ ?_; refine blk_far ?_ NB319_359.out _; refine bl_ ?_; refine blk_far ?_ NB319_359.out _; refine bl_ ?_; refine blk_far ?_ NB319_359.out _; refine bl_ ?_; refine blk_far ?_ NB319_359.out _; refine bl_ ?_; exact BK319.out) hb); have n8_ := Aside0.mk (blk_below (g := gb328) (o := .cells #[.slice Ao32 t320.length co32, .int .i64 t323, .int .i64 t324, .int .i64 t325, .int .i64 t326] 28 (0, 0)) (by refine bl_ ?_; refine blk_far ?_ NB328_359.out _; refine bl_ ?_; refine blk_far ?_ NB328_359.out _; refine bl_ ?_; refine blk_far ?_ NB328_359.out _; refine bl_ ?_; refine blk_far ?_ NB328_359.out _; refine bl_ ?_; refine blk_far ?_ NB328_359.out _; refine bl_ ?_; exact BK328.out) hb); have n9_ := Aside0.mk (blk_below (g := gb359) (o := .cells #[.slice Ao118 t351.length co118, .int .i64 t354, .int .i64 t355, .int .i64 t356, .int .i64 t357] 28 (0, 0)) (by refine bl_ ?_; refine blk_put (cs := #[.slice Ao118 t351.length co118, .int .i64 t354, .int .i64 t355, .int .i64 t356, .int .i64 0]) ?_ 4 _ rfl; refine bl_ ?_; refine blk_put (cs := #[.slice Ao118 t351.length co118, .int .i64 t354, .int .i64 t355, .int .i64 0, .int .i64 0]) ?_ 3 _ rfl; refine bl_ ?_; refine blk_put (cs := #[.slice Ao118 t351.length co118, .int .i64 t354, .int .i64 0, .int .i64 0, .int .i64 0]) ?_ 2 _ rfl; refine bl_ ?_; refine blk_put (cs := #[.slice Ao118 t351.length co118, .int .i64 0, .int .i64 0, .int .i64 0, .int .i64 0]) ?_ 1 _ rfl; refine bl_ ?_; refine blk_put (cs := #[.slice none 0 0, .int .i64 0, .int .i64 0, .int .i64 0, .int .i64 0]) ?_ 0 _ rfl; refine bl_ ?_; exact BK359.out) hb); have n10_ := Aside0.mk (below_step (be_ HB.out) hb); clear HO_312000 HO_320000 HO_329000 HO346 HO353 BK294 BK311 BK319 BK328 BK359 HB; have HO_312000 := n0_; have HO_320000 := n1_; have HO_329000 := n2_; have HO346 := n3_; have HO353 := n4_; have BK294 := n5_; have BK311 := n6_; have BK319 := n7_; have BK328 := n8_; have BK359 := n9_; have HB := n10_; clear n0_ n1_ n2_ n3_ n4_ n5_ n6_ n7_ n8_ n9_ n10_; (try clear hb); (try clear hb2); (try clear hk); (try clear hi)))
                          go_meet
                          case rel => exact ⟨_, ((t358 != t310)), (by first | rfl | (simp; done) | (simp [*]; done)), H', ⟨by have := HJ10.out; have := HJ59.out; first | omega | exact Nat.le_refl _⟩, ⟨by (try simp only [hl320000_59]); (with_reducible repeat (first | apply Kd.R_alloc | apply Kd.R_drewN | apply Kd.R_drew)); exact Kd.R_mono HO_312000.out (fun _ hk => ⟨hk.1.1.1, ⟨hk.1.1.2, hk.2⟩⟩)⟩, ⟨by (try simp only [hl320000_59]); (with_reducible repeat (first | apply Kd.R_alloc | apply Kd.R_drewN | apply Kd.R_drew)); exact Kd.R_mono HO_320000.out (fun _ hk => ⟨hk.1.1.1, ⟨hk.1.1.2, hk.2⟩⟩)⟩, ⟨by (try simp only [hl320000_59]); (with_reducible repeat (first | apply Kd.R_alloc | apply Kd.R_drewN | apply Kd.R_drew)); exact Kd.R_mono HO_329000.out (fun _ hk => ⟨hk.1.1.1, ⟨hk.1.1.2, hk.2⟩⟩)⟩, ⟨by (try simp only [hl320000_59]); (with_reducible repeat (first | apply Kd.R_alloc | apply Kd.R_drewN | apply Kd.R_drew)); exact Kd.R_mono HO353.out (fun _ hk => ⟨hk.1.1.1.2, ⟨hk.1.1.2, hk.1.2⟩⟩)⟩, ⟨by (try simp only [hl320000_59]); refine bl_ ?_; exact BK294.out⟩, ⟨by (try simp only [hl320000_59]); refine bl_ ?_; exact BK311.out⟩, ⟨by (try simp only [hl320000_59]); refine bl_ ?_; exact BK319.out⟩, ⟨by (try simp only [hl320000_59]); refine bl_ ?_; exact BK328.out⟩, ⟨by (try simp only [hl320000_59]); refine bl_ ?_; exact BK359.out⟩, ⟨be_ HB.out⟩⟩
                        · replace c125 := Bool.eq_false_iff.mpr c125
                          subst c125
                          have H1 : (laws_FnExactPopFront.j2 kj59 t341 true t342 t323 t324 t325 t326) = some r := by rw [if_neg (show ¬ (false = true) by decide)] at H; exact H
                          clear H
                          have H := H1
                          clear H1
                          have H' := Aside0.mk H
                          clear H
                          have hnb136 := NB359_294.out
                          have hnc136 := NB294_359.out
                          have hnb137 := NB359_311.out
                          have hnc137 := NB311_359.out
                          have hnb138 := NB359_319.out
                          have hnc138 := NB319_359.out
                          have hnb139 := NB359_328.out
                          have hnc139 := NB328_359.out
                          have hcz140_0 : w117.cell? ⟨gb359, 0, none⟩ = some (.slice none 0 0) := (blk_cell BK359.out 0).trans rfl
                          have hcz140_1 : w117.cell? ⟨gb359, 1, none⟩ = some (.int .i64 0) := (blk_cell BK359.out 1).trans rfl
                          have hcz140_2 : w117.cell? ⟨gb359, 2, none⟩ = some (.int .i64 0) := (blk_cell BK359.out 2).trans rfl
                          have hcz140_3 : w117.cell? ⟨gb359, 3, none⟩ = some (.int .i64 0) := (blk_cell BK359.out 3).trans rfl
                          have hcz140_4 : w117.cell? ⟨gb359, 4, none⟩ = some (.int .i64 0) := (blk_cell BK359.out 4).trans rfl
                          have hfz140_0 := blk_frozen BK359.out 0
                          have hfz140_1 := blk_frozen BK359.out 1
                          have hfz140_2 := blk_frozen BK359.out 2
                          have hfz140_3 := blk_frozen BK359.out 3
                          have hfz140_4 := blk_frozen BK359.out 4
                          have hnb141 := NB311_294.out
                          have hnc141 := NB294_311.out
                          have hnb142 := NB311_319.out
                          have hnc142 := NB319_311.out
                          have hnb143 := NB311_328.out
                          have hnc143 := NB328_311.out
                          have hcz144_0 : w117.cell? ⟨gb311, 0, none⟩ = some (.slice Ao20 t303.length co20) := (blk_cell BK311.out 0).trans rfl
                          have hcz144_1 : w117.cell? ⟨gb311, 1, none⟩ = some (.int .i64 t306) := (blk_cell BK311.out 1).trans rfl
                          have hcz144_2 : w117.cell? ⟨gb311, 2, none⟩ = some (.int .i64 t307) := (blk_cell BK311.out 2).trans rfl
                          have hcz144_3 : w117.cell? ⟨gb311, 3, none⟩ = some (.int .i64 t308) := (blk_cell BK311.out 3).trans rfl
                          have hcz144_4 : w117.cell? ⟨gb311, 4, none⟩ = some (.int .i64 t309) := (blk_cell BK311.out 4).trans rfl
                          have hfz144_0 := blk_frozen BK311.out 0
                          have hfz144_1 := blk_frozen BK311.out 1
                          have hfz144_2 := blk_frozen BK311.out 2
                          have hfz144_3 := blk_frozen BK311.out 3
                          have hfz144_4 := blk_frozen BK311.out 4
                          go_wp2_with (first | ((with_reducible refine gate_callee (f := 17) rfl ?_); refine goesL_ (some 81) rfl rfl Try.func17 (by kernel_rfl) rfl #[.agg #[.slice Ao118 t351.length co118, .int .i64 t354, .int .i64 t355, .int .i64 t356, .int .i64 t357], .agg #[.slice Ao20 t303.length co20, .int .i64 t306, .int .i64 t307, .int .i64 t308, .int .i64 t309]] rfl (by (try simp only [List.map_toArray, List.map_cons, List.map_nil]); first | done | rfl | (simp only [List.length_drop, List.length_take]; rfl)) ?_; (with_reducible refine (laws_eqQueue.calls kj59 _ _ t351 t354 t355 t356 t357 _ _ t303 t306 t307 t308 t309 false _ ?side1 ?side2 ?side3 ?side4 A124.out).mono ?_); (case side1 => refine (Kd.R_reads' (e := 65) (base := w.heap.size) (ok := fun k_ => ((((True ∧ some k_ ≠ (.slice Ao20 t303.length co20 : Value).ownBlock) ∧ some k_ ≠ (.slice Ao26 t339.length co26 : Value).ownBlock) ∧ some k_ ≠ (.slice Ao32 t320.length co32 : Value).ownBlock) ∧ some k_ ≠ (.slice Ao115 t344.length co115 : Value).ownBlock)) (n := t351.length) (c := co118) ?_).2.2; exact (by (with_reducible repeat (first | apply Kd.R_alloc | apply Kd.R_drewN | apply Kd.R_drew)); exact (Kd.R_mono (Kd.R_far (p := ⟨gb359, 4, none⟩) (Kd.R_far (p := ⟨gb359, 3, none⟩) (Kd.R_far (p := ⟨gb359, 2, none⟩) (Kd.R_far (p := ⟨gb359, 1, none⟩) (Kd.R_far (p := ⟨gb359, 0, none⟩) (Kd.R_types HO353.out BK359.out (by decide)) (fun _ hk => hk.2) (.slice Ao118 t351.length co118)) (fun _ hk => hk.2) (.int .i64 t354)) (fun _ hk => hk.2) (.int .i64 t355)) (fun _ hk => hk.2) (.int .i64 t356)) (fun _ hk => hk.2) (.int .i64 t357)) (fun _ h_ => h_.1)))); (case side2 => exact (Kd.R_reads' HO353.out).2.1); (case side3 => refine (Kd.R_reads' (e := 65) (base := w.heap.size) (ok := fun k_ => (((some k_ ≠ (.slice Ao26 t339.length co26 : Value).ownBlock ∧ some k_ ≠ (.slice Ao32 t320.length co32 : Value).ownBlock) ∧ some k_ ≠ (.slice Ao115 t344.length co115 : Value).ownBlock) ∧ some k_ ≠ (.slice Ao118 t351.length co118 : Value).ownBlock)) (n := t303.length) (c := co20) ?_).2.2; exact (by (with_reducible repeat (first | apply Kd.R_alloc | apply Kd.R_drewN | apply Kd.R_drew)); exact (Kd.R_mono (Kd.R_far (p := ⟨gb359, 4, none⟩) (Kd.R_far (p := ⟨gb359, 3, none⟩) (Kd.R_far (p := ⟨gb359, 2, none⟩) (Kd.R_far (p := ⟨gb359, 1, none⟩) (Kd.R_far (p := ⟨gb359, 0, none⟩) (Kd.R_types HO_312000.out BK359.out (by decide)) (fun _ hk => hk.2) (.slice Ao118 t351.length co118)) (fun _ hk => hk.2) (.int .i64 t354)) (fun _ hk => hk.2) (.int .i64 t355)) (fun _ hk => hk.2) (.int .i64 t356)) (fun _ hk => hk.2) (.int .i64 t357)) (fun _ h_ => h_.1)))); (case side4 => exact (Kd.R_reads' HO_312000.out).2.1); rintro e w145 ⟨rfl, hb⟩; refine ⟨_, rfl, ?_⟩; have n0_ := Aside0.mk (Kd.R_below (by (with_reducible repeat (first | apply Kd.R_alloc | apply Kd.R_drewN | apply Kd.R_drew)); exact (Kd.R_mono (Kd.R_far (p := ⟨gb359, 4, none⟩) (Kd.R_far (p := ⟨gb359, 3, none⟩) (Kd.R_far (p := ⟨gb359, 2, none⟩) (Kd.R_far (p := ⟨gb359, 1, none⟩) (Kd.R_far (p := ⟨gb359, 0, none⟩) (Kd.R_types HO_312000.out BK359.out (by decide)) (fun _ hk => hk.2) (.slice Ao118 t351.length co118)) (fun _ hk => hk.2) (.int .i64 t354)) (fun _ hk => hk.2) (.int .i64 t355)) (fun _ hk => hk.2) (.int .i64 t356)) (fun _ hk => hk.2) (.int .i64 t357)) (fun _ h_ => h_.1))) hb); have n1_ := Aside0.mk (Kd.R_below (by (with_reducible repeat (first | apply Kd.R_alloc | apply Kd.R_drewN | apply Kd.R_drew)); exact (Kd.R_mono (Kd.R_far (p := ⟨gb359, 4, none⟩) (Kd.R_far (p := ⟨gb359, 3, none⟩) (Kd.R_far (p := ⟨gb359, 2, none⟩) (Kd.R_far (p := ⟨gb359, 1, none⟩) (Kd.R_far (p := ⟨gb359, 0, none⟩) (Kd.R_types HO_320000.out BK359.out (by decide)) (fun _ hk => hk.2) (.slice Ao118 t351.length co118)) (fun _ hk => hk.2) (.int .i64 t354)) (fun _ hk => hk.2) (.int .i64 t355)) (fun _ hk => hk.2) (.int .i64 t356)) (fun _ hk => hk.2) (.int .i64 t357)) (fun _ h_ => h_.1))) hb); have n2_ := Aside0.mk (Kd.R_below (by (with_reducible repeat (first | apply Kd.R_alloc | apply Kd.R_drewN | apply Kd.R_drew)); exact (Kd.R_mono (Kd.R_far (p := ⟨gb359, 4, none⟩) (Kd.R_far (p := ⟨gb359, 3, none⟩) (Kd.R_far (p := ⟨gb359, 2, none⟩) (Kd.R_far (p := ⟨gb359, 1, none⟩) (Kd.R_far (p := ⟨gb359, 0, none⟩) (Kd.R_types HO_329000.out BK359.out (by decide)) (fun _ hk => hk.2) (.slice Ao118 t351.length co118)) (fun _ hk => hk.2) (.int .i64 t354)) (fun _ hk => hk.2) (.int .i64 t355)) (fun _ hk => hk.2) (.int .i64 t356)) (fun _ hk => hk.2) (.int .i64 t357)) (fun _ h_ => h_.1))) hb); have n3_ := Aside0.mk (Kd.R_below (by (with_reducible repeat (first | apply Kd.R_alloc | apply Kd.R_drewN | apply Kd.R_drew)); exact (Kd.R_mono (Kd.R_far (p := ⟨gb359, 4, none⟩) (Kd.R_far (p := ⟨gb359, 3, none⟩) (Kd.R_far (p := ⟨gb359, 2, none⟩) (Kd.R_far (p := ⟨gb359, 1, none⟩) (Kd.R_far (p := ⟨gb359, 0, none⟩) (Kd.R_types HO346.out BK359.out (by decide)) (fun _ hk => hk.2) (.slice Ao118 t351.length co118)) (fun _ hk => hk.2) (.int .i64 t354)) (fun _ hk => hk.2) (.int .i64 t355)) (fun _ hk => hk.2) (.int .i64 t356)) (fun _ hk => hk.2) (.int .i64 t357)) (fun _ h_ => h_.1))) hb); have n4_ := Aside0.mk (Kd.R_below (by (with_reducible repeat (first | apply Kd.R_alloc | apply Kd.R_drewN | apply Kd.R_drew)); exact (Kd.R_mono (Kd.R_far (p := ⟨gb359, 4, none⟩) (Kd.R_far (p := ⟨gb359, 3, none⟩) (Kd.R_far (p := ⟨gb359, 2, none⟩) (Kd.R_far (p := ⟨gb359, 1, none⟩) (Kd.R_far (p := ⟨gb359, 0, none⟩) (Kd.R_types HO353.out BK359.out (by decide)) (fun _ hk => hk.2) (.slice Ao118 t351.length co118)) (fun _ hk => hk.2) (.int .i64 t354)) (fun _ hk => hk.2) (.int .i64 t355)) (fun _ hk => hk.2) (.int .i64 t356)) (fun _ hk => hk.2) (.int .i64 t357)) (fun _ h_ => h_.1))) hb); have n5_ := Aside0.mk (blk_below (g := gb294) (o := .cells #[.slice A0_0 l0_0.length c0_0, .int .i64 a0_1, .int .i64 a0_2, .int .i64 a0_3, .int .i64 a0_4] 24 (0, 0)) (by refine bl_ ?_; refine blk_far ?_ NB294_359.out _; refine bl_ ?_; refine blk_far ?_ NB294_359.out _; refine bl_ ?_; refine blk_far ?_ NB294_359.out _; refine bl_ ?_; refine blk_far ?_ NB294_359.out _; refine bl_ ?_; refine blk_far ?_ NB294_359.out _; refine bl_ ?_; exact BK294.out) hb); have n6_ := Aside0.mk (blk_below (g := gb311) (o := .cells #[.slice Ao20 t303.length co20, .int .i64 t306, .int .i64 t307, .int .i64 t308, .int .i64 t309] 28 (0, 0)) (by refine bl_ ?_; refine blk_far ?_ NB311_359.out _; refine bl_ ?_; refine blk_far ?_ NB311_359.out _; refine bl_ ?_; refine blk_far ?_ NB311_359.out _; refine bl_ ?_; refine blk_far ?_ NB311_359.out _; refine bl_ ?_; refine blk_far ?_ NB311_359.out _; refine bl_ ?_; exact BK311.out) hb); have n7_ := Aside0.mk (blk_below (g := gb319) (o := .cells #[.slice Ao26 t339.length co26, .int .i64 t315, .int .i64 t316, .int .i64 t317, .int .i64 t318] 28 (0, 0)) (by refine bl_ ?_; refine blk_far ?_ NB319_359.out _; refine bl_ ?_; refine blk_far ?_ NB319_359.out _; refine bl_ ?_; refine blk_far ?_ NB319_359.out _; refine bl_ ?_; refine blk_far ?_ NB319_359.out _; refine bl_ ?_; refine blk_far ?_ NB319_359.out _; refine bl_ ?_; exact BK319.out) hb); have n8_ := Aside0.mk (blk_below (g := gb328) (o := .cells #[.slice Ao32 t320.length co32, .int .i64 t323, .int .i64 t324, .int .i64 t325, .int .i64 t326] 28 (0, 0)) (by refine bl_ ?_; refine blk_far ?_ NB328_359.out _; refine bl_ ?_; refine blk_far ?_ NB328_359.out _; refine bl_ ?_; refine blk_far ?_ NB328_359.out _; refine bl_ ?_; refine blk_far ?_ NB328_359.out _; refine bl_ ?_; refine blk_far ?_ NB328_359.out _; refine bl_ ?_; exact BK328.out) hb); have n9_ := Aside0.mk (blk_below (g := gb359) (o := .cells #[.slice Ao118 t351.length co118, .int .i64 t354, .int .i64 t355, .int .i64 t356, .int .i64 t357] 28 (0, 0)) (by refine bl_ ?_; refine blk_put (cs := #[.slice Ao118 t351.length co118, .int .i64 t354, .int .i64 t355, .int .i64 t356, .int .i64 0]) ?_ 4 _ rfl; refine bl_ ?_; refine blk_put (cs := #[.slice Ao118 t351.length co118, .int .i64 t354, .int .i64 t355, .int .i64 0, .int .i64 0]) ?_ 3 _ rfl; refine bl_ ?_; refine blk_put (cs := #[.slice Ao118 t351.length co118, .int .i64 t354, .int .i64 0, .int .i64 0, .int .i64 0]) ?_ 2 _ rfl; refine bl_ ?_; refine blk_put (cs := #[.slice Ao118 t351.length co118, .int .i64 0, .int .i64 0, .int .i64 0, .int .i64 0]) ?_ 1 _ rfl; refine bl_ ?_; refine blk_put (cs := #[.slice none 0 0, .int .i64 0, .int .i64 0, .int .i64 0, .int .i64 0]) ?_ 0 _ rfl; refine bl_ ?_; exact BK359.out) hb); have n10_ := Aside0.mk (below_step (be_ HB.out) hb); clear HO_312000 HO_320000 HO_329000 HO346 HO353 BK294 BK311 BK319 BK328 BK359 HB; have HO_312000 := n0_; have HO_320000 := n1_; have HO_329000 := n2_; have HO346 := n3_; have HO353 := n4_; have BK294 := n5_; have BK311 := n6_; have BK319 := n7_; have BK328 := n8_; have BK359 := n9_; have HB := n10_; clear n0_ n1_ n2_ n3_ n4_ n5_ n6_ n7_ n8_ n9_ n10_; (try clear hb); (try clear hb2); (try clear hk); (try clear hi)))
                          go_meet
                          case rel => exact ⟨_, (true), (by first | rfl | (simp; done) | (simp [*]; done)), H', ⟨by have := HJ10.out; have := HJ59.out; first | omega | exact Nat.le_refl _⟩, ⟨by (try simp only [hl320000_59]); (with_reducible repeat (first | apply Kd.R_alloc | apply Kd.R_drewN | apply Kd.R_drew)); exact Kd.R_mono HO_312000.out (fun _ hk => ⟨hk.1.1.1, ⟨hk.1.1.2, hk.2⟩⟩)⟩, ⟨by (try simp only [hl320000_59]); (with_reducible repeat (first | apply Kd.R_alloc | apply Kd.R_drewN | apply Kd.R_drew)); exact Kd.R_mono HO_320000.out (fun _ hk => ⟨hk.1.1.1, ⟨hk.1.1.2, hk.2⟩⟩)⟩, ⟨by (try simp only [hl320000_59]); (with_reducible repeat (first | apply Kd.R_alloc | apply Kd.R_drewN | apply Kd.R_drew)); exact Kd.R_mono HO_329000.out (fun _ hk => ⟨hk.1.1.1, ⟨hk.1.1.2, hk.2⟩⟩)⟩, ⟨by (try simp only [hl320000_59]); (with_reducible repeat (first | apply Kd.R_alloc | apply Kd.R_drewN | apply Kd.R_drew)); exact Kd.R_mono HO353.out (fun _ hk => ⟨hk.1.1.1.2, ⟨hk.1.1.2, hk.1.2⟩⟩)⟩, ⟨by (try simp only [hl320000_59]); refine bl_ ?_; exact BK294.out⟩, ⟨by (try simp only [hl320000_59]); refine bl_ ?_; exact BK311.out⟩, ⟨by (try simp only [hl320000_59]); refine bl_ ?_; exact BK319.out⟩, ⟨by (try simp only [hl320000_59]); refine bl_ ?_; exact BK328.out⟩, ⟨by (try simp only [hl320000_59]); refine bl_ ?_; exact BK359.out⟩, ⟨be_ HB.out⟩⟩
                      case rest =>
                        clear HC103
                        try clear c1
                        try clear c2
                        try clear p2
                        try clear c3
                        try clear c3b0
                        try clear c4
                        try clear c5
                        try clear c6
                        try clear c7
                        try clear c8
                        try clear c9
                        try clear c10
                        try clear c11
                        try clear c12
                        try clear c13
                        try clear c14
                        try clear c15
                        try clear c16
                        try clear c17
                        try clear c18
                        try clear c19
                        try clear c21
                        try clear c27
                        try clear c28
                        try clear c33
                        try clear c34
                        try clear c35
                        try clear c38
                        try clear c39
                        try clear c40
                        try clear c41
                        try clear c43
                        try clear c44
                        try clear c47
                        try clear c48
                        try clear c49
                        try clear c51
                        try clear c52
                        try clear c55
                        try clear c58
                        try clear c65
                        try clear c66
                        try clear c67
                        try clear c70
                        try clear c70b0
                        try clear c72
                        try clear c73
                        try clear c74
                        try clear c75
                        try clear c77
                        try clear c78
                        try clear c81
                        try clear c82
                        try clear c83
                        try clear c85
                        try clear c86
                        try clear c89
                        try clear c92
                        try clear c92b0
                        try clear c93
                        try clear c94
                        try clear c95
                        try clear c100
                        try clear c100b0
                        try clear c100b1
                        try clear c104
                        try clear c105
                        try clear c106
                        try clear c111
                        try clear c112
                        try clear c119
                        try clear c120
                        try clear c121
                        try clear c122
                        try clear c125
                        try clear c126
                        try clear c127
                        try clear c128
                        try clear c129
                        try clear c131
                        try clear c132
                        try clear c133
                        try clear c136
                        try clear c137
                        try clear c138
                        try clear c139
                        try clear c141
                        try clear c142
                        try clear c143
                        try clear hcz107_0
                        try clear hcz107_1
                        try clear hcz107_2
                        try clear hcz107_3
                        try clear hcz107_4
                        try clear hcz109_0
                        try clear hcz109_1
                        try clear hcz109_2
                        try clear hcz109_3
                        try clear hcz109_4
                        try clear hcz113_0
                        try clear hcz113_1
                        try clear hcz113_2
                        try clear hcz113_3
                        try clear hcz113_4
                        try clear hcz123_0
                        try clear hcz123_1
                        try clear hcz123_2
                        try clear hcz123_3
                        try clear hcz123_4
                        try clear hcz130_0
                        try clear hcz130_1
                        try clear hcz130_2
                        try clear hcz130_3
                        try clear hcz130_4
                        try clear hcz134_0
                        try clear hcz134_1
                        try clear hcz134_2
                        try clear hcz134_3
                        try clear hcz134_4
                        try clear hcz13_0
                        try clear hcz13_1
                        try clear hcz13_2
                        try clear hcz13_3
                        try clear hcz13_4
                        try clear hcz140_0
                        try clear hcz140_1
                        try clear hcz140_2
                        try clear hcz140_3
                        try clear hcz140_4
                        try clear hcz144_0
                        try clear hcz144_1
                        try clear hcz144_2
                        try clear hcz144_3
                        try clear hcz144_4
                        try clear hcz15_0
                        try clear hcz15_1
                        try clear hcz15_2
                        try clear hcz15_3
                        try clear hcz15_4
                        try clear hcz22_0
                        try clear hcz22_1
                        try clear hcz22_2
                        try clear hcz22_3
                        try clear hcz22_4
                        try clear hcz23_0
                        try clear hcz23_1
                        try clear hcz23_2
                        try clear hcz23_3
                        try clear hcz23_4
                        try clear hcz29_0
                        try clear hcz29_1
                        try clear hcz29_2
                        try clear hcz29_3
                        try clear hcz29_4
                        try clear hcz36_0
                        try clear hcz36_1
                        try clear hcz36_2
                        try clear hcz36_3
                        try clear hcz36_4
                        try clear hcz42_0
                        try clear hcz42_1
                        try clear hcz42_2
                        try clear hcz42_3
                        try clear hcz42_4
                        try clear hcz45_0
                        try clear hcz45_1
                        try clear hcz45_2
                        try clear hcz45_3
                        try clear hcz45_4
                        try clear hcz50_0
                        try clear hcz50_1
                        try clear hcz50_2
                        try clear hcz50_3
                        try clear hcz50_4
                        try clear hcz53_0
                        try clear hcz53_1
                        try clear hcz53_2
                        try clear hcz53_3
                        try clear hcz53_4
                        try clear hcz5_0
                        try clear hcz5_1
                        try clear hcz5_2
                        try clear hcz5_3
                        try clear hcz5_4
                        try clear hcz68_0
                        try clear hcz68_1
                        try clear hcz68_2
                        try clear hcz68_3
                        try clear hcz68_4
                        try clear hcz76_0
                        try clear hcz76_1
                        try clear hcz76_2
                        try clear hcz76_3
                        try clear hcz76_4
                        try clear hcz79_0
                        try clear hcz79_1
                        try clear hcz79_2
                        try clear hcz79_3
                        try clear hcz79_4
                        try clear hcz84_0
                        try clear hcz84_1
                        try clear hcz84_2
                        try clear hcz84_3
                        try clear hcz84_4
                        try clear hcz87_0
                        try clear hcz87_1
                        try clear hcz87_2
                        try clear hcz87_3
                        try clear hcz87_4
                        try clear hcz96_0
                        try clear hcz96_1
                        try clear hcz96_2
                        try clear hcz96_3
                        try clear hcz96_4
                        try clear hcz98_0
                        try clear hcz98_1
                        try clear hcz98_2
                        try clear hcz98_3
                        try clear hcz98_4
                        try clear hfz107_0
                        try clear hfz107_1
                        try clear hfz107_2
                        try clear hfz107_3
                        try clear hfz107_4
                        try clear hfz109_0
                        try clear hfz109_1
                        try clear hfz109_2
                        try clear hfz109_3
                        try clear hfz109_4
                        try clear hfz113_0
                        try clear hfz113_1
                        try clear hfz113_2
                        try clear hfz113_3
                        try clear hfz113_4
                        try clear hfz123_0
                        try clear hfz123_1
                        try clear hfz123_2
                        try clear hfz123_3
                        try clear hfz123_4
                        try clear hfz130_0
                        try clear hfz130_1
                        try clear hfz130_2
                        try clear hfz130_3
                        try clear hfz130_4
                        try clear hfz134_0
                        try clear hfz134_1
                        try clear hfz134_2
                        try clear hfz134_3
                        try clear hfz134_4
                        try clear hfz13_0
                        try clear hfz13_1
                        try clear hfz13_2
                        try clear hfz13_3
                        try clear hfz13_4
                        try clear hfz140_0
                        try clear hfz140_1
                        try clear hfz140_2
                        try clear hfz140_3
                        try clear hfz140_4
                        try clear hfz144_0
                        try clear hfz144_1
                        try clear hfz144_2
                        try clear hfz144_3
                        try clear hfz144_4
                        try clear hfz15_0
                        try clear hfz15_1
                        try clear hfz15_2
                        try clear hfz15_3
                        try clear hfz15_4
                        try clear hfz22_0
                        try clear hfz22_1
                        try clear hfz22_2
                        try clear hfz22_3
                        try clear hfz22_4
                        try clear hfz23_0
                        try clear hfz23_1
                        try clear hfz23_2
                        try clear hfz23_3
                        try clear hfz23_4
                        try clear hfz29_0
                        try clear hfz29_1
                        try clear hfz29_2
                        try clear hfz29_3
                        try clear hfz29_4
                        try clear hfz36_0
                        try clear hfz36_1
                        try clear hfz36_2
                        try clear hfz36_3
                        try clear hfz36_4
                        try clear hfz42_0
                        try clear hfz42_1
                        try clear hfz42_2
                        try clear hfz42_3
                        try clear hfz42_4
                        try clear hfz45_0
                        try clear hfz45_1
                        try clear hfz45_2
                        try clear hfz45_3
                        try clear hfz45_4
                        try clear hfz50_0
                        try clear hfz50_1
                        try clear hfz50_2
                        try clear hfz50_3
                        try clear hfz50_4
                        try clear hfz53_0
                        try clear hfz53_1
                        try clear hfz53_2
                        try clear hfz53_3
                        try clear hfz53_4
                        try clear hfz5_0
                        try clear hfz5_1
                        try clear hfz5_2
                        try clear hfz5_3
                        try clear hfz5_4
                        try clear hfz68_0
                        try clear hfz68_1
                        try clear hfz68_2
                        try clear hfz68_3
                        try clear hfz68_4
                        try clear hfz76_0
                        try clear hfz76_1
                        try clear hfz76_2
                        try clear hfz76_3
                        try clear hfz76_4
                        try clear hfz79_0
                        try clear hfz79_1
                        try clear hfz79_2
                        try clear hfz79_3
                        try clear hfz79_4
                        try clear hfz84_0
                        try clear hfz84_1
                        try clear hfz84_2
                        try clear hfz84_3
                        try clear hfz84_4
                        try clear hfz87_0
                        try clear hfz87_1
                        try clear hfz87_2
                        try clear hfz87_3
                        try clear hfz87_4
                        try clear hfz96_0
                        try clear hfz96_1
                        try clear hfz96_2
                        try clear hfz96_3
                        try clear hfz96_4
                        try clear hfz98_0
                        try clear hfz98_1
                        try clear hfz98_2
                        try clear hfz98_3
                        try clear hfz98_4
                        try clear p2
                        obtain ⟨kq, x87_102, rfl, HA, HJ102, HO_312000, HO_320000, HO_329000, HO_360000, BK294, BK311, BK319, BK328, BK359, HB⟩ := hcut
                        have hl329000_102 := (Kd.R_reads' HO_329000.out).1
                        rw [hl329000_102] at HO_329000
                        (try simp only [hl329000_102])
                        (try simp only [hl329000_102] at BK294)
                        (try simp only [hl329000_102] at BK311)
                        (try simp only [hl329000_102] at BK319)
                        (try simp only [hl329000_102] at BK328)
                        (try simp only [hl329000_102] at BK359)
                        (try simp only [hl329000_102] at HO_312000)
                        (try simp only [hl329000_102] at HO_320000)
                        (try simp only [hl329000_102] at HO_360000)
                        cases kq with
                        | zero => exact absurd HA.out (by simp [laws_FnExactPopFront.j2])
                        | succ kj102 =>
                          have H := HA.out
                          clear HA
                          simp only [laws_FnExactPopFront.j2] at H
                          by_cases c146 : x87_102 = true
                          · subst c146
                            have H1 : (some false) = some r := by rw [if_pos rfl] at H; exact H
                            clear H
                            have H := H1
                            clear H1
                            obtain rfl := Option.some.inj H
                            go_wp2
                            go_ret
                            exact ⟨by first | rfl | (simp [errW_none, errW_some] <;> rfl) | (simp [*, errW_none, errW_some] <;> rfl), be_ HB.out⟩
                          · replace c146 := Bool.eq_false_iff.mpr c146
                            subst c146
                            have H1 : ((laws_heldQueue.f kj102 t342 t323 t324 t325 t326 1).bind fun t361 => (if t361 < 0 then (some false) else (if t361 = t341 then (some true) else (some false)))) = some r := by rw [if_neg (show ¬ (false = true) by decide)] at H; exact H
                            clear H
                            have H := H1
                            clear H1
                            replace H := Option.bind_eq_some_iff.mp H
                            obtain ⟨t361, A1470, H⟩ := H
                            replace H : (if t361 < 0 then (some false) else (if t361 = t341 then (some true) else (some false))) = some r := H
                            have A147 := Aside0.mk A1470
                            clear A1470
                            by_cases c148 : t361 < 0
                            · rw [if_pos c148] at H
                              have c148b0 : decide (t361 < 0) = true := decide_eq_true c148
                              clear c148
                              obtain rfl := Option.some.inj H
                              have hnb149 := NB328_294.out
                              have hnc149 := NB294_328.out
                              have hnb150 := NB328_311.out
                              have hnc150 := NB311_328.out
                              have hnb151 := NB328_319.out
                              have hnc151 := NB319_328.out
                              have hnb152 := NB328_359.out
                              have hnc152 := NB359_328.out
                              have hcz153_0 : wc.cell? ⟨gb328, 0, none⟩ = some (.slice Ao32 t342.length co32) := (blk_cell BK328.out 0).trans rfl
                              have hcz153_1 : wc.cell? ⟨gb328, 1, none⟩ = some (.int .i64 t323) := (blk_cell BK328.out 1).trans rfl
                              have hcz153_2 : wc.cell? ⟨gb328, 2, none⟩ = some (.int .i64 t324) := (blk_cell BK328.out 2).trans rfl
                              have hcz153_3 : wc.cell? ⟨gb328, 3, none⟩ = some (.int .i64 t325) := (blk_cell BK328.out 3).trans rfl
                              have hcz153_4 : wc.cell? ⟨gb328, 4, none⟩ = some (.int .i64 t326) := (blk_cell BK328.out 4).trans rfl
                              have hfz153_0 := blk_frozen BK328.out 0
                              have hfz153_1 := blk_frozen BK328.out 1
                              have hfz153_2 := blk_frozen BK328.out 2
                              have hfz153_3 := blk_frozen BK328.out 3
                              have hfz153_4 := blk_frozen BK328.out 4
                              go_wp2_with (first | ((with_reducible refine gate_callee (f := 19) rfl ?_); refine goesL_ (some 90) rfl rfl Try.func19 (by kernel_rfl) rfl #[.agg #[.slice Ao32 t342.length co32, .int .i64 t323, .int .i64 t324, .int .i64 t325, .int .i64 t326], .int .i64 1] rfl (by (try simp only [List.map_toArray, List.map_cons, List.map_nil]); first | done | rfl | (simp only [List.length_drop, List.length_take]; rfl)) ?_; (with_reducible refine (laws_heldQueue.calls kj102 _ _ t342 t323 t324 t325 t326 1 t361 _ ?side1 ?side2 A147.out).mono ?_); (case side1 => repeat (first | exact (Kd.R_reads' HO_329000.out).2.2 | (with_reducible refine Kd.C_alloc ?_ _) | (with_reducible refine Kd.C_drewN ?_ _) | (with_reducible refine Kd.C_drew ?_))); (case side2 => exact (Kd.R_reads' HO_329000.out).2.1); rintro e w154 ⟨rfl, hb⟩; refine ⟨_, rfl, ?_⟩; have n0_ := Aside0.mk (Kd.R_below (ro_ HO_312000.out) hb); have n1_ := Aside0.mk (Kd.R_below (ro_ HO_320000.out) hb); have n2_ := Aside0.mk (Kd.R_below (ro_ HO_329000.out) hb); have n3_ := Aside0.mk (Kd.R_below (ro_ HO_360000.out) hb); have n4_ := Aside0.mk (blk_below (g := gb294) (o := .cells #[.slice A0_0 l0_0.length c0_0, .int .i64 a0_1, .int .i64 a0_2, .int .i64 a0_3, .int .i64 a0_4] 24 (0, 0)) (bl_ BK294.out) hb); have n5_ := Aside0.mk (blk_below (g := gb311) (o := .cells #[.slice Ao20 t303.length co20, .int .i64 t306, .int .i64 t307, .int .i64 t308, .int .i64 t309] 28 (0, 0)) (bl_ BK311.out) hb); have n6_ := Aside0.mk (blk_below (g := gb319) (o := .cells #[.slice Ao26 t339.length co26, .int .i64 t315, .int .i64 t316, .int .i64 t317, .int .i64 t318] 28 (0, 0)) (bl_ BK319.out) hb); have n7_ := Aside0.mk (blk_below (g := gb328) (o := .cells #[.slice Ao32 t342.length co32, .int .i64 t323, .int .i64 t324, .int .i64 t325, .int .i64 t326] 28 (0, 0)) (bl_ BK328.out) hb); have n8_ := Aside0.mk (blk_below (g := gb359) (o := .cells #[.slice Ao118 t351.length co118, .int .i64 t354, .int .i64 t355, .int .i64 t356, .int .i64 t357] 28 (0, 0)) (bl_ BK359.out) hb); have n9_ := Aside0.mk (below_step (be_ HB.out) hb); clear HO_312000 HO_320000 HO_329000 HO_360000 BK294 BK311 BK319 BK328 BK359 HB; have HO_312000 := n0_; have HO_320000 := n1_; have HO_329000 := n2_; have HO_360000 := n3_; have BK294 := n4_; have BK311 := n5_; have BK319 := n6_; have BK328 := n7_; have BK359 := n8_; have HB := n9_; clear n0_ n1_ n2_ n3_ n4_ n5_ n6_ n7_ n8_ n9_; (try clear hb); (try clear hb2); (try clear hk); (try clear hi)))
                              go_ret
                              exact ⟨by first | rfl | (simp [errW_none, errW_some] <;> rfl) | (simp [*, errW_none, errW_some] <;> rfl), be_ HB.out⟩
                            · rw [if_neg c148] at H
                              have c148b0 : decide (t361 < 0) = false := decide_eq_false c148
                              clear c148
                              by_cases c155 : t361 = t341
                              · rw [if_pos c155] at H
                                have c155b0 : (t361 == t341) = true := beq_iff_eq.mpr c155
                                have c155b1 : (t361 != t341) = false := bne_eq_false_iff_eq.mpr c155
                                clear c155
                                obtain rfl := Option.some.inj H
                                have hnb156 := NB328_294.out
                                have hnc156 := NB294_328.out
                                have hnb157 := NB328_311.out
                                have hnc157 := NB311_328.out
                                have hnb158 := NB328_319.out
                                have hnc158 := NB319_328.out
                                have hnb159 := NB328_359.out
                                have hnc159 := NB359_328.out
                                have hcz160_0 : wc.cell? ⟨gb328, 0, none⟩ = some (.slice Ao32 t342.length co32) := (blk_cell BK328.out 0).trans rfl
                                have hcz160_1 : wc.cell? ⟨gb328, 1, none⟩ = some (.int .i64 t323) := (blk_cell BK328.out 1).trans rfl
                                have hcz160_2 : wc.cell? ⟨gb328, 2, none⟩ = some (.int .i64 t324) := (blk_cell BK328.out 2).trans rfl
                                have hcz160_3 : wc.cell? ⟨gb328, 3, none⟩ = some (.int .i64 t325) := (blk_cell BK328.out 3).trans rfl
                                have hcz160_4 : wc.cell? ⟨gb328, 4, none⟩ = some (.int .i64 t326) := (blk_cell BK328.out 4).trans rfl
                                have hfz160_0 := blk_frozen BK328.out 0
                                have hfz160_1 := blk_frozen BK328.out 1
                                have hfz160_2 := blk_frozen BK328.out 2
                                have hfz160_3 := blk_frozen BK328.out 3
                                have hfz160_4 := blk_frozen BK328.out 4
                                go_wp2_with (first | ((with_reducible refine gate_callee (f := 19) rfl ?_); refine goesL_ (some 90) rfl rfl Try.func19 (by kernel_rfl) rfl #[.agg #[.slice Ao32 t342.length co32, .int .i64 t323, .int .i64 t324, .int .i64 t325, .int .i64 t326], .int .i64 1] rfl (by (try simp only [List.map_toArray, List.map_cons, List.map_nil]); first | done | rfl | (simp only [List.length_drop, List.length_take]; rfl)) ?_; (with_reducible refine (laws_heldQueue.calls kj102 _ _ t342 t323 t324 t325 t326 1 t361 _ ?side1 ?side2 A147.out).mono ?_); (case side1 => repeat (first | exact (Kd.R_reads' HO_329000.out).2.2 | (with_reducible refine Kd.C_alloc ?_ _) | (with_reducible refine Kd.C_drewN ?_ _) | (with_reducible refine Kd.C_drew ?_))); (case side2 => exact (Kd.R_reads' HO_329000.out).2.1); rintro e w161 ⟨rfl, hb⟩; refine ⟨_, rfl, ?_⟩; have n0_ := Aside0.mk (Kd.R_below (ro_ HO_312000.out) hb); have n1_ := Aside0.mk (Kd.R_below (ro_ HO_320000.out) hb); have n2_ := Aside0.mk (Kd.R_below (ro_ HO_329000.out) hb); have n3_ := Aside0.mk (Kd.R_below (ro_ HO_360000.out) hb); have n4_ := Aside0.mk (blk_below (g := gb294) (o := .cells #[.slice A0_0 l0_0.length c0_0, .int .i64 a0_1, .int .i64 a0_2, .int .i64 a0_3, .int .i64 a0_4] 24 (0, 0)) (bl_ BK294.out) hb); have n5_ := Aside0.mk (blk_below (g := gb311) (o := .cells #[.slice Ao20 t303.length co20, .int .i64 t306, .int .i64 t307, .int .i64 t308, .int .i64 t309] 28 (0, 0)) (bl_ BK311.out) hb); have n6_ := Aside0.mk (blk_below (g := gb319) (o := .cells #[.slice Ao26 t339.length co26, .int .i64 t315, .int .i64 t316, .int .i64 t317, .int .i64 t318] 28 (0, 0)) (bl_ BK319.out) hb); have n7_ := Aside0.mk (blk_below (g := gb328) (o := .cells #[.slice Ao32 t342.length co32, .int .i64 t323, .int .i64 t324, .int .i64 t325, .int .i64 t326] 28 (0, 0)) (bl_ BK328.out) hb); have n8_ := Aside0.mk (blk_below (g := gb359) (o := .cells #[.slice Ao118 t351.length co118, .int .i64 t354, .int .i64 t355, .int .i64 t356, .int .i64 t357] 28 (0, 0)) (bl_ BK359.out) hb); have n9_ := Aside0.mk (below_step (be_ HB.out) hb); clear HO_312000 HO_320000 HO_329000 HO_360000 BK294 BK311 BK319 BK328 BK359 HB; have HO_312000 := n0_; have HO_320000 := n1_; have HO_329000 := n2_; have HO_360000 := n3_; have BK294 := n4_; have BK311 := n5_; have BK319 := n6_; have BK328 := n7_; have BK359 := n8_; have HB := n9_; clear n0_ n1_ n2_ n3_ n4_ n5_ n6_ n7_ n8_ n9_; (try clear hb); (try clear hb2); (try clear hk); (try clear hi)))
                                go_ret
                                exact ⟨by first | rfl | (simp [errW_none, errW_some] <;> rfl) | (simp [*, errW_none, errW_some] <;> rfl), be_ HB.out⟩
                              · rw [if_neg c155] at H
                                have c155b0 : (t361 == t341) = false := beq_eq_false_iff_ne.mpr c155
                                have c155b1 : (t361 != t341) = true := bne_iff_ne.mpr c155
                                obtain rfl := Option.some.inj H
                                have hnb162 := NB328_294.out
                                have hnc162 := NB294_328.out
                                have hnb163 := NB328_311.out
                                have hnc163 := NB311_328.out
                                have hnb164 := NB328_319.out
                                have hnc164 := NB319_328.out
                                have hnb165 := NB328_359.out
                                have hnc165 := NB359_328.out
                                have hcz166_0 : wc.cell? ⟨gb328, 0, none⟩ = some (.slice Ao32 t342.length co32) := (blk_cell BK328.out 0).trans rfl
                                have hcz166_1 : wc.cell? ⟨gb328, 1, none⟩ = some (.int .i64 t323) := (blk_cell BK328.out 1).trans rfl
                                have hcz166_2 : wc.cell? ⟨gb328, 2, none⟩ = some (.int .i64 t324) := (blk_cell BK328.out 2).trans rfl
                                have hcz166_3 : wc.cell? ⟨gb328, 3, none⟩ = some (.int .i64 t325) := (blk_cell BK328.out 3).trans rfl
                                have hcz166_4 : wc.cell? ⟨gb328, 4, none⟩ = some (.int .i64 t326) := (blk_cell BK328.out 4).trans rfl
                                have hfz166_0 := blk_frozen BK328.out 0
                                have hfz166_1 := blk_frozen BK328.out 1
                                have hfz166_2 := blk_frozen BK328.out 2
                                have hfz166_3 := blk_frozen BK328.out 3
                                have hfz166_4 := blk_frozen BK328.out 4
                                go_wp2_with (first | ((with_reducible refine gate_callee (f := 19) rfl ?_); refine goesL_ (some 90) rfl rfl Try.func19 (by kernel_rfl) rfl #[.agg #[.slice Ao32 t342.length co32, .int .i64 t323, .int .i64 t324, .int .i64 t325, .int .i64 t326], .int .i64 1] rfl (by (try simp only [List.map_toArray, List.map_cons, List.map_nil]); first | done | rfl | (simp only [List.length_drop, List.length_take]; rfl)) ?_; (with_reducible refine (laws_heldQueue.calls kj102 _ _ t342 t323 t324 t325 t326 1 t361 _ ?side1 ?side2 A147.out).mono ?_); (case side1 => repeat (first | exact (Kd.R_reads' HO_329000.out).2.2 | (with_reducible refine Kd.C_alloc ?_ _) | (with_reducible refine Kd.C_drewN ?_ _) | (with_reducible refine Kd.C_drew ?_))); (case side2 => exact (Kd.R_reads' HO_329000.out).2.1); rintro e w167 ⟨rfl, hb⟩; refine ⟨_, rfl, ?_⟩; have n0_ := Aside0.mk (Kd.R_below (ro_ HO_312000.out) hb); have n1_ := Aside0.mk (Kd.R_below (ro_ HO_320000.out) hb); have n2_ := Aside0.mk (Kd.R_below (ro_ HO_329000.out) hb); have n3_ := Aside0.mk (Kd.R_below (ro_ HO_360000.out) hb); have n4_ := Aside0.mk (blk_below (g := gb294) (o := .cells #[.slice A0_0 l0_0.length c0_0, .int .i64 a0_1, .int .i64 a0_2, .int .i64 a0_3, .int .i64 a0_4] 24 (0, 0)) (bl_ BK294.out) hb); have n5_ := Aside0.mk (blk_below (g := gb311) (o := .cells #[.slice Ao20 t303.length co20, .int .i64 t306, .int .i64 t307, .int .i64 t308, .int .i64 t309] 28 (0, 0)) (bl_ BK311.out) hb); have n6_ := Aside0.mk (blk_below (g := gb319) (o := .cells #[.slice Ao26 t339.length co26, .int .i64 t315, .int .i64 t316, .int .i64 t317, .int .i64 t318] 28 (0, 0)) (bl_ BK319.out) hb); have n7_ := Aside0.mk (blk_below (g := gb328) (o := .cells #[.slice Ao32 t342.length co32, .int .i64 t323, .int .i64 t324, .int .i64 t325, .int .i64 t326] 28 (0, 0)) (bl_ BK328.out) hb); have n8_ := Aside0.mk (blk_below (g := gb359) (o := .cells #[.slice Ao118 t351.length co118, .int .i64 t354, .int .i64 t355, .int .i64 t356, .int .i64 t357] 28 (0, 0)) (bl_ BK359.out) hb); have n9_ := Aside0.mk (below_step (be_ HB.out) hb); clear HO_312000 HO_320000 HO_329000 HO_360000 BK294 BK311 BK319 BK328 BK359 HB; have HO_312000 := n0_; have HO_320000 := n1_; have HO_329000 := n2_; have HO_360000 := n3_; have BK294 := n4_; have BK311 := n5_; have BK319 := n6_; have BK328 := n7_; have BK359 := n8_; have HB := n9_; clear n0_ n1_ n2_ n3_ n4_ n5_ n6_ n7_ n8_ n9_; (try clear hb); (try clear hb2); (try clear hk); (try clear hi)))
                                go_ret
                                exact ⟨by first | rfl | (simp [errW_none, errW_some] <;> rfl) | (simp [*, errW_none, errW_some] <;> rfl), be_ HB.out⟩
                    · rw [if_neg c100] at H
                      have c100b0 : (t343 == t341) = false := beq_eq_false_iff_ne.mpr c100
                      have c100b1 : (t343 != t341) = true := bne_iff_ne.mpr c100
                      obtain rfl := Option.some.inj H
                      have hnb168 := NB328_294.out
                      have hnc168 := NB294_328.out
                      have hnb169 := NB328_311.out
                      have hnc169 := NB311_328.out
                      have hnb170 := NB328_319.out
                      have hnc170 := NB319_328.out
                      have hcz171_0 : wc.cell? ⟨gb328, 0, none⟩ = some (.slice Ao32 t320.length co32) := (blk_cell BK328.out 0).trans rfl
                      have hcz171_1 : wc.cell? ⟨gb328, 1, none⟩ = some (.int .i64 t323) := (blk_cell BK328.out 1).trans rfl
                      have hcz171_2 : wc.cell? ⟨gb328, 2, none⟩ = some (.int .i64 t324) := (blk_cell BK328.out 2).trans rfl
                      have hcz171_3 : wc.cell? ⟨gb328, 3, none⟩ = some (.int .i64 t325) := (blk_cell BK328.out 3).trans rfl
                      have hcz171_4 : wc.cell? ⟨gb328, 4, none⟩ = some (.int .i64 t326) := (blk_cell BK328.out 4).trans rfl
                      have hfz171_0 := blk_frozen BK328.out 0
                      have hfz171_1 := blk_frozen BK328.out 1
                      have hfz171_2 := blk_frozen BK328.out 2
                      have hfz171_3 := blk_frozen BK328.out 3
                      have hfz171_4 := blk_frozen BK328.out 4
                      go_wp2_with (first | ((with_reducible refine gate_callee (f := 18) rfl ?_); refine goesL_ (some 64) rfl rfl Try.func18 (by kernel_rfl) rfl #[.agg #[.slice Ao32 t320.length co32, .int .i64 t323, .int .i64 t324, .int .i64 t325, .int .i64 t326], .int .i64 1] rfl (by (try simp only [List.map_toArray, List.map_cons, List.map_nil]); first | done | rfl | (simp only [List.length_drop, List.length_take]; rfl)) ?_; (with_reducible refine (laws_markQueue.calls kj59 (fun k_ => some k_ = (.slice Ao32 t320.length co32 : Value).ownBlock) (.slice Ao32 t320.length co32) t320 t323 t324 t325 t326 1 t341 t342 w _ ?side1 ?side2 A90.out).mono ?_); (case side1 => exact be_ HB.out); (case side2 => exact Kd.R_tight rfl HO_329000.out); rintro e w172 ⟨rfl, hy0, hb, hkp⟩; refine ⟨_, rfl, ?_⟩; have n0_ := Aside0.mk (Kd.R_mono (ok' := fun k_ => some k_ ≠ (.slice Ao26 t339.length co26 : Value).ownBlock ∧ some k_ ≠ (.slice Ao32 t320.length co32 : Value).ownBlock) (Kd.R_keptB (HO_312000.out) hkp rn_) rm_); have n1_ := Aside0.mk (Kd.R_mono (ok' := fun k_ => some k_ ≠ (.slice Ao20 t303.length co20 : Value).ownBlock ∧ some k_ ≠ (.slice Ao32 t320.length co32 : Value).ownBlock) (Kd.R_keptB (HO_320000.out) hkp rn_) rm_); have n2_ := Aside0.mk (Kd.R_reok rfl hy0 (fun k_ e_ => HO_329000.out.1 k_ e_)); have n3_ := Aside0.mk (blk_kept (bl_ BK294.out) hkp (fun hs_ => (fun e_ => (Kd.R_ne HO_329000.out BK294.out (by decide)) e_) hs_)); have n4_ := Aside0.mk (blk_kept (bl_ BK311.out) hkp (fun hs_ => (fun e_ => (Kd.R_ne HO_329000.out BK311.out (by decide)) e_) hs_)); have n5_ := Aside0.mk (blk_kept (bl_ BK319.out) hkp (fun hs_ => (fun e_ => (Kd.R_ne HO_329000.out BK319.out (by decide)) e_) hs_)); have n6_ := Aside0.mk (blk_kept (bl_ BK328.out) hkp (fun hs_ => (fun e_ => (Kd.R_ne HO_329000.out BK328.out (by decide)) e_) hs_)); have n7_ := Aside0.mk (hb); clear HO_312000 HO_320000 HO_329000 BK294 BK311 BK319 BK328 HB; have HO_312000 := n0_; have HO_320000 := n1_; have HO_329000 := n2_; have BK294 := n3_; have BK311 := n4_; have BK319 := n5_; have BK328 := n6_; have HB := n7_; clear n0_ n1_ n2_ n3_ n4_ n5_ n6_ n7_; (try clear hb); (try clear hkp); (try clear hy0); obtain ⟨hcz173_0, hcz173_1, hcz173_2, hcz173_3, hcz173_4, hfz173_0, hfz173_1, hfz173_2, hfz173_3, hfz173_4⟩ := cz5_ BK328.out) | ((with_reducible refine gate_callee (f := 19) rfl ?_); refine goesL_ (some 67) rfl rfl Try.func19 (by kernel_rfl) rfl #[.agg #[.slice Ao32 t342.length co32, .int .i64 t323, .int .i64 t324, .int .i64 t325, .int .i64 t326], .int .i64 1] rfl (by (try simp only [List.map_toArray, List.map_cons, List.map_nil]); first | done | (rw [show t342.length = t320.length from (Kd.R_reads' HO_329000.out).1.symm] <;> rfl) | rfl | (simp only [List.length_drop, List.length_take]; rfl)) ?_; (with_reducible refine (laws_heldQueue.calls kj59 _ _ t342 t323 t324 t325 t326 1 t343 _ ?side1 ?side2 A91.out).mono ?_); (case side1 => repeat (first | exact (Kd.R_reads' HO_329000.out).2.2 | (with_reducible refine Kd.C_alloc ?_ _) | (with_reducible refine Kd.C_drewN ?_ _) | (with_reducible refine Kd.C_drew ?_))); (case side2 => rw [show t342.length = t320.length from (Kd.R_reads' HO_329000.out).1.symm]; exact (Kd.R_reads' HO_329000.out).2.1); rintro e w174 ⟨rfl, hb⟩; refine ⟨_, rfl, ?_⟩; have n0_ := Aside0.mk (Kd.R_below (ro_ HO_312000.out) hb); have n1_ := Aside0.mk (Kd.R_below (ro_ HO_320000.out) hb); have n2_ := Aside0.mk (Kd.R_below (ro_ HO_329000.out) hb); have n3_ := Aside0.mk (blk_below (g := gb294) (o := .cells #[.slice A0_0 l0_0.length c0_0, .int .i64 a0_1, .int .i64 a0_2, .int .i64 a0_3, .int .i64 a0_4] 24 (0, 0)) (bl_ BK294.out) hb); have n4_ := Aside0.mk (blk_below (g := gb311) (o := .cells #[.slice Ao20 t303.length co20, .int .i64 t306, .int .i64 t307, .int .i64 t308, .int .i64 t309] 28 (0, 0)) (bl_ BK311.out) hb); have n5_ := Aside0.mk (blk_below (g := gb319) (o := .cells #[.slice Ao26 t339.length co26, .int .i64 t315, .int .i64 t316, .int .i64 t317, .int .i64 t318] 28 (0, 0)) (bl_ BK319.out) hb); have n6_ := Aside0.mk (blk_below (g := gb328) (o := .cells #[.slice Ao32 t320.length co32, .int .i64 t323, .int .i64 t324, .int .i64 t325, .int .i64 t326] 28 (0, 0)) (bl_ BK328.out) hb); have n7_ := Aside0.mk (below_step (be_ HB.out) hb); clear HO_312000 HO_320000 HO_329000 BK294 BK311 BK319 BK328 HB; have HO_312000 := n0_; have HO_320000 := n1_; have HO_329000 := n2_; have BK294 := n3_; have BK311 := n4_; have BK319 := n5_; have BK328 := n6_; have HB := n7_; clear n0_ n1_ n2_ n3_ n4_ n5_ n6_ n7_; (try clear hb); (try clear hb2); (try clear hk); (try clear hi)))
                      go_ret
                      exact ⟨by first | rfl | (simp [errW_none, errW_some] <;> rfl) | (simp [*, errW_none, errW_some] <;> rfl), be_ HB.out⟩
          · replace c58 := Bool.eq_false_iff.mpr c58
            subst c58
            have H1 : (some false) = some r := by rw [if_neg (show ¬ (false = true) by decide)] at H; exact H
            clear H
            have H := H1
            clear H1
            obtain rfl := Option.some.inj H
            try go_wp2
            have n0_ := Aside0.mk (Kd.R_drew HO_312000.out)
            have n1_ := Aside0.mk (Kd.R_drew HO_320000.out)
            have n2_ := Aside0.mk (Kd.R_drew HO_329000.out)
            have n3_ := Aside0.mk (blk_drew BK294.out)
            have n4_ := Aside0.mk (blk_drew BK311.out)
            have n5_ := Aside0.mk (blk_drew BK319.out)
            have n6_ := Aside0.mk (blk_drew BK328.out)
            have n7_ := Aside0.mk (below_drew1 HB.out)
            clear HO_312000
            clear HO_320000
            clear HO_329000
            clear BK294
            clear BK311
            clear BK319
            clear BK328
            clear HB
            have HO_312000 := n0_
            have HO_320000 := n1_
            have HO_329000 := n2_
            have BK294 := n3_
            have BK311 := n4_
            have BK319 := n5_
            have BK328 := n6_
            have HB := n7_
            clear n0_ n1_ n2_ n3_ n4_ n5_ n6_ n7_
            refine start_ (n := 5) (S := fun w' => w'.cell? ⟨gb319, 0, none⟩ = some (.slice Ao26 t312.length co26) ∧ w'.cell? ⟨gb319, 1, none⟩ = some (.int .i64 t315) ∧ w'.cell? ⟨gb319, 2, none⟩ = some (.int .i64 t316) ∧ w'.cell? ⟨gb319, 3, none⟩ = some (.int .i64 t317) ∧ w'.cell? ⟨gb319, 4, none⟩ = some (.int .i64 t318) ∧ w'.cell? ⟨gb294, 0, none⟩ = some (.slice A0_0 l0_0.length c0_0) ∧ w'.cell? ⟨gb294, 1, none⟩ = some (.int .i64 a0_1) ∧ w'.cell? ⟨gb294, 2, none⟩ = some (.int .i64 a0_2) ∧ w'.cell? ⟨gb294, 3, none⟩ = some (.int .i64 a0_3) ∧ w'.cell? ⟨gb294, 4, none⟩ = some (.int .i64 a0_4)) (ds := []) #[false, false, false, false, false] (by kernel_rfl) rfl rfl ⟨(blk_cell BK319.out 0).trans rfl, (blk_cell BK319.out 1).trans rfl, (blk_cell BK319.out 2).trans rfl, (blk_cell BK319.out 3).trans rfl, (blk_cell BK319.out 4).trans rfl, (blk_cell BK294.out 0).trans rfl, (blk_cell BK294.out 1).trans rfl, (blk_cell BK294.out 2).trans rfl, (blk_cell BK294.out 3).trans rfl, (blk_cell BK294.out 4).trans rfl⟩ (fun hHeld => ?_)
            generalize wc.drew = w175 at HO_312000 HO_320000 HO_329000 BK294 BK311 BK319 BK328 HB hHeld ⊢
            refine take_ (i := 0) (N := some 41) (v := ?_) (a' := ?_) #[true, false, false, false, false] rfl rfl (by kernel_rfl) (fun _ _ _ h => h) (Or.inl ⟨by rfl, ?_⟩) hHeld ?_ ?_
            rotate_left
            · rintro w' ⟨s0, s1, s2, s3, s4, s5, s6, s7, s8, s9⟩
              go_simp
              with_reducible rfl
            rotate_left
            · simp only [Act.put, List.setIfInBounds_toArray, List.set_cons_zero, List.set_cons_succ, i64_w, i32_w]
              rfl
            refine take_ (i := 1) (N := some 42) (v := ?_) (a' := ?_) #[true, true, false, false, false] rfl rfl (by kernel_rfl) (fun _ _ _ h => h) (Or.inl ⟨by rfl, ?_⟩) hHeld ?_ ?_
            rotate_left
            · rintro w' ⟨s0, s1, s2, s3, s4, s5, s6, s7, s8, s9⟩
              go_simp
              with_reducible rfl
            rotate_left
            · simp only [Act.put, List.setIfInBounds_toArray, List.set_cons_zero, List.set_cons_succ, i64_w, i32_w]
              rfl
            refine one_ (i := 2) (N := some 43) #[true, true, true, false, false] rfl rfl (by kernel_rfl) (by decide) (fun K hK => ?_)
            refine goes_ Try.func15 (by kernel_rfl) rfl #[.agg #[.slice A0_0 l0_0.length c0_0, .int .i64 a0_1, .int .i64 a0_2, .int .i64 a0_3, .int .i64 a0_4]] (by rfl) rfl rfl (by (try simp only [List.map_toArray, List.map_cons, List.map_nil]); first | done | rfl | (simp only [List.length_drop, List.length_take]; rfl)) ?_
            with_reducible refine (laws_toQueue.calls kj10 _ _ l0_0 a0_1 a0_2 a0_3 a0_4 t330 t333 t334 t335 t336 _ ?side1 ?side2 A56.out).mono ?_
            (case side1 => repeat (first | exact (Kd.C_below HR0_0.out HB.out) | (with_reducible refine Kd.C_alloc ?_ _) | (with_reducible refine Kd.C_drewN ?_ _) | (with_reducible refine Kd.C_drew ?_)))
            (case side2 => exact HC0_0.out)
            rintro e w176 ⟨v331, rfl, ho0, hb⟩
            refine ⟨_, rfl, ?_⟩
            have n0_ := Aside0.mk (Kd.R_elder' (ro_ HO_312000.out) (Kd.R_base ho0) hb)
            have n1_ := Aside0.mk (Kd.R_elder' (ro_ HO_320000.out) (Kd.R_base ho0) hb)
            have n2_ := Aside0.mk (Kd.R_elder' (ro_ HO_329000.out) (Kd.R_base ho0) hb)
            have n3_ := Aside0.mk (Kd.R_lower (Kd.R_new' (Kd.R_new' (Kd.R_new' ho0 (Kd.R_lt (ro_ HO_312000.out))) (Kd.R_lt (ro_ HO_320000.out))) (Kd.R_lt (ro_ HO_329000.out))) (below_size (be_ HB.out)))
            have n4_ := Aside0.mk (blk_below (g := gb294) (o := .cells #[.slice A0_0 l0_0.length c0_0, .int .i64 a0_1, .int .i64 a0_2, .int .i64 a0_3, .int .i64 a0_4] 24 (0, 0)) (bl_ BK294.out) hb)
            have n5_ := Aside0.mk (blk_below (g := gb311) (o := .cells #[.slice Ao20 t303.length co20, .int .i64 t306, .int .i64 t307, .int .i64 t308, .int .i64 t309] 28 (0, 0)) (bl_ BK311.out) hb)
            have n6_ := Aside0.mk (blk_below (g := gb319) (o := .cells #[.slice Ao26 t312.length co26, .int .i64 t315, .int .i64 t316, .int .i64 t317, .int .i64 t318] 28 (0, 0)) (bl_ BK319.out) hb)
            have n7_ := Aside0.mk (blk_below (g := gb328) (o := .cells #[.slice Ao32 t320.length co32, .int .i64 t323, .int .i64 t324, .int .i64 t325, .int .i64 t326] 28 (0, 0)) (bl_ BK328.out) hb)
            have n8_ := Aside0.mk (below_step (be_ HB.out) hb)
            clear HO_312000
            clear HO_320000
            clear HO_329000
            clear BK294
            clear BK311
            clear BK319
            clear BK328
            clear HB
            have HO_312000 := n0_
            have HO_320000 := n1_
            have HO_329000 := n2_
            have HO332 := n3_
            have BK294 := n4_
            have BK311 := n5_
            have BK319 := n6_
            have BK328 := n7_
            have HB := n8_
            clear n0_ n1_ n2_ n3_ n4_ n5_ n6_ n7_ n8_
            (try clear hb)
            (try clear hb2)
            (try clear hk)
            (try clear hi)
            (try clear ho0)
            obtain ⟨Ao177, co177, eo177⟩ := Kd.R_slice HO332.out
            (first | subst eo177 | (injection eo177 with f1_ f2_ f3_; have f4_ := f1_.symm; have f5_ := f3_.symm; clear f1_ f2_ f3_; subst f4_; subst f5_))
            refine hK.out _ _ ⟨(blk_cell BK319.out 0).trans rfl, (blk_cell BK319.out 1).trans rfl, (blk_cell BK319.out 2).trans rfl, (blk_cell BK319.out 3).trans rfl, (blk_cell BK319.out 4).trans rfl, (blk_cell BK294.out 0).trans rfl, (blk_cell BK294.out 1).trans rfl, (blk_cell BK294.out 2).trans rfl, (blk_cell BK294.out 3).trans rfl, (blk_cell BK294.out 4).trans rfl⟩ (fun hHeld => ?_)
            clear hK K
            refine norm_ (a' := ?_) ?_ ?_
            rotate_left
            · show Act.put _ (some 43) _ = _
              simp only [Act.put, List.setIfInBounds_toArray, List.set_cons_zero, List.set_cons_succ, i64_w, i32_w]
              rfl
            refine one_ (i := 3) (N := some 44) #[true, true, true, true, false] rfl rfl (by kernel_rfl) (by decide) (fun K hK => ?_)
            refine goes_ Try.func17 (by kernel_rfl) rfl #[.agg #[.slice Ao26 t312.length co26, .int .i64 t315, .int .i64 t316, .int .i64 t317, .int .i64 t318], .agg #[.slice Ao177 t330.length co177, .int .i64 t333, .int .i64 t334, .int .i64 t335, .int .i64 t336]] (by rfl) rfl rfl (by (try simp only [List.map_toArray, List.map_cons, List.map_nil]); first | done | rfl | (simp only [List.length_drop, List.length_take]; rfl)) ?_
            with_reducible refine (laws_eqQueue.calls kj10 _ _ t312 t315 t316 t317 t318 _ _ t330 t333 t334 t335 t336 false _ ?side1 ?side2 ?side3 ?side4 A57.out).mono ?_
            (case side1 => repeat (first | exact (Kd.R_reads' HO_320000.out).2.2 | (with_reducible refine Kd.C_alloc ?_ _) | (with_reducible refine Kd.C_drewN ?_ _) | (with_reducible refine Kd.C_drew ?_)))
            (case side2 => exact (Kd.R_reads' HO_320000.out).2.1)
            (case side3 => repeat (first | exact (Kd.R_reads' HO332.out).2.2 | (with_reducible refine Kd.C_alloc ?_ _) | (with_reducible refine Kd.C_drewN ?_ _) | (with_reducible refine Kd.C_drew ?_)))
            (case side4 => exact (Kd.R_reads' HO332.out).2.1)
            rintro e w178 ⟨rfl, hb⟩
            refine ⟨_, rfl, ?_⟩
            have n0_ := Aside0.mk (Kd.R_below (ro_ HO_312000.out) hb)
            have n1_ := Aside0.mk (Kd.R_below (ro_ HO_320000.out) hb)
            have n2_ := Aside0.mk (Kd.R_below (ro_ HO_329000.out) hb)
            have n3_ := Aside0.mk (Kd.R_below (ro_ HO332.out) hb)
            have n4_ := Aside0.mk (blk_below (g := gb294) (o := .cells #[.slice A0_0 l0_0.length c0_0, .int .i64 a0_1, .int .i64 a0_2, .int .i64 a0_3, .int .i64 a0_4] 24 (0, 0)) (bl_ BK294.out) hb)
            have n5_ := Aside0.mk (blk_below (g := gb311) (o := .cells #[.slice Ao20 t303.length co20, .int .i64 t306, .int .i64 t307, .int .i64 t308, .int .i64 t309] 28 (0, 0)) (bl_ BK311.out) hb)
            have n6_ := Aside0.mk (blk_below (g := gb319) (o := .cells #[.slice Ao26 t312.length co26, .int .i64 t315, .int .i64 t316, .int .i64 t317, .int .i64 t318] 28 (0, 0)) (bl_ BK319.out) hb)
            have n7_ := Aside0.mk (blk_below (g := gb328) (o := .cells #[.slice Ao32 t320.length co32, .int .i64 t323, .int .i64 t324, .int .i64 t325, .int .i64 t326] 28 (0, 0)) (bl_ BK328.out) hb)
            have n8_ := Aside0.mk (below_step (be_ HB.out) hb)
            clear HO_312000
            clear HO_320000
            clear HO_329000
            clear HO332
            clear BK294
            clear BK311
            clear BK319
            clear BK328
            clear HB
            have HO_312000 := n0_
            have HO_320000 := n1_
            have HO_329000 := n2_
            have HO332 := n3_
            have BK294 := n4_
            have BK311 := n5_
            have BK319 := n6_
            have BK328 := n7_
            have HB := n8_
            clear n0_ n1_ n2_ n3_ n4_ n5_ n6_ n7_ n8_
            (try clear hb)
            (try clear hb2)
            (try clear hk)
            (try clear hi)
            refine hK.out _ _ ⟨(blk_cell BK319.out 0).trans rfl, (blk_cell BK319.out 1).trans rfl, (blk_cell BK319.out 2).trans rfl, (blk_cell BK319.out 3).trans rfl, (blk_cell BK319.out 4).trans rfl, (blk_cell BK294.out 0).trans rfl, (blk_cell BK294.out 1).trans rfl, (blk_cell BK294.out 2).trans rfl, (blk_cell BK294.out 3).trans rfl, (blk_cell BK294.out 4).trans rfl⟩ (fun hHeld => ?_)
            clear hK K
            refine norm_ (a' := ?_) ?_ ?_
            rotate_left
            · show Act.put _ (some 44) _ = _
              simp only [Act.put, List.setIfInBounds_toArray, List.set_cons_zero, List.set_cons_succ, i64_w, i32_w]
              rfl
            refine pure_ (i := 4) (N := some 45) (v := ?_) (a' := ?_) #[true, true, true, true, true] rfl rfl (by kernel_rfl) (fun _ _ _ h => h) (Or.inl ⟨by rfl, ?_⟩) ?_ ?_
            rotate_left
            · intro w'
              go_simp
              with_reducible rfl
            rotate_left
            · simp only [Act.put, List.setIfInBounds_toArray, List.set_cons_zero, List.set_cons_succ, i64_w, i32_w]
              rfl
            refine done_ (by kernel_rfl) ?_
            try go_wp2
            go_ret
            exact ⟨by first | rfl | (simp [errW_none, errW_some] <;> rfl) | (simp [*, errW_none, errW_some] <;> rfl), be_ HB.out⟩

end Go.Proofs.Ytgpgkedbanmheaa.MFnExactPopFront
