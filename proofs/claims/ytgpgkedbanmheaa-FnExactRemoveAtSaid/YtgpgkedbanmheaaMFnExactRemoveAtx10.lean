-- Written by a program of this session over the kit's print, with stand-ins for the functions that the print leaves; Lean checks it.
import Derived.Test.YtgpgkedbanmheaaMFnExactRemoveAtx0
import Derived.Test.YtgpgkedbanmheaaMFnExactRemoveAtx1
import Derived.Test.YtgpgkedbanmheaaMFnExactRemoveAtx2
import Derived.Test.YtgpgkedbanmheaaMFnExactRemoveAtx5
import Derived.Test.YtgpgkedbanmheaaMFnExactRemoveAtx9
namespace Go.Proofs.Ytgpgkedbanmheaa.MFnExactRemoveAt
open Go.RowKit Go.Proofs.YtgpgkedbanmheaaW.PrintWords Go.Proofs.YtgpgkedbanmheaaW.PrintLast Go.Proofs.YtgpgkedbanmheaaW.PrintMore
attribute [local go_sem] max2_int min2_int max_two min_two max_three min_three max_four min_four   -- for this text's walks alone
set_option linter.unusedVariables false
set_option linter.unusedSimpArgs false

/-! ### laws_FnExactRemoveAt: function 12 -/
mutual
def laws_FnExactRemoveAt.j0 : Nat → Int → Int → Int → Bool → List (S75) → Int → Int → Int → Int → List (S65) → Int → Int → Int → Int → List (S65) → Int → Int → Int → Int → List (S65) → Int → Int → Int → Int → Option (Bool)
  | 0, _, _, _, _, _, _, _, _, _, _, _, _, _, _, _, _, _, _, _, _, _, _, _, _ => none
  | k + 1, x1, x7, x10, x44, x259000, x259001, x259002, x259003, x259004, x276000, x276001, x276002, x276003, x276004, x284000, x284001, x284002, x284003, x284004, x293000, x293001, x293002, x293003, x293004 => if x44 = true then (some false) else ((laws_toQueue.f k x259000 x259001 x259002 x259003 x259004).bind fun bt294 => ((laws_eqQueue.f k x284000 x284001 x284002 x284003 x284004 bt294.1 bt294.2.1 bt294.2.2.1 bt294.2.2.2.1 bt294.2.2.2.2).bind fun t301 => (if t301 = true then ((laws_markQueue.f k x284000 x284001 x284002 x284003 x284004 1).bind fun bt302 => (if bt302.1 < 0 then (laws_FnExactRemoveAt.j1 k x1 x7 true x259000 x259001 x259002 x259003 x259004 x276000 x276001 x276002 x276003 x276004 x293000 x293001 x293002 x293003 x293004) else ((laws_eqQueue.f k x293000 x293001 x293002 x293003 x293004 x276000 x276001 x276002 x276003 x276004).bind fun t304 => (if t304 = true then (laws_FnExactRemoveAt.j1 k x1 x7 (x10 != x7) x259000 x259001 x259002 x259003 x259004 x276000 x276001 x276002 x276003 x276004 x293000 x293001 x293002 x293003 x293004) else (laws_FnExactRemoveAt.j1 k x1 x7 true x259000 x259001 x259002 x259003 x259004 x276000 x276001 x276002 x276003 x276004 x293000 x293001 x293002 x293003 x293004))))) else (some false))))
def laws_FnExactRemoveAt.j1 : Nat → Int → Int → Bool → List (S75) → Int → Int → Int → Int → List (S65) → Int → Int → Int → Int → List (S65) → Int → Int → Int → Int → Option (Bool)
  | 0, _, _, _, _, _, _, _, _, _, _, _, _, _, _, _, _, _, _ => none
  | k + 1, x1, x7, x65, x259000, x259001, x259002, x259003, x259004, x276000, x276001, x276002, x276003, x276004, x293000, x293001, x293002, x293003, x293004 => if x65 = true then (some false) else ((laws_markQueue.f k x293000 x293001 x293002 x293003 x293004 1).bind fun bt305 => ((laws_heldQueue.f k bt305.2 x293001 x293002 x293003 x293004 1).bind fun t307 => (if t307 < 0 then (some false) else (if t307 = bt305.1 then ((laws_toQueue.f k x259000 x259001 x259002 x259003 x259004).bind fun bt308 => ((impl_RemoveAt.f k bt308.1 bt308.2.1 bt308.2.2.1 bt308.2.2.2.1 bt308.2.2.2.2 x1).bind fun bt315 => ((laws_eqQueue.f k bt315.1 bt315.2.1 bt315.2.2.1 bt315.2.2.2.1 bt315.2.2.2.2.1 x276000 x276001 x276002 x276003 x276004).bind fun t324 => (if t324 = true then (laws_FnExactRemoveAt.j2 k bt305.1 (bt315.2.2.2.2.2 != x7) bt305.2 x293001 x293002 x293003 x293004) else (laws_FnExactRemoveAt.j2 k bt305.1 true bt305.2 x293001 x293002 x293003 x293004))))) else (some false)))))
def laws_FnExactRemoveAt.j2 : Nat → Int → Bool → List (S65) → Int → Int → Int → Int → Option (Bool)
  | 0, _, _, _, _, _, _, _ => none
  | k + 1, x12, x92, x293000, x293001, x293002, x293003, x293004 => if x92 = true then (some false) else ((laws_heldQueue.f k x293000 x293001 x293002 x293003 x293004 1).bind fun t325 => (if t325 < 0 then (some false) else (if t325 = x12 then (some true) else (some false))))
end
def laws_FnExactRemoveAt.f (k : Nat) (l0_0 : List (S75)) (a0_1 : Int) (a0_2 : Int) (a0_3 : Int) (a0_4 : Int) (a1 : Int) : Option (Bool) := (laws_szQueue.f l0_0 a0_1 a0_2 a0_3 a0_4 1048576).bind fun t259 => (if t259 < 0 then (some true) else ((laws_toQueue.f k l0_0 a0_1 a0_2 a0_3 a0_4).bind fun bt260 => ((spec_RemoveAt.f k bt260.1 bt260.2.1 bt260.2.2.1 bt260.2.2.2.1 bt260.2.2.2.2 a1).bind fun bt267 => ((laws_toQueue.f k l0_0 a0_1 a0_2 a0_3 a0_4).bind fun bt276 => ((impl_RemoveAt.f k bt276.1 bt276.2.1 bt276.2.2.1 bt276.2.2.2.1 bt276.2.2.2.2 a1).bind fun bt284 => ((laws_eqQueue.f k bt284.1 bt284.2.1 bt284.2.2.1 bt284.2.2.2.1 bt284.2.2.2.2.1 bt267.1 bt267.2.1 bt267.2.2.1 bt267.2.2.2.1 bt267.2.2.2.2.1).bind fun t293 => (if t293 = true then (laws_FnExactRemoveAt.j0 k a1 bt267.2.2.2.2.2 bt284.2.2.2.2.2 (bt284.2.2.2.2.2 != bt267.2.2.2.2.2) l0_0 a0_1 a0_2 a0_3 a0_4 bt267.1 bt267.2.1 bt267.2.2.1 bt267.2.2.2.1 bt267.2.2.2.2.1 bt276.1 bt276.2.1 bt276.2.2.1 bt276.2.2.2.1 bt276.2.2.2.2 bt284.1 bt284.2.1 bt284.2.2.1 bt284.2.2.2.1 bt284.2.2.2.2.1) else (laws_FnExactRemoveAt.j0 k a1 bt267.2.2.2.2.2 bt284.2.2.2.2.2 true l0_0 a0_1 a0_2 a0_3 a0_4 bt267.1 bt267.2.1 bt267.2.2.1 bt267.2.2.2.1 bt267.2.2.2.2.1 bt276.1 bt276.2.1 bt276.2.2.1 bt276.2.2.2.1 bt276.2.2.2.2 bt284.1 bt284.2.1 bt284.2.2.1 bt284.2.2.2.1 bt284.2.2.2.2.1))))))))
theorem laws_FnExactRemoveAt.mono_l : ∀ k, (∀ y0 y1 y2 y3 y4 y5 y6 y7 y8 y9 y10 y11 y12 y13 y14 y15 y16 y17 y18 y19 y20 y21 y22 y23, LeO (laws_FnExactRemoveAt.j0 k y0 y1 y2 y3 y4 y5 y6 y7 y8 y9 y10 y11 y12 y13 y14 y15 y16 y17 y18 y19 y20 y21 y22 y23) (laws_FnExactRemoveAt.j0 (k + 1) y0 y1 y2 y3 y4 y5 y6 y7 y8 y9 y10 y11 y12 y13 y14 y15 y16 y17 y18 y19 y20 y21 y22 y23)) ∧ (∀ y0 y1 y2 y3 y4 y5 y6 y7 y8 y9 y10 y11 y12 y13 y14 y15 y16 y17, LeO (laws_FnExactRemoveAt.j1 k y0 y1 y2 y3 y4 y5 y6 y7 y8 y9 y10 y11 y12 y13 y14 y15 y16 y17) (laws_FnExactRemoveAt.j1 (k + 1) y0 y1 y2 y3 y4 y5 y6 y7 y8 y9 y10 y11 y12 y13 y14 y15 y16 y17)) ∧ (∀ y0 y1 y2 y3 y4 y5 y6, LeO (laws_FnExactRemoveAt.j2 k y0 y1 y2 y3 y4 y5 y6) (laws_FnExactRemoveAt.j2 (k + 1) y0 y1 y2 y3 y4 y5 y6))
  | 0 => ⟨fun _ _ _ _ _ _ _ _ _ _ _ _ _ _ _ _ _ _ _ _ _ _ _ _ r h => by simp [laws_FnExactRemoveAt.j0] at h, fun _ _ _ _ _ _ _ _ _ _ _ _ _ _ _ _ _ _ r h => by simp [laws_FnExactRemoveAt.j1] at h, fun _ _ _ _ _ _ _ r h => by simp [laws_FnExactRemoveAt.j2] at h⟩
  | k + 1 => by
    obtain ⟨ih0, ih1, ih2⟩ := laws_FnExactRemoveAt.mono_l k
    refine ⟨?_, ?_, ?_⟩
    · intro y0 y1 y2 y3 y4 y5 y6 y7 y8 y9 y10 y11 y12 y13 y14 y15 y16 y17 y18 y19 y20 y21 y22 y23
      unfold laws_FnExactRemoveAt.j0
      repeat' first
      | (with_reducible exact ih0 _ _ _ _ _ _ _ _ _ _ _ _ _ _ _ _ _ _ _ _ _ _ _ _)
      | (with_reducible exact ih1 _ _ _ _ _ _ _ _ _ _ _ _ _ _ _ _ _ _)
      | (with_reducible exact ih2 _ _ _ _ _ _ _)
      | (with_reducible exact impl_RemoveAt.mono _ _ _ _ _ _ _)
      | (with_reducible exact laws_eqQueue.mono _ _ _ _ _ _ _ _ _ _ _)
      | (with_reducible exact laws_heldQueue.mono _ _ _ _ _ _ _)
      | (with_reducible exact laws_markQueue.mono _ _ _ _ _ _ _)
      | (with_reducible exact laws_toQueue.mono _ _ _ _ _ _)
      | (with_reducible exact spec_RemoveAt.mono _ _ _ _ _ _ _)
      | (with_reducible exact LeO.refl _)
      | (with_reducible exact LeO.none _)
      | (with_reducible refine LeO.ite ?_ ?_)
      | (with_reducible refine LeO.bind ?_ (fun _ => ?_))
      | exact ih0 _ _ _ _ _ _ _ _ _ _ _ _ _ _ _ _ _ _ _ _ _ _ _ _
      | exact ih1 _ _ _ _ _ _ _ _ _ _ _ _ _ _ _ _ _ _
      | exact ih2 _ _ _ _ _ _ _
      | exact impl_RemoveAt.mono _ _ _ _ _ _ _
      | exact laws_eqQueue.mono _ _ _ _ _ _ _ _ _ _ _
      | exact laws_heldQueue.mono _ _ _ _ _ _ _
      | exact laws_markQueue.mono _ _ _ _ _ _ _
      | exact laws_toQueue.mono _ _ _ _ _ _
      | exact spec_RemoveAt.mono _ _ _ _ _ _ _
      | exact LeO.none _
      | refine LeO.ite ?_ ?_
      | refine LeO.bind ?_ (fun _ => ?_)
    · intro y0 y1 y2 y3 y4 y5 y6 y7 y8 y9 y10 y11 y12 y13 y14 y15 y16 y17
      unfold laws_FnExactRemoveAt.j1
      repeat' first
      | (with_reducible exact ih0 _ _ _ _ _ _ _ _ _ _ _ _ _ _ _ _ _ _ _ _ _ _ _ _)
      | (with_reducible exact ih1 _ _ _ _ _ _ _ _ _ _ _ _ _ _ _ _ _ _)
      | (with_reducible exact ih2 _ _ _ _ _ _ _)
      | (with_reducible exact impl_RemoveAt.mono _ _ _ _ _ _ _)
      | (with_reducible exact laws_eqQueue.mono _ _ _ _ _ _ _ _ _ _ _)
      | (with_reducible exact laws_heldQueue.mono _ _ _ _ _ _ _)
      | (with_reducible exact laws_markQueue.mono _ _ _ _ _ _ _)
      | (with_reducible exact laws_toQueue.mono _ _ _ _ _ _)
      | (with_reducible exact spec_RemoveAt.mono _ _ _ _ _ _ _)
      | (with_reducible exact LeO.refl _)
      | (with_reducible exact LeO.none _)
      | (with_reducible refine LeO.ite ?_ ?_)
      | (with_reducible refine LeO.bind ?_ (fun _ => ?_))
      | exact ih0 _ _ _ _ _ _ _ _ _ _ _ _ _ _ _ _ _ _ _ _ _ _ _ _
      | exact ih1 _ _ _ _ _ _ _ _ _ _ _ _ _ _ _ _ _ _
      | exact ih2 _ _ _ _ _ _ _
      | exact impl_RemoveAt.mono _ _ _ _ _ _ _
      | exact laws_eqQueue.mono _ _ _ _ _ _ _ _ _ _ _
      | exact laws_heldQueue.mono _ _ _ _ _ _ _
      | exact laws_markQueue.mono _ _ _ _ _ _ _
      | exact laws_toQueue.mono _ _ _ _ _ _
      | exact spec_RemoveAt.mono _ _ _ _ _ _ _
      | exact LeO.none _
      | refine LeO.ite ?_ ?_
      | refine LeO.bind ?_ (fun _ => ?_)
    · intro y0 y1 y2 y3 y4 y5 y6
      unfold laws_FnExactRemoveAt.j2
      repeat' first
      | (with_reducible exact ih0 _ _ _ _ _ _ _ _ _ _ _ _ _ _ _ _ _ _ _ _ _ _ _ _)
      | (with_reducible exact ih1 _ _ _ _ _ _ _ _ _ _ _ _ _ _ _ _ _ _)
      | (with_reducible exact ih2 _ _ _ _ _ _ _)
      | (with_reducible exact impl_RemoveAt.mono _ _ _ _ _ _ _)
      | (with_reducible exact laws_eqQueue.mono _ _ _ _ _ _ _ _ _ _ _)
      | (with_reducible exact laws_heldQueue.mono _ _ _ _ _ _ _)
      | (with_reducible exact laws_markQueue.mono _ _ _ _ _ _ _)
      | (with_reducible exact laws_toQueue.mono _ _ _ _ _ _)
      | (with_reducible exact spec_RemoveAt.mono _ _ _ _ _ _ _)
      | (with_reducible exact LeO.refl _)
      | (with_reducible exact LeO.none _)
      | (with_reducible refine LeO.ite ?_ ?_)
      | (with_reducible refine LeO.bind ?_ (fun _ => ?_))
      | exact ih0 _ _ _ _ _ _ _ _ _ _ _ _ _ _ _ _ _ _ _ _ _ _ _ _
      | exact ih1 _ _ _ _ _ _ _ _ _ _ _ _ _ _ _ _ _ _
      | exact ih2 _ _ _ _ _ _ _
      | exact impl_RemoveAt.mono _ _ _ _ _ _ _
      | exact laws_eqQueue.mono _ _ _ _ _ _ _ _ _ _ _
      | exact laws_heldQueue.mono _ _ _ _ _ _ _
      | exact laws_markQueue.mono _ _ _ _ _ _ _
      | exact laws_toQueue.mono _ _ _ _ _ _
      | exact spec_RemoveAt.mono _ _ _ _ _ _ _
      | exact LeO.none _
      | refine LeO.ite ?_ ?_
      | refine LeO.bind ?_ (fun _ => ?_)
theorem laws_FnExactRemoveAt.mono : ∀ a0 a1 a2 a3 a4 a5 k, LeO (laws_FnExactRemoveAt.f k a0 a1 a2 a3 a4 a5) (laws_FnExactRemoveAt.f (k + 1) a0 a1 a2 a3 a4 a5) := by
  intro a0 a1 a2 a3 a4 a5 k
  obtain ⟨ih0, ih1, ih2⟩ := laws_FnExactRemoveAt.mono_l k
  unfold laws_FnExactRemoveAt.f
  repeat' first
      | (with_reducible exact ih0 _ _ _ _ _ _ _ _ _ _ _ _ _ _ _ _ _ _ _ _ _ _ _ _)
      | (with_reducible exact ih1 _ _ _ _ _ _ _ _ _ _ _ _ _ _ _ _ _ _)
      | (with_reducible exact ih2 _ _ _ _ _ _ _)
      | (with_reducible exact impl_RemoveAt.mono _ _ _ _ _ _ _)
      | (with_reducible exact laws_eqQueue.mono _ _ _ _ _ _ _ _ _ _ _)
      | (with_reducible exact laws_heldQueue.mono _ _ _ _ _ _ _)
      | (with_reducible exact laws_markQueue.mono _ _ _ _ _ _ _)
      | (with_reducible exact laws_toQueue.mono _ _ _ _ _ _)
      | (with_reducible exact spec_RemoveAt.mono _ _ _ _ _ _ _)
      | (with_reducible exact LeO.refl _)
      | (with_reducible exact LeO.none _)
      | (with_reducible refine LeO.ite ?_ ?_)
      | (with_reducible refine LeO.bind ?_ (fun _ => ?_))
      | exact ih0 _ _ _ _ _ _ _ _ _ _ _ _ _ _ _ _ _ _ _ _ _ _ _ _
      | exact ih1 _ _ _ _ _ _ _ _ _ _ _ _ _ _ _ _ _ _
      | exact ih2 _ _ _ _ _ _ _
      | exact impl_RemoveAt.mono _ _ _ _ _ _ _
      | exact laws_eqQueue.mono _ _ _ _ _ _ _ _ _ _ _
      | exact laws_heldQueue.mono _ _ _ _ _ _ _
      | exact laws_markQueue.mono _ _ _ _ _ _ _
      | exact laws_toQueue.mono _ _ _ _ _ _
      | exact spec_RemoveAt.mono _ _ _ _ _ _ _
      | exact LeO.none _
      | refine LeO.ite ?_ ?_
      | refine LeO.bind ?_ (fun _ => ?_)
set_option maxHeartbeats 40000000 in
set_option maxRecDepth 100000 in
theorem laws_FnExactRemoveAt.calls (k : Nat) (A0_0 : Option Addr) (c0_0 : Nat) (l0_0 : List (S75)) (a0_1 : Int) (a0_2 : Int) (a0_3 : Int) (a0_4 : Int) (a1 : Int) (r : Bool) (w : World) (hr0_0 : Kd.C k75 w A0_0 l0_0.length l0_0) (hc0_0 : l0_0.length ≤ c0_0) (h : laws_FnExactRemoveAt.f k l0_0 a0_1 a0_2 a0_3 a0_4 a1 = some r) :
    Calls Try.prog 12 #[.agg #[.slice A0_0 l0_0.length c0_0, .int .i64 a0_1, .int .i64 a0_2, .int .i64 a0_3, .int .i64 a0_4], .int .i64 a1] w fun e w' => e = .returned (.bool r) ∧ Below w.heap.size w w' := by
  have hu24 := Try.underlying24
  have hu28 := Try.underlying28
  have HR0_0 := Aside0.mk hr0_0
  have HC0_0 := Aside0.mk hc0_0
  clear hr0_0 hc0_0
  have HB := Aside0.mk (Below.refl w.heap.size w)
  have H : ((laws_szQueue.f l0_0 a0_1 a0_2 a0_3 a0_4 1048576).bind fun t259 => (if t259 < 0 then (some true) else ((laws_toQueue.f k l0_0 a0_1 a0_2 a0_3 a0_4).bind fun bt260 => ((spec_RemoveAt.f k bt260.1 bt260.2.1 bt260.2.2.1 bt260.2.2.2.1 bt260.2.2.2.2 a1).bind fun bt267 => ((laws_toQueue.f k l0_0 a0_1 a0_2 a0_3 a0_4).bind fun bt276 => ((impl_RemoveAt.f k bt276.1 bt276.2.1 bt276.2.2.1 bt276.2.2.2.1 bt276.2.2.2.2 a1).bind fun bt284 => ((laws_eqQueue.f k bt284.1 bt284.2.1 bt284.2.2.1 bt284.2.2.2.1 bt284.2.2.2.2.1 bt267.1 bt267.2.1 bt267.2.2.1 bt267.2.2.2.1 bt267.2.2.2.2.1).bind fun t293 => (if t293 = true then (laws_FnExactRemoveAt.j0 k a1 bt267.2.2.2.2.2 bt284.2.2.2.2.2 (bt284.2.2.2.2.2 != bt267.2.2.2.2.2) l0_0 a0_1 a0_2 a0_3 a0_4 bt267.1 bt267.2.1 bt267.2.2.1 bt267.2.2.2.1 bt267.2.2.2.2.1 bt276.1 bt276.2.1 bt276.2.2.1 bt276.2.2.2.1 bt276.2.2.2.2 bt284.1 bt284.2.1 bt284.2.2.1 bt284.2.2.2.1 bt284.2.2.2.2.1) else (laws_FnExactRemoveAt.j0 k a1 bt267.2.2.2.2.2 bt284.2.2.2.2.2 true l0_0 a0_1 a0_2 a0_3 a0_4 bt267.1 bt267.2.1 bt267.2.2.1 bt267.2.2.2.1 bt267.2.2.2.2.1 bt276.1 bt276.2.1 bt276.2.2.1 bt276.2.2.2.1 bt276.2.2.2.2 bt284.1 bt284.2.1 bt284.2.2.1 bt284.2.2.2.1 bt284.2.2.2.2.1))))))))) = some r := h
  clear h
  replace H := Option.bind_eq_some_iff.mp H
  obtain ⟨t259, A30, H⟩ := H
  replace H : (if t259 < 0 then (some true) else ((laws_toQueue.f k l0_0 a0_1 a0_2 a0_3 a0_4).bind fun bt260 => ((spec_RemoveAt.f k bt260.1 bt260.2.1 bt260.2.2.1 bt260.2.2.2.1 bt260.2.2.2.2 a1).bind fun bt267 => ((laws_toQueue.f k l0_0 a0_1 a0_2 a0_3 a0_4).bind fun bt276 => ((impl_RemoveAt.f k bt276.1 bt276.2.1 bt276.2.2.1 bt276.2.2.2.1 bt276.2.2.2.2 a1).bind fun bt284 => ((laws_eqQueue.f k bt284.1 bt284.2.1 bt284.2.2.1 bt284.2.2.2.1 bt284.2.2.2.2.1 bt267.1 bt267.2.1 bt267.2.2.1 bt267.2.2.2.1 bt267.2.2.2.2.1).bind fun t293 => (if t293 = true then (laws_FnExactRemoveAt.j0 k a1 bt267.2.2.2.2.2 bt284.2.2.2.2.2 (bt284.2.2.2.2.2 != bt267.2.2.2.2.2) l0_0 a0_1 a0_2 a0_3 a0_4 bt267.1 bt267.2.1 bt267.2.2.1 bt267.2.2.2.1 bt267.2.2.2.2.1 bt276.1 bt276.2.1 bt276.2.2.1 bt276.2.2.2.1 bt276.2.2.2.2 bt284.1 bt284.2.1 bt284.2.2.1 bt284.2.2.2.1 bt284.2.2.2.2.1) else (laws_FnExactRemoveAt.j0 k a1 bt267.2.2.2.2.2 bt284.2.2.2.2.2 true l0_0 a0_1 a0_2 a0_3 a0_4 bt267.1 bt267.2.1 bt267.2.2.1 bt267.2.2.2.1 bt267.2.2.2.2.1 bt276.1 bt276.2.1 bt276.2.2.1 bt276.2.2.2.1 bt276.2.2.2.2 bt284.1 bt284.2.1 bt284.2.2.1 bt284.2.2.2.1 bt284.2.2.2.2.1)))))))) = some r := H
  have A3 := Aside0.mk A30
  clear A30
  by_cases c4 : t259 < 0
  · rw [if_pos c4] at H
    have c4b0 : decide (t259 < 0) = true := decide_eq_true c4
    clear c4
    obtain rfl := Option.some.inj H
    go_enter Try.func12, Try.ntmps12
    go_wp2_with (first | ((with_reducible refine gate_dst (N := 2) rfl ?_); refine box_event ?hg (N := 2) ?hd (cs := #[.slice A0_0 l0_0.length c0_0, .int .i64 a0_1, .int .i64 a0_2, .int .i64 a0_3, .int .i64 a0_4]) (t := 24) ?hr ?_; (case hd => rfl); (case hg => rfl); (case hr => first | (go_simp; done) | (go_simp; rfl)); intro gb258 hg w5 hbox hb; have n0_ := Aside0.mk (below_step (be_ HB.out) hb); have n1_ := Aside0.mk (hbox); have n2_ := Aside0.mk ((by rw [hg]; exact (below_size (be_ HB.out)) : w.heap.size ≤ gb258)); have n3_ := Aside0.mk ((by rw [hg]; exact (below_size (be_ HB.out)) : w.heap.size ≤ gb258)); clear HB; have HB := n0_; have BK258 := n1_; have GW258 := n2_; have GE258 := n3_; clear n0_ n1_ n2_ n3_; clear hb hbox hg; obtain ⟨hcz6_0, hcz6_1, hcz6_2, hcz6_3, hcz6_4, hfz6_0, hfz6_1, hfz6_2, hfz6_3, hfz6_4⟩ := cz5_ BK258.out) | ((with_reducible refine gate_callee (f := 13) rfl ?_); refine goesL_ (some 18) rfl rfl Try.func13 (by kernel_rfl) rfl #[.agg #[.slice A0_0 l0_0.length c0_0, .int .i64 a0_1, .int .i64 a0_2, .int .i64 a0_3, .int .i64 a0_4], .int .i64 1048576] rfl (by (try simp only [List.map_toArray, List.map_cons, List.map_nil]); first | done | rfl | (simp only [List.length_drop, List.length_take]; rfl)) ?_; (with_reducible refine (laws_szQueue.calls _ _ l0_0 a0_1 a0_2 a0_3 a0_4 1048576 t259 _ ?side1 ?side2 A3.out).mono ?_); (case side1 => repeat (first | exact (Kd.C_below HR0_0.out HB.out) | (with_reducible refine Kd.C_alloc ?_ _) | (with_reducible refine Kd.C_drewN ?_ _) | (with_reducible refine Kd.C_drew ?_))); (case side2 => exact HC0_0.out); rintro e w7 ⟨rfl, hb⟩; refine ⟨_, rfl, ?_⟩; have n0_ := Aside0.mk (blk_below (g := gb258) (o := .cells #[.slice A0_0 l0_0.length c0_0, .int .i64 a0_1, .int .i64 a0_2, .int .i64 a0_3, .int .i64 a0_4] 24 (0, 0)) (bl_ BK258.out) hb); have n1_ := Aside0.mk (below_step (be_ HB.out) hb); clear BK258 HB; have BK258 := n0_; have HB := n1_; clear n0_ n1_; (try clear hb); (try clear hb2); (try clear hk); (try clear hi)))
    go_ret
    exact ⟨by first | rfl | (simp [errW_none, errW_some] <;> rfl) | (simp [*, errW_none, errW_some] <;> rfl), be_ HB.out⟩
  · rw [if_neg c4] at H
    have c4b0 : decide (t259 < 0) = false := decide_eq_false c4
    clear c4
    replace H := Option.bind_eq_some_iff.mp H
    obtain ⟨⟨t260, t263, t264, t265, t266⟩, A80, H⟩ := H
    replace H : ((spec_RemoveAt.f k t260 t263 t264 t265 t266 a1).bind fun bt267 => ((laws_toQueue.f k l0_0 a0_1 a0_2 a0_3 a0_4).bind fun bt276 => ((impl_RemoveAt.f k bt276.1 bt276.2.1 bt276.2.2.1 bt276.2.2.2.1 bt276.2.2.2.2 a1).bind fun bt284 => ((laws_eqQueue.f k bt284.1 bt284.2.1 bt284.2.2.1 bt284.2.2.2.1 bt284.2.2.2.2.1 bt267.1 bt267.2.1 bt267.2.2.1 bt267.2.2.2.1 bt267.2.2.2.2.1).bind fun t293 => (if t293 = true then (laws_FnExactRemoveAt.j0 k a1 bt267.2.2.2.2.2 bt284.2.2.2.2.2 (bt284.2.2.2.2.2 != bt267.2.2.2.2.2) l0_0 a0_1 a0_2 a0_3 a0_4 bt267.1 bt267.2.1 bt267.2.2.1 bt267.2.2.2.1 bt267.2.2.2.2.1 bt276.1 bt276.2.1 bt276.2.2.1 bt276.2.2.2.1 bt276.2.2.2.2 bt284.1 bt284.2.1 bt284.2.2.1 bt284.2.2.2.1 bt284.2.2.2.2.1) else (laws_FnExactRemoveAt.j0 k a1 bt267.2.2.2.2.2 bt284.2.2.2.2.2 true l0_0 a0_1 a0_2 a0_3 a0_4 bt267.1 bt267.2.1 bt267.2.2.1 bt267.2.2.2.1 bt267.2.2.2.2.1 bt276.1 bt276.2.1 bt276.2.2.1 bt276.2.2.2.1 bt276.2.2.2.2 bt284.1 bt284.2.1 bt284.2.2.1 bt284.2.2.2.1 bt284.2.2.2.2.1)))))) = some r := H
    have A8 := Aside0.mk A80
    clear A80
    replace H := Option.bind_eq_some_iff.mp H
    obtain ⟨⟨t267, t270, t271, t272, t273, t274⟩, A90, H⟩ := H
    replace H : ((laws_toQueue.f k l0_0 a0_1 a0_2 a0_3 a0_4).bind fun bt276 => ((impl_RemoveAt.f k bt276.1 bt276.2.1 bt276.2.2.1 bt276.2.2.2.1 bt276.2.2.2.2 a1).bind fun bt284 => ((laws_eqQueue.f k bt284.1 bt284.2.1 bt284.2.2.1 bt284.2.2.2.1 bt284.2.2.2.2.1 t267 t270 t271 t272 t273).bind fun t293 => (if t293 = true then (laws_FnExactRemoveAt.j0 k a1 t274 bt284.2.2.2.2.2 (bt284.2.2.2.2.2 != t274) l0_0 a0_1 a0_2 a0_3 a0_4 t267 t270 t271 t272 t273 bt276.1 bt276.2.1 bt276.2.2.1 bt276.2.2.2.1 bt276.2.2.2.2 bt284.1 bt284.2.1 bt284.2.2.1 bt284.2.2.2.1 bt284.2.2.2.2.1) else (laws_FnExactRemoveAt.j0 k a1 t274 bt284.2.2.2.2.2 true l0_0 a0_1 a0_2 a0_3 a0_4 t267 t270 t271 t272 t273 bt276.1 bt276.2.1 bt276.2.2.1 bt276.2.2.2.1 bt276.2.2.2.2 bt284.1 bt284.2.1 bt284.2.2.1 bt284.2.2.2.1 bt284.2.2.2.2.1))))) = some r := H
    have A9 := Aside0.mk A90
    clear A90
    replace H := Option.bind_eq_some_iff.mp H
    obtain ⟨⟨t276, t279, t280, t281, t282⟩, A100, H⟩ := H
    replace H : ((impl_RemoveAt.f k t276 t279 t280 t281 t282 a1).bind fun bt284 => ((laws_eqQueue.f k bt284.1 bt284.2.1 bt284.2.2.1 bt284.2.2.2.1 bt284.2.2.2.2.1 t267 t270 t271 t272 t273).bind fun t293 => (if t293 = true then (laws_FnExactRemoveAt.j0 k a1 t274 bt284.2.2.2.2.2 (bt284.2.2.2.2.2 != t274) l0_0 a0_1 a0_2 a0_3 a0_4 t267 t270 t271 t272 t273 t276 t279 t280 t281 t282 bt284.1 bt284.2.1 bt284.2.2.1 bt284.2.2.2.1 bt284.2.2.2.2.1) else (laws_FnExactRemoveAt.j0 k a1 t274 bt284.2.2.2.2.2 true l0_0 a0_1 a0_2 a0_3 a0_4 t267 t270 t271 t272 t273 t276 t279 t280 t281 t282 bt284.1 bt284.2.1 bt284.2.2.1 bt284.2.2.2.1 bt284.2.2.2.2.1)))) = some r := H
    have A10 := Aside0.mk A100
    clear A100
    replace H := Option.bind_eq_some_iff.mp H
    obtain ⟨⟨t284, t287, t288, t289, t290, t291⟩, A110, H⟩ := H
    replace H : ((laws_eqQueue.f k t284 t287 t288 t289 t290 t267 t270 t271 t272 t273).bind fun t293 => (if t293 = true then (laws_FnExactRemoveAt.j0 k a1 t274 t291 (t291 != t274) l0_0 a0_1 a0_2 a0_3 a0_4 t267 t270 t271 t272 t273 t276 t279 t280 t281 t282 t284 t287 t288 t289 t290) else (laws_FnExactRemoveAt.j0 k a1 t274 t291 true l0_0 a0_1 a0_2 a0_3 a0_4 t267 t270 t271 t272 t273 t276 t279 t280 t281 t282 t284 t287 t288 t289 t290))) = some r := H
    have A11 := Aside0.mk A110
    clear A110
    have HC12 := Aside0.mk H
    clear H
    go_enter Try.func12, Try.ntmps12
    go_upto_region 8 with (first | ((with_reducible refine gate_dst (N := 2) rfl ?_); refine box_event ?hg (N := 2) ?hd (cs := #[.slice A0_0 l0_0.length c0_0, .int .i64 a0_1, .int .i64 a0_2, .int .i64 a0_3, .int .i64 a0_4]) (t := 24) ?hr ?_; (case hd => rfl); (case hg => rfl); (case hr => first | (go_simp; done) | (go_simp; rfl)); intro gb258 hg w13 hbox hb; have n0_ := Aside0.mk (below_step (be_ HB.out) hb); have n1_ := Aside0.mk (hbox); have n2_ := Aside0.mk ((by rw [hg]; exact (below_size (be_ HB.out)) : w.heap.size ≤ gb258)); have n3_ := Aside0.mk ((by rw [hg]; exact (below_size (be_ HB.out)) : w.heap.size ≤ gb258)); clear HB; have HB := n0_; have BK258 := n1_; have GW258 := n2_; have GE258 := n3_; clear n0_ n1_ n2_ n3_; clear hb hbox hg; obtain ⟨hcz14_0, hcz14_1, hcz14_2, hcz14_3, hcz14_4, hfz14_0, hfz14_1, hfz14_2, hfz14_3, hfz14_4⟩ := cz5_ BK258.out) | ((with_reducible refine gate_callee (f := 13) rfl ?_); refine goesL_ (some 18) rfl rfl Try.func13 (by kernel_rfl) rfl #[.agg #[.slice A0_0 l0_0.length c0_0, .int .i64 a0_1, .int .i64 a0_2, .int .i64 a0_3, .int .i64 a0_4], .int .i64 1048576] rfl (by (try simp only [List.map_toArray, List.map_cons, List.map_nil]); first | done | rfl | (simp only [List.length_drop, List.length_take]; rfl)) ?_; (with_reducible refine (laws_szQueue.calls _ _ l0_0 a0_1 a0_2 a0_3 a0_4 1048576 t259 _ ?side1 ?side2 A3.out).mono ?_); (case side1 => repeat (first | exact (Kd.C_below HR0_0.out HB.out) | (with_reducible refine Kd.C_alloc ?_ _) | (with_reducible refine Kd.C_drewN ?_ _) | (with_reducible refine Kd.C_drew ?_))); (case side2 => exact HC0_0.out); rintro e w15 ⟨rfl, hb⟩; refine ⟨_, rfl, ?_⟩; have n0_ := Aside0.mk (blk_below (g := gb258) (o := .cells #[.slice A0_0 l0_0.length c0_0, .int .i64 a0_1, .int .i64 a0_2, .int .i64 a0_3, .int .i64 a0_4] 24 (0, 0)) (bl_ BK258.out) hb); have n1_ := Aside0.mk (below_step (be_ HB.out) hb); clear BK258 HB; have BK258 := n0_; have HB := n1_; clear n0_ n1_; (try clear hb); (try clear hb2); (try clear hk); (try clear hi); obtain ⟨hcz16_0, hcz16_1, hcz16_2, hcz16_3, hcz16_4, hfz16_0, hfz16_1, hfz16_2, hfz16_3, hfz16_4⟩ := cz5_ BK258.out) | ((with_reducible refine gate_callee (f := 15) rfl ?_); refine goesL_ (some 23) rfl rfl Try.func15 (by kernel_rfl) rfl #[.agg #[.slice A0_0 l0_0.length c0_0, .int .i64 a0_1, .int .i64 a0_2, .int .i64 a0_3, .int .i64 a0_4]] rfl (by (try simp only [List.map_toArray, List.map_cons, List.map_nil]); first | done | rfl | (simp only [List.length_drop, List.length_take]; rfl)) ?_; (with_reducible refine (laws_toQueue.calls k _ _ l0_0 a0_1 a0_2 a0_3 a0_4 t260 t263 t264 t265 t266 _ ?side1 ?side2 A8.out).mono ?_); (case side1 => repeat (first | exact (Kd.C_below HR0_0.out HB.out) | (with_reducible refine Kd.C_alloc ?_ _) | (with_reducible refine Kd.C_drewN ?_ _) | (with_reducible refine Kd.C_drew ?_))); (case side2 => exact HC0_0.out); rintro e w17 ⟨v261, rfl, ho0, hb⟩; refine ⟨_, rfl, ?_⟩; have n0_ := Aside0.mk (Kd.R_lower ho0 (below_size (be_ HB.out))); have n1_ := Aside0.mk (blk_below (g := gb258) (o := .cells #[.slice A0_0 l0_0.length c0_0, .int .i64 a0_1, .int .i64 a0_2, .int .i64 a0_3, .int .i64 a0_4] 24 (0, 0)) (bl_ BK258.out) hb); have n2_ := Aside0.mk (below_step (be_ HB.out) hb); clear BK258 HB; have HO262 := n0_; have BK258 := n1_; have HB := n2_; clear n0_ n1_ n2_; (try clear hb); (try clear hb2); (try clear hk); (try clear hi); (try clear ho0); obtain ⟨Ao18, co18, eo18⟩ := Kd.R_slice HO262.out; subst eo18) | ((with_reducible refine gate_callee (f := 46) rfl ?_); refine goesL_ (some 25) rfl rfl Try.func46 (by kernel_rfl) rfl #[.agg #[.slice Ao18 t260.length co18, .int .i64 t263, .int .i64 t264, .int .i64 t265, .int .i64 t266], .int .i64 a1] rfl (by (try simp only [List.map_toArray, List.map_cons, List.map_nil]); first | done | rfl | (simp only [List.length_drop, List.length_take]; rfl)) ?_; (with_reducible refine (spec_RemoveAt.calls k _ _ t260 t263 t264 t265 t266 a1 t267 t270 t271 t272 t273 t274 _ ?side1 ?side2 A9.out).mono ?_); (case side1 => repeat (first | exact (Kd.R_reads' HO262.out).2.2 | (with_reducible refine Kd.C_alloc ?_ _) | (with_reducible refine Kd.C_drewN ?_ _) | (with_reducible refine Kd.C_drew ?_))); (case side2 => exact (Kd.R_reads' HO262.out).2.1); rintro e w19 ⟨v268, rfl, ho0, hb⟩; refine ⟨_, rfl, ?_⟩; have n0_ := Aside0.mk (Kd.R_elder' (ro_ HO262.out) (Kd.R_base ho0) hb); have n1_ := Aside0.mk (Kd.R_lower (Kd.R_new' ho0 (Kd.R_lt (ro_ HO262.out))) (below_size (be_ HB.out))); have n2_ := Aside0.mk (blk_below (g := gb258) (o := .cells #[.slice A0_0 l0_0.length c0_0, .int .i64 a0_1, .int .i64 a0_2, .int .i64 a0_3, .int .i64 a0_4] 24 (0, 0)) (bl_ BK258.out) hb); have n3_ := Aside0.mk (below_step (be_ HB.out) hb); clear HO262 BK258 HB; have HO262 := n0_; have HO269 := n1_; have BK258 := n2_; have HB := n3_; clear n0_ n1_ n2_ n3_; (try clear hb); (try clear hb2); (try clear hk); (try clear hi); (try clear ho0)) | ((with_reducible refine gate_dst (N := 6) rfl ?_); refine box_event ?hg (N := 6) ?hd (cs := #[.slice none 0 0, .int .i64 0, .int .i64 0, .int .i64 0, .int .i64 0]) (t := 28) ?hr ?_; (case hd => rfl); (case hg => rfl); (case hr => first | (go_simp; done) | (go_simp; rfl)); intro gb275 hg w20 hbox hb; have n0_ := Aside0.mk (Kd.R_below (ro_ HO262.out) hb); have n1_ := Aside0.mk (Kd.R_below (ro_ HO269.out) hb); have n2_ := Aside0.mk (blk_below (g := gb258) (o := .cells #[.slice A0_0 l0_0.length c0_0, .int .i64 a0_1, .int .i64 a0_2, .int .i64 a0_3, .int .i64 a0_4] 24 (0, 0)) (bl_ BK258.out) hb); have n3_ := Aside0.mk (below_step (be_ HB.out) hb); have n4_ := Aside0.mk (hbox); have n5_ := Aside0.mk ((by rw [hg]; exact (below_size (be_ HB.out)) : w.heap.size ≤ gb275)); have n6_ := Aside0.mk ((by rw [hg]; exact (below_size (be_ HB.out)) : w.heap.size ≤ gb275)); have n7_ := Aside0.mk ((by rw [hg]; exact Nat.ne_of_lt (blk_lt (g := gb258) (o := .cells #[.slice A0_0 l0_0.length c0_0, .int .i64 a0_1, .int .i64 a0_2, .int .i64 a0_3, .int .i64 a0_4] 24 (0, 0)) (bl_ BK258.out)) : gb258 ≠ gb275)); have n8_ := Aside0.mk ((by rw [hg]; exact Nat.ne_of_gt (blk_lt (g := gb258) (o := .cells #[.slice A0_0 l0_0.length c0_0, .int .i64 a0_1, .int .i64 a0_2, .int .i64 a0_3, .int .i64 a0_4] 24 (0, 0)) (bl_ BK258.out)) : gb275 ≠ gb258)); clear HO262 HO269 BK258 HB; have HO262 := n0_; have HO269 := n1_; have BK258 := n2_; have HB := n3_; have BK275 := n4_; have GW275 := n5_; have GE275 := n6_; have NB258_275 := n7_; have NB275_258 := n8_; clear n0_ n1_ n2_ n3_ n4_ n5_ n6_ n7_ n8_; clear hb hbox hg; obtain ⟨Ao21, co21, eo21⟩ := Kd.R_slice HO269.out; subst eo21; have hnb22 := NB275_258.out; have hnc22 := NB258_275.out; obtain ⟨hcz23_0, hcz23_1, hcz23_2, hcz23_3, hcz23_4, hfz23_0, hfz23_1, hfz23_2, hfz23_3, hfz23_4⟩ := cz5_ BK275.out; obtain ⟨hcz24_0, hcz24_1, hcz24_2, hcz24_3, hcz24_4, hfz24_0, hfz24_1, hfz24_2, hfz24_3, hfz24_4⟩ := cz5_ BK258.out) | ((with_reducible refine gate_callee (f := 15) rfl ?_); refine goesL_ (some 29) rfl rfl Try.func15 (by kernel_rfl) rfl #[.agg #[.slice A0_0 l0_0.length c0_0, .int .i64 a0_1, .int .i64 a0_2, .int .i64 a0_3, .int .i64 a0_4]] rfl (by (try simp only [List.map_toArray, List.map_cons, List.map_nil]); first | done | rfl | (simp only [List.length_drop, List.length_take]; rfl)) ?_; (with_reducible refine (laws_toQueue.calls k _ _ l0_0 a0_1 a0_2 a0_3 a0_4 t276 t279 t280 t281 t282 _ ?side1 ?side2 A10.out).mono ?_); (case side1 => exact Kd.C_below HR0_0.out (be_ HB.out)); (case side2 => exact HC0_0.out); rintro e w25 ⟨v277, rfl, ho0, hb⟩; refine ⟨_, rfl, ?_⟩; have n0_ := Aside0.mk (Kd.R_elder' (by (with_reducible repeat (first | apply Kd.R_alloc | apply Kd.R_drewN | apply Kd.R_drew)); exact (Kd.R_mono (Kd.R_far (p := ⟨gb275, 4, none⟩) (Kd.R_far (p := ⟨gb275, 3, none⟩) (Kd.R_far (p := ⟨gb275, 2, none⟩) (Kd.R_far (p := ⟨gb275, 1, none⟩) (Kd.R_far (p := ⟨gb275, 0, none⟩) (Kd.R_types HO262.out BK275.out (by decide)) (fun _ hk => hk.2) (.slice Ao21 t267.length co21)) (fun _ hk => hk.2) (.int .i64 t270)) (fun _ hk => hk.2) (.int .i64 t271)) (fun _ hk => hk.2) (.int .i64 t272)) (fun _ hk => hk.2) (.int .i64 t273)) (fun _ h_ => h_.1))) (Kd.R_base ho0) hb); have n1_ := Aside0.mk (Kd.R_elder' (by (with_reducible repeat (first | apply Kd.R_alloc | apply Kd.R_drewN | apply Kd.R_drew)); exact (Kd.R_mono (Kd.R_far (p := ⟨gb275, 4, none⟩) (Kd.R_far (p := ⟨gb275, 3, none⟩) (Kd.R_far (p := ⟨gb275, 2, none⟩) (Kd.R_far (p := ⟨gb275, 1, none⟩) (Kd.R_far (p := ⟨gb275, 0, none⟩) (Kd.R_types HO269.out BK275.out (by decide)) (fun _ hk => hk.2) (.slice Ao21 t267.length co21)) (fun _ hk => hk.2) (.int .i64 t270)) (fun _ hk => hk.2) (.int .i64 t271)) (fun _ hk => hk.2) (.int .i64 t272)) (fun _ hk => hk.2) (.int .i64 t273)) (fun _ h_ => h_.1))) (Kd.R_base ho0) hb); have n2_ := Aside0.mk (Kd.R_lower (Kd.R_new' (Kd.R_new' ho0 (Kd.R_lt (by (with_reducible repeat (first | apply Kd.R_alloc | apply Kd.R_drewN | apply Kd.R_drew)); exact (Kd.R_mono (Kd.R_far (p := ⟨gb275, 4, none⟩) (Kd.R_far (p := ⟨gb275, 3, none⟩) (Kd.R_far (p := ⟨gb275, 2, none⟩) (Kd.R_far (p := ⟨gb275, 1, none⟩) (Kd.R_far (p := ⟨gb275, 0, none⟩) (Kd.R_types HO262.out BK275.out (by decide)) (fun _ hk => hk.2) (.slice Ao21 t267.length co21)) (fun _ hk => hk.2) (.int .i64 t270)) (fun _ hk => hk.2) (.int .i64 t271)) (fun _ hk => hk.2) (.int .i64 t272)) (fun _ hk => hk.2) (.int .i64 t273)) (fun _ h_ => h_.1))))) (Kd.R_lt (by (with_reducible repeat (first | apply Kd.R_alloc | apply Kd.R_drewN | apply Kd.R_drew)); exact (Kd.R_mono (Kd.R_far (p := ⟨gb275, 4, none⟩) (Kd.R_far (p := ⟨gb275, 3, none⟩) (Kd.R_far (p := ⟨gb275, 2, none⟩) (Kd.R_far (p := ⟨gb275, 1, none⟩) (Kd.R_far (p := ⟨gb275, 0, none⟩) (Kd.R_types HO269.out BK275.out (by decide)) (fun _ hk => hk.2) (.slice Ao21 t267.length co21)) (fun _ hk => hk.2) (.int .i64 t270)) (fun _ hk => hk.2) (.int .i64 t271)) (fun _ hk => hk.2) (.int .i64 t272)) (fun _ hk => hk.2) (.int .i64 t273)) (fun _ h_ => h_.1))))) (below_size (be_ HB.out))); have n3_ := Aside0.mk (blk_below (g := gb258) (o := .cells #[.slice A0_0 l0_0.length c0_0, .int .i64 a0_1, .int .i64 a0_2, .int .i64 a0_3, .int .i64 a0_4] 24 (0, 0)) (by refine bl_ ?_; refine blk_far ?_ NB258_275.out _; refine bl_ ?_; refine blk_far ?_ NB258_275.out _; refine bl_ ?_; refine blk_far ?_ NB258_275.out _; refine bl_ ?_; refine blk_far ?_ NB258_275.out _; refine bl_ ?_; refine blk_far ?_ NB258_275.out _; refine bl_ ?_; exact BK258.out) hb); have n4_ := Aside0.mk (blk_below (g := gb275) (o := .cells #[.slice Ao21 t267.length co21, .int .i64 t270, .int .i64 t271, .int .i64 t272, .int .i64 t273] 28 (0, 0)) (by refine bl_ ?_; refine blk_put (cs := #[.slice Ao21 t267.length co21, .int .i64 t270, .int .i64 t271, .int .i64 t272, .int .i64 0]) ?_ 4 _ rfl; refine bl_ ?_; refine blk_put (cs := #[.slice Ao21 t267.length co21, .int .i64 t270, .int .i64 t271, .int .i64 0, .int .i64 0]) ?_ 3 _ rfl; refine bl_ ?_; refine blk_put (cs := #[.slice Ao21 t267.length co21, .int .i64 t270, .int .i64 0, .int .i64 0, .int .i64 0]) ?_ 2 _ rfl; refine bl_ ?_; refine blk_put (cs := #[.slice Ao21 t267.length co21, .int .i64 0, .int .i64 0, .int .i64 0, .int .i64 0]) ?_ 1 _ rfl; refine bl_ ?_; refine blk_put (cs := #[.slice none 0 0, .int .i64 0, .int .i64 0, .int .i64 0, .int .i64 0]) ?_ 0 _ rfl; refine bl_ ?_; exact BK275.out) hb); have n5_ := Aside0.mk (below_step (be_ HB.out) hb); clear HO262 HO269 BK258 BK275 HB; have HO262 := n0_; have HO269 := n1_; have HO278 := n2_; have BK258 := n3_; have BK275 := n4_; have HB := n5_; clear n0_ n1_ n2_ n3_ n4_ n5_; (try clear hb); (try clear hb2); (try clear hk); (try clear hi); (try clear ho0)) | ((with_reducible refine gate_dst (N := 8) rfl ?_); refine box_event ?hg (N := 8) ?hd (cs := #[.slice none 0 0, .int .i64 0, .int .i64 0, .int .i64 0, .int .i64 0]) (t := 28) ?hr ?_; (case hd => rfl); (case hg => rfl); (case hr => first | (go_simp; done) | (go_simp; rfl)); intro gb283 hg w26 hbox hb; have n0_ := Aside0.mk (Kd.R_below (ro_ HO262.out) hb); have n1_ := Aside0.mk (Kd.R_below (ro_ HO269.out) hb); have n2_ := Aside0.mk (Kd.R_below (ro_ HO278.out) hb); have n3_ := Aside0.mk (blk_below (g := gb258) (o := .cells #[.slice A0_0 l0_0.length c0_0, .int .i64 a0_1, .int .i64 a0_2, .int .i64 a0_3, .int .i64 a0_4] 24 (0, 0)) (bl_ BK258.out) hb); have n4_ := Aside0.mk (blk_below (g := gb275) (o := .cells #[.slice Ao21 t267.length co21, .int .i64 t270, .int .i64 t271, .int .i64 t272, .int .i64 t273] 28 (0, 0)) (bl_ BK275.out) hb); have n5_ := Aside0.mk (below_step (be_ HB.out) hb); have n6_ := Aside0.mk (hbox); have n7_ := Aside0.mk ((by rw [hg]; exact (below_size (be_ HB.out)) : w.heap.size ≤ gb283)); have n8_ := Aside0.mk ((by rw [hg]; exact (below_size (be_ HB.out)) : w.heap.size ≤ gb283)); have n9_ := Aside0.mk ((by rw [hg]; exact Nat.ne_of_lt (blk_lt (g := gb258) (o := .cells #[.slice A0_0 l0_0.length c0_0, .int .i64 a0_1, .int .i64 a0_2, .int .i64 a0_3, .int .i64 a0_4] 24 (0, 0)) (bl_ BK258.out)) : gb258 ≠ gb283)); have n10_ := Aside0.mk ((by rw [hg]; exact Nat.ne_of_gt (blk_lt (g := gb258) (o := .cells #[.slice A0_0 l0_0.length c0_0, .int .i64 a0_1, .int .i64 a0_2, .int .i64 a0_3, .int .i64 a0_4] 24 (0, 0)) (bl_ BK258.out)) : gb283 ≠ gb258)); have n11_ := Aside0.mk ((by rw [hg]; exact Nat.ne_of_lt (blk_lt (g := gb275) (o := .cells #[.slice Ao21 t267.length co21, .int .i64 t270, .int .i64 t271, .int .i64 t272, .int .i64 t273] 28 (0, 0)) (bl_ BK275.out)) : gb275 ≠ gb283)); have n12_ := Aside0.mk ((by rw [hg]; exact Nat.ne_of_gt (blk_lt (g := gb275) (o := .cells #[.slice Ao21 t267.length co21, .int .i64 t270, .int .i64 t271, .int .i64 t272, .int .i64 t273] 28 (0, 0)) (bl_ BK275.out)) : gb283 ≠ gb275)); clear HO262 HO269 HO278 BK258 BK275 HB; have HO262 := n0_; have HO269 := n1_; have HO278 := n2_; have BK258 := n3_; have BK275 := n4_; have HB := n5_; have BK283 := n6_; have GW283 := n7_; have GE283 := n8_; have NB258_283 := n9_; have NB283_258 := n10_; have NB275_283 := n11_; have NB283_275 := n12_; clear n0_ n1_ n2_ n3_ n4_ n5_ n6_ n7_ n8_ n9_ n10_ n11_ n12_; clear hb hbox hg; obtain ⟨Ao27, co27, eo27⟩ := Kd.R_slice HO278.out; subst eo27; have hnb28 := NB283_258.out; have hnc28 := NB258_283.out; have hnb29 := NB283_275.out; have hnc29 := NB275_283.out; obtain ⟨hcz30_0, hcz30_1, hcz30_2, hcz30_3, hcz30_4, hfz30_0, hfz30_1, hfz30_2, hfz30_3, hfz30_4⟩ := cz5_ BK283.out) | ((with_reducible refine gate_callee (f := 38) rfl ?_); refine goesL_ (some 33) rfl rfl Try.func38 (by kernel_rfl) rfl #[.agg #[.slice Ao27 t276.length co27, .int .i64 t279, .int .i64 t280, .int .i64 t281, .int .i64 t282], .int .i64 a1] rfl (by (try simp only [List.map_toArray, List.map_cons, List.map_nil]); first | done | rfl | (simp only [List.length_drop, List.length_take]; rfl)) ?_; (with_reducible refine (impl_RemoveAt.calls k _ _ t276 t279 t280 t281 t282 a1 t284 t287 t288 t289 t290 t291 _ ?side1 ?side2 A11.out).mono ?_); (case side1 => refine (Kd.R_reads' (e := 65) (base := w.heap.size) (ok := fun k_ => ((True ∧ some k_ ≠ (.slice Ao18 t260.length co18 : Value).ownBlock) ∧ some k_ ≠ (.slice Ao21 t267.length co21 : Value).ownBlock)) (n := t276.length) (c := co27) ?_).2.2; exact (by (with_reducible repeat (first | apply Kd.R_alloc | apply Kd.R_drewN | apply Kd.R_drew)); exact (Kd.R_mono (Kd.R_far (p := ⟨gb283, 4, none⟩) (Kd.R_far (p := ⟨gb283, 3, none⟩) (Kd.R_far (p := ⟨gb283, 2, none⟩) (Kd.R_far (p := ⟨gb283, 1, none⟩) (Kd.R_far (p := ⟨gb283, 0, none⟩) (Kd.R_types HO278.out BK283.out (by decide)) (fun _ hk => hk.2) (.slice Ao27 t276.length co27)) (fun _ hk => hk.2) (.int .i64 t279)) (fun _ hk => hk.2) (.int .i64 t280)) (fun _ hk => hk.2) (.int .i64 t281)) (fun _ hk => hk.2) (.int .i64 t282)) (fun _ h_ => h_.1)))); (case side2 => exact (Kd.R_reads' HO278.out).2.1); rintro e w31 ⟨v285, rfl, ho0, hb⟩; refine ⟨_, rfl, ?_⟩; have n0_ := Aside0.mk (Kd.R_elder' (by (with_reducible repeat (first | apply Kd.R_alloc | apply Kd.R_drewN | apply Kd.R_drew)); exact (Kd.R_mono (Kd.R_far (p := ⟨gb283, 4, none⟩) (Kd.R_far (p := ⟨gb283, 3, none⟩) (Kd.R_far (p := ⟨gb283, 2, none⟩) (Kd.R_far (p := ⟨gb283, 1, none⟩) (Kd.R_far (p := ⟨gb283, 0, none⟩) (Kd.R_types HO262.out BK283.out (by decide)) (fun _ hk => hk.2) (.slice Ao27 t276.length co27)) (fun _ hk => hk.2) (.int .i64 t279)) (fun _ hk => hk.2) (.int .i64 t280)) (fun _ hk => hk.2) (.int .i64 t281)) (fun _ hk => hk.2) (.int .i64 t282)) (fun _ h_ => h_.1))) (Kd.R_base ho0) hb); have n1_ := Aside0.mk (Kd.R_elder' (by (with_reducible repeat (first | apply Kd.R_alloc | apply Kd.R_drewN | apply Kd.R_drew)); exact (Kd.R_mono (Kd.R_far (p := ⟨gb283, 4, none⟩) (Kd.R_far (p := ⟨gb283, 3, none⟩) (Kd.R_far (p := ⟨gb283, 2, none⟩) (Kd.R_far (p := ⟨gb283, 1, none⟩) (Kd.R_far (p := ⟨gb283, 0, none⟩) (Kd.R_types HO269.out BK283.out (by decide)) (fun _ hk => hk.2) (.slice Ao27 t276.length co27)) (fun _ hk => hk.2) (.int .i64 t279)) (fun _ hk => hk.2) (.int .i64 t280)) (fun _ hk => hk.2) (.int .i64 t281)) (fun _ hk => hk.2) (.int .i64 t282)) (fun _ h_ => h_.1))) (Kd.R_base ho0) hb); have n2_ := Aside0.mk (Kd.R_elder' (by (with_reducible repeat (first | apply Kd.R_alloc | apply Kd.R_drewN | apply Kd.R_drew)); exact (Kd.R_mono (Kd.R_far (p := ⟨gb283, 4, none⟩) (Kd.R_far (p := ⟨gb283, 3, none⟩) (Kd.R_far (p := ⟨gb283, 2, none⟩) (Kd.R_far (p := ⟨gb283, 1, none⟩) (Kd.R_far (p := ⟨gb283, 0, none⟩) (Kd.R_types HO278.out BK283.out (by decide)) (fun _ hk => hk.2) (.slice Ao27 t276.length co27)) (fun _ hk => hk.2) (.int .i64 t279)) (fun _ hk => hk.2) (.int .i64 t280)) (fun _ hk => hk.2) (.int .i64 t281)) (fun _ hk => hk.2) (.int .i64 t282)) (fun _ h_ => h_.1))) (Kd.R_base ho0) hb); have n3_ := Aside0.mk (Kd.R_lower (Kd.R_new' (Kd.R_new' (Kd.R_new' ho0 (Kd.R_lt (by (with_reducible repeat (first | apply Kd.R_alloc | apply Kd.R_drewN | apply Kd.R_drew)); exact (Kd.R_mono (Kd.R_far (p := ⟨gb283, 4, none⟩) (Kd.R_far (p := ⟨gb283, 3, none⟩) (Kd.R_far (p := ⟨gb283, 2, none⟩) (Kd.R_far (p := ⟨gb283, 1, none⟩) (Kd.R_far (p := ⟨gb283, 0, none⟩) (Kd.R_types HO262.out BK283.out (by decide)) (fun _ hk => hk.2) (.slice Ao27 t276.length co27)) (fun _ hk => hk.2) (.int .i64 t279)) (fun _ hk => hk.2) (.int .i64 t280)) (fun _ hk => hk.2) (.int .i64 t281)) (fun _ hk => hk.2) (.int .i64 t282)) (fun _ h_ => h_.1))))) (Kd.R_lt (by (with_reducible repeat (first | apply Kd.R_alloc | apply Kd.R_drewN | apply Kd.R_drew)); exact (Kd.R_mono (Kd.R_far (p := ⟨gb283, 4, none⟩) (Kd.R_far (p := ⟨gb283, 3, none⟩) (Kd.R_far (p := ⟨gb283, 2, none⟩) (Kd.R_far (p := ⟨gb283, 1, none⟩) (Kd.R_far (p := ⟨gb283, 0, none⟩) (Kd.R_types HO269.out BK283.out (by decide)) (fun _ hk => hk.2) (.slice Ao27 t276.length co27)) (fun _ hk => hk.2) (.int .i64 t279)) (fun _ hk => hk.2) (.int .i64 t280)) (fun _ hk => hk.2) (.int .i64 t281)) (fun _ hk => hk.2) (.int .i64 t282)) (fun _ h_ => h_.1))))) (Kd.R_lt (by (with_reducible repeat (first | apply Kd.R_alloc | apply Kd.R_drewN | apply Kd.R_drew)); exact (Kd.R_mono (Kd.R_far (p := ⟨gb283, 4, none⟩) (Kd.R_far (p := ⟨gb283, 3, none⟩) (Kd.R_far (p := ⟨gb283, 2, none⟩) (Kd.R_far (p := ⟨gb283, 1, none⟩) (Kd.R_far (p := ⟨gb283, 0, none⟩) (Kd.R_types HO278.out BK283.out (by decide)) (fun _ hk => hk.2) (.slice Ao27 t276.length co27)) (fun _ hk => hk.2) (.int .i64 t279)) (fun _ hk => hk.2) (.int .i64 t280)) (fun _ hk => hk.2) (.int .i64 t281)) (fun _ hk => hk.2) (.int .i64 t282)) (fun _ h_ => h_.1))))) (below_size (be_ HB.out))); have n4_ := Aside0.mk (blk_below (g := gb258) (o := .cells #[.slice A0_0 l0_0.length c0_0, .int .i64 a0_1, .int .i64 a0_2, .int .i64 a0_3, .int .i64 a0_4] 24 (0, 0)) (by refine bl_ ?_; refine blk_far ?_ NB258_283.out _; refine bl_ ?_; refine blk_far ?_ NB258_283.out _; refine bl_ ?_; refine blk_far ?_ NB258_283.out _; refine bl_ ?_; refine blk_far ?_ NB258_283.out _; refine bl_ ?_; refine blk_far ?_ NB258_283.out _; refine bl_ ?_; exact BK258.out) hb); have n5_ := Aside0.mk (blk_below (g := gb275) (o := .cells #[.slice Ao21 t267.length co21, .int .i64 t270, .int .i64 t271, .int .i64 t272, .int .i64 t273] 28 (0, 0)) (by refine bl_ ?_; refine blk_far ?_ NB275_283.out _; refine bl_ ?_; refine blk_far ?_ NB275_283.out _; refine bl_ ?_; refine blk_far ?_ NB275_283.out _; refine bl_ ?_; refine blk_far ?_ NB275_283.out _; refine bl_ ?_; refine blk_far ?_ NB275_283.out _; refine bl_ ?_; exact BK275.out) hb); have n6_ := Aside0.mk (blk_below (g := gb283) (o := .cells #[.slice Ao27 t276.length co27, .int .i64 t279, .int .i64 t280, .int .i64 t281, .int .i64 t282] 28 (0, 0)) (by refine bl_ ?_; refine blk_put (cs := #[.slice Ao27 t276.length co27, .int .i64 t279, .int .i64 t280, .int .i64 t281, .int .i64 0]) ?_ 4 _ rfl; refine bl_ ?_; refine blk_put (cs := #[.slice Ao27 t276.length co27, .int .i64 t279, .int .i64 t280, .int .i64 0, .int .i64 0]) ?_ 3 _ rfl; refine bl_ ?_; refine blk_put (cs := #[.slice Ao27 t276.length co27, .int .i64 t279, .int .i64 0, .int .i64 0, .int .i64 0]) ?_ 2 _ rfl; refine bl_ ?_; refine blk_put (cs := #[.slice Ao27 t276.length co27, .int .i64 0, .int .i64 0, .int .i64 0, .int .i64 0]) ?_ 1 _ rfl; refine bl_ ?_; refine blk_put (cs := #[.slice none 0 0, .int .i64 0, .int .i64 0, .int .i64 0, .int .i64 0]) ?_ 0 _ rfl; refine bl_ ?_; exact BK283.out) hb); have n7_ := Aside0.mk (below_step (be_ HB.out) hb); clear HO262 HO269 HO278 BK258 BK275 BK283 HB; have HO262 := n0_; have HO269 := n1_; have HO278 := n2_; have HO286 := n3_; have BK258 := n4_; have BK275 := n5_; have BK283 := n6_; have HB := n7_; clear n0_ n1_ n2_ n3_ n4_ n5_ n6_ n7_; (try clear hb); (try clear hb2); (try clear hk); (try clear hi); (try clear ho0)) | ((with_reducible refine gate_dst (N := 9) rfl ?_); refine box_event ?hg (N := 9) ?hd (cs := #[.slice none 0 0, .int .i64 0, .int .i64 0, .int .i64 0, .int .i64 0]) (t := 28) ?hr ?_; (case hd => rfl); (case hg => rfl); (case hr => first | (go_simp; done) | (go_simp; rfl)); intro gb292 hg w32 hbox hb; have n0_ := Aside0.mk (Kd.R_below (ro_ HO262.out) hb); have n1_ := Aside0.mk (Kd.R_below (ro_ HO269.out) hb); have n2_ := Aside0.mk (Kd.R_below (ro_ HO278.out) hb); have n3_ := Aside0.mk (Kd.R_below (ro_ HO286.out) hb); have n4_ := Aside0.mk (blk_below (g := gb258) (o := .cells #[.slice A0_0 l0_0.length c0_0, .int .i64 a0_1, .int .i64 a0_2, .int .i64 a0_3, .int .i64 a0_4] 24 (0, 0)) (bl_ BK258.out) hb); have n5_ := Aside0.mk (blk_below (g := gb275) (o := .cells #[.slice Ao21 t267.length co21, .int .i64 t270, .int .i64 t271, .int .i64 t272, .int .i64 t273] 28 (0, 0)) (bl_ BK275.out) hb); have n6_ := Aside0.mk (blk_below (g := gb283) (o := .cells #[.slice Ao27 t276.length co27, .int .i64 t279, .int .i64 t280, .int .i64 t281, .int .i64 t282] 28 (0, 0)) (bl_ BK283.out) hb); have n7_ := Aside0.mk (below_step (be_ HB.out) hb); have n8_ := Aside0.mk (hbox); have n9_ := Aside0.mk ((by rw [hg]; exact (below_size (be_ HB.out)) : w.heap.size ≤ gb292)); have n10_ := Aside0.mk ((by rw [hg]; exact (below_size (be_ HB.out)) : w.heap.size ≤ gb292)); have n11_ := Aside0.mk ((by rw [hg]; exact Nat.ne_of_lt (blk_lt (g := gb258) (o := .cells #[.slice A0_0 l0_0.length c0_0, .int .i64 a0_1, .int .i64 a0_2, .int .i64 a0_3, .int .i64 a0_4] 24 (0, 0)) (bl_ BK258.out)) : gb258 ≠ gb292)); have n12_ := Aside0.mk ((by rw [hg]; exact Nat.ne_of_gt (blk_lt (g := gb258) (o := .cells #[.slice A0_0 l0_0.length c0_0, .int .i64 a0_1, .int .i64 a0_2, .int .i64 a0_3, .int .i64 a0_4] 24 (0, 0)) (bl_ BK258.out)) : gb292 ≠ gb258)); have n13_ := Aside0.mk ((by rw [hg]; exact Nat.ne_of_lt (blk_lt (g := gb275) (o := .cells #[.slice Ao21 t267.length co21, .int .i64 t270, .int .i64 t271, .int .i64 t272, .int .i64 t273] 28 (0, 0)) (bl_ BK275.out)) : gb275 ≠ gb292)); have n14_ := Aside0.mk ((by rw [hg]; exact Nat.ne_of_gt (blk_lt (g := gb275) (o := .cells #[.slice Ao21 t267.length co21, .int .i64 t270, .int .i64 t271, .int .i64 t272, .int .i64 t273] 28 (0, 0)) (bl_ BK275.out)) : gb292 ≠ gb275)); have n15_ := Aside0.mk ((by rw [hg]; exact Nat.ne_of_lt (blk_lt (g := gb283) (o := .cells #[.slice Ao27 t276.length co27, .int .i64 t279, .int .i64 t280, .int .i64 t281, .int .i64 t282] 28 (0, 0)) (bl_ BK283.out)) : gb283 ≠ gb292)); have n16_ := Aside0.mk ((by rw [hg]; exact Nat.ne_of_gt (blk_lt (g := gb283) (o := .cells #[.slice Ao27 t276.length co27, .int .i64 t279, .int .i64 t280, .int .i64 t281, .int .i64 t282] 28 (0, 0)) (bl_ BK283.out)) : gb292 ≠ gb283)); clear HO262 HO269 HO278 HO286 BK258 BK275 BK283 HB; have HO262 := n0_; have HO269 := n1_; have HO278 := n2_; have HO286 := n3_; have BK258 := n4_; have BK275 := n5_; have BK283 := n6_; have HB := n7_; have BK292 := n8_; have GW292 := n9_; have GE292 := n10_; have NB258_292 := n11_; have NB292_258 := n12_; have NB275_292 := n13_; have NB292_275 := n14_; have NB283_292 := n15_; have NB292_283 := n16_; clear n0_ n1_ n2_ n3_ n4_ n5_ n6_ n7_ n8_ n9_ n10_ n11_ n12_ n13_ n14_ n15_ n16_; clear hb hbox hg; obtain ⟨Ao33, co33, eo33⟩ := Kd.R_slice HO286.out; subst eo33; have hnb34 := NB292_258.out; have hnc34 := NB258_292.out; have hnb35 := NB292_275.out; have hnc35 := NB275_292.out; have hnb36 := NB292_283.out; have hnc36 := NB283_292.out; obtain ⟨hcz37_0, hcz37_1, hcz37_2, hcz37_3, hcz37_4, hfz37_0, hfz37_1, hfz37_2, hfz37_3, hfz37_4⟩ := cz5_ BK292.out))
    (try simp only [Act.put, List.setIfInBounds_toArray, List.set_cons_zero, List.set_cons_succ])
    go_cut [44] (fun v44 wc => ∃ (kq : Nat) (x44_11 : Bool), v44 = .bool x44_11 ∧ Aside0 (laws_FnExactRemoveAt.j0 kq a1 t274 t291 x44_11 l0_0 a0_1 a0_2 a0_3 a0_4 t267 t270 t271 t272 t273 t276 t279 t280 t281 t282 t284 t287 t288 t289 t290 = some r) ∧ Aside0 (kq ≤ k) ∧ Aside0 (Kd.R k65 65 wc w.heap.size (fun k_ => some k_ ≠ ((.slice Ao27 t276.length co27) : Value).ownBlock ∧ some k_ ≠ ((.slice Ao33 t284.length co33) : Value).ownBlock) (.slice Ao21 t267.length co21) t267) ∧ Aside0 (Kd.R k65 65 wc w.heap.size (fun k_ => some k_ ≠ ((.slice Ao21 t267.length co21) : Value).ownBlock ∧ some k_ ≠ ((.slice Ao33 t284.length co33) : Value).ownBlock) (.slice Ao27 t276.length co27) t276) ∧ Aside0 (Kd.R k65 65 wc w.heap.size (fun k_ => some k_ ≠ ((.slice Ao21 t267.length co21) : Value).ownBlock ∧ some k_ ≠ ((.slice Ao27 t276.length co27) : Value).ownBlock) (.slice Ao33 t284.length co33) t284) ∧ Aside0 (wc.heap[gb258]? = some (.cells #[(.slice A0_0 l0_0.length c0_0), .int .i64 a0_1, .int .i64 a0_2, .int .i64 a0_3, .int .i64 a0_4] 24 (0, 0))) ∧ Aside0 (wc.heap[gb275]? = some (.cells #[(.slice Ao21 t267.length co21), .int .i64 t270, .int .i64 t271, .int .i64 t272, .int .i64 t273] 28 (0, 0))) ∧ Aside0 (wc.heap[gb283]? = some (.cells #[(.slice Ao27 t276.length co27), .int .i64 t279, .int .i64 t280, .int .i64 t281, .int .i64 t282] 28 (0, 0))) ∧ Aside0 (wc.heap[gb292]? = some (.cells #[(.slice Ao33 t284.length co33), .int .i64 t287, .int .i64 t288, .int .i64 t289, .int .i64 t290] 28 (0, 0))) ∧ Aside0 (Below w.heap.size w wc))
    case first =>
      have H := HC12.out
      clear HC12
      replace H := Option.bind_eq_some_iff.mp H
      obtain ⟨t293, A380, H⟩ := H
      replace H : (if t293 = true then (laws_FnExactRemoveAt.j0 k a1 t274 t291 (t291 != t274) l0_0 a0_1 a0_2 a0_3 a0_4 t267 t270 t271 t272 t273 t276 t279 t280 t281 t282 t284 t287 t288 t289 t290) else (laws_FnExactRemoveAt.j0 k a1 t274 t291 true l0_0 a0_1 a0_2 a0_3 a0_4 t267 t270 t271 t272 t273 t276 t279 t280 t281 t282 t284 t287 t288 t289 t290)) = some r := H
      have A38 := Aside0.mk A380
      clear A380
      by_cases c39 : t293 = true
      · subst c39
        have H1 : (laws_FnExactRemoveAt.j0 k a1 t274 t291 (t291 != t274) l0_0 a0_1 a0_2 a0_3 a0_4 t267 t270 t271 t272 t273 t276 t279 t280 t281 t282 t284 t287 t288 t289 t290) = some r := by rw [if_pos rfl] at H; exact H
        clear H
        have H := H1
        clear H1
        have H' := Aside0.mk H
        clear H
        have hnb40 := NB292_258.out
        have hnc40 := NB258_292.out
        have hnb41 := NB292_275.out
        have hnc41 := NB275_292.out
        have hnb42 := NB292_283.out
        have hnc42 := NB283_292.out
        have hcz43_0 : w32.cell? ⟨gb292, 0, none⟩ = some (.slice none 0 0) := (blk_cell BK292.out 0).trans rfl
        have hcz43_1 : w32.cell? ⟨gb292, 1, none⟩ = some (.int .i64 0) := (blk_cell BK292.out 1).trans rfl
        have hcz43_2 : w32.cell? ⟨gb292, 2, none⟩ = some (.int .i64 0) := (blk_cell BK292.out 2).trans rfl
        have hcz43_3 : w32.cell? ⟨gb292, 3, none⟩ = some (.int .i64 0) := (blk_cell BK292.out 3).trans rfl
        have hcz43_4 : w32.cell? ⟨gb292, 4, none⟩ = some (.int .i64 0) := (blk_cell BK292.out 4).trans rfl
        have hfz43_0 := blk_frozen BK292.out 0
        have hfz43_1 := blk_frozen BK292.out 1
        have hfz43_2 := blk_frozen BK292.out 2
        have hfz43_3 := blk_frozen BK292.out 3
        have hfz43_4 := blk_frozen BK292.out 4
        have hnb44 := NB275_258.out
        have hnc44 := NB258_275.out
        have hnb45 := NB275_283.out
        have hnc45 := NB283_275.out
        have hcz46_0 : w32.cell? ⟨gb275, 0, none⟩ = some (.slice Ao21 t267.length co21) := (blk_cell BK275.out 0).trans rfl
        have hcz46_1 : w32.cell? ⟨gb275, 1, none⟩ = some (.int .i64 t270) := (blk_cell BK275.out 1).trans rfl
        have hcz46_2 : w32.cell? ⟨gb275, 2, none⟩ = some (.int .i64 t271) := (blk_cell BK275.out 2).trans rfl
        have hcz46_3 : w32.cell? ⟨gb275, 3, none⟩ = some (.int .i64 t272) := (blk_cell BK275.out 3).trans rfl
        have hcz46_4 : w32.cell? ⟨gb275, 4, none⟩ = some (.int .i64 t273) := (blk_cell BK275.out 4).trans rfl
        have hfz46_0 := blk_frozen BK275.out 0
        have hfz46_1 := blk_frozen BK275.out 1
        have hfz46_2 := blk_frozen BK275.out 2
        have hfz46_3 := blk_frozen BK275.out 3
        have hfz46_4 := blk_frozen BK275.out 4
        go_wp2_with (first | ((with_reducible refine gate_callee (f := 17) rfl ?_); refine goesL_ (some 38) rfl rfl Try.func17 (by kernel_rfl) rfl #[.agg #[.slice Ao33 t284.length co33, .int .i64 t287, .int .i64 t288, .int .i64 t289, .int .i64 t290], .agg #[.slice Ao21 t267.length co21, .int .i64 t270, .int .i64 t271, .int .i64 t272, .int .i64 t273]] rfl (by (try simp only [List.map_toArray, List.map_cons, List.map_nil]); first | done | rfl | (simp only [List.length_drop, List.length_take]; rfl)) ?_; (with_reducible refine (laws_eqQueue.calls k _ _ t284 t287 t288 t289 t290 _ _ t267 t270 t271 t272 t273 true _ ?side1 ?side2 ?side3 ?side4 A38.out).mono ?_); (case side1 => refine (Kd.R_reads' (e := 65) (base := w.heap.size) (ok := fun k_ => (((True ∧ some k_ ≠ (.slice Ao18 t260.length co18 : Value).ownBlock) ∧ some k_ ≠ (.slice Ao21 t267.length co21 : Value).ownBlock) ∧ some k_ ≠ (.slice Ao27 t276.length co27 : Value).ownBlock)) (n := t284.length) (c := co33) ?_).2.2; exact (by (with_reducible repeat (first | apply Kd.R_alloc | apply Kd.R_drewN | apply Kd.R_drew)); exact (Kd.R_mono (Kd.R_far (p := ⟨gb292, 4, none⟩) (Kd.R_far (p := ⟨gb292, 3, none⟩) (Kd.R_far (p := ⟨gb292, 2, none⟩) (Kd.R_far (p := ⟨gb292, 1, none⟩) (Kd.R_far (p := ⟨gb292, 0, none⟩) (Kd.R_types HO286.out BK292.out (by decide)) (fun _ hk => hk.2) (.slice Ao33 t284.length co33)) (fun _ hk => hk.2) (.int .i64 t287)) (fun _ hk => hk.2) (.int .i64 t288)) (fun _ hk => hk.2) (.int .i64 t289)) (fun _ hk => hk.2) (.int .i64 t290)) (fun _ h_ => h_.1)))); (case side2 => exact (Kd.R_reads' HO286.out).2.1); (case side3 => refine (Kd.R_reads' (e := 65) (base := w.heap.size) (ok := fun k_ => (((True ∧ some k_ ≠ (.slice Ao18 t260.length co18 : Value).ownBlock) ∧ some k_ ≠ (.slice Ao27 t276.length co27 : Value).ownBlock) ∧ some k_ ≠ (.slice Ao33 t284.length co33 : Value).ownBlock)) (n := t267.length) (c := co21) ?_).2.2; exact (by (with_reducible repeat (first | apply Kd.R_alloc | apply Kd.R_drewN | apply Kd.R_drew)); exact (Kd.R_mono (Kd.R_far (p := ⟨gb292, 4, none⟩) (Kd.R_far (p := ⟨gb292, 3, none⟩) (Kd.R_far (p := ⟨gb292, 2, none⟩) (Kd.R_far (p := ⟨gb292, 1, none⟩) (Kd.R_far (p := ⟨gb292, 0, none⟩) (Kd.R_types HO269.out BK292.out (by decide)) (fun _ hk => hk.2) (.slice Ao33 t284.length co33)) (fun _ hk => hk.2) (.int .i64 t287)) (fun _ hk => hk.2) (.int .i64 t288)) (fun _ hk => hk.2) (.int .i64 t289)) (fun _ hk => hk.2) (.int .i64 t290)) (fun _ h_ => h_.1)))); (case side4 => exact (Kd.R_reads' HO269.out).2.1); rintro e w47 ⟨rfl, hb⟩; refine ⟨_, rfl, ?_⟩; have n0_ := Aside0.mk (Kd.R_below (by (with_reducible repeat (first | apply Kd.R_alloc | apply Kd.R_drewN | apply Kd.R_drew)); exact (Kd.R_mono (Kd.R_far (p := ⟨gb292, 4, none⟩) (Kd.R_far (p := ⟨gb292, 3, none⟩) (Kd.R_far (p := ⟨gb292, 2, none⟩) (Kd.R_far (p := ⟨gb292, 1, none⟩) (Kd.R_far (p := ⟨gb292, 0, none⟩) (Kd.R_types HO262.out BK292.out (by decide)) (fun _ hk => hk.2) (.slice Ao33 t284.length co33)) (fun _ hk => hk.2) (.int .i64 t287)) (fun _ hk => hk.2) (.int .i64 t288)) (fun _ hk => hk.2) (.int .i64 t289)) (fun _ hk => hk.2) (.int .i64 t290)) (fun _ h_ => h_.1))) hb); have n1_ := Aside0.mk (Kd.R_below (by (with_reducible repeat (first | apply Kd.R_alloc | apply Kd.R_drewN | apply Kd.R_drew)); exact (Kd.R_mono (Kd.R_far (p := ⟨gb292, 4, none⟩) (Kd.R_far (p := ⟨gb292, 3, none⟩) (Kd.R_far (p := ⟨gb292, 2, none⟩) (Kd.R_far (p := ⟨gb292, 1, none⟩) (Kd.R_far (p := ⟨gb292, 0, none⟩) (Kd.R_types HO269.out BK292.out (by decide)) (fun _ hk => hk.2) (.slice Ao33 t284.length co33)) (fun _ hk => hk.2) (.int .i64 t287)) (fun _ hk => hk.2) (.int .i64 t288)) (fun _ hk => hk.2) (.int .i64 t289)) (fun _ hk => hk.2) (.int .i64 t290)) (fun _ h_ => h_.1))) hb); have n2_ := Aside0.mk (Kd.R_below (by (with_reducible repeat (first | apply Kd.R_alloc | apply Kd.R_drewN | apply Kd.R_drew)); exact (Kd.R_mono (Kd.R_far (p := ⟨gb292, 4, none⟩) (Kd.R_far (p := ⟨gb292, 3, none⟩) (Kd.R_far (p := ⟨gb292, 2, none⟩) (Kd.R_far (p := ⟨gb292, 1, none⟩) (Kd.R_far (p := ⟨gb292, 0, none⟩) (Kd.R_types HO278.out BK292.out (by decide)) (fun _ hk => hk.2) (.slice Ao33 t284.length co33)) (fun _ hk => hk.2) (.int .i64 t287)) (fun _ hk => hk.2) (.int .i64 t288)) (fun _ hk => hk.2) (.int .i64 t289)) (fun _ hk => hk.2) (.int .i64 t290)) (fun _ h_ => h_.1))) hb); have n3_ := Aside0.mk (Kd.R_below (by (with_reducible repeat (first | apply Kd.R_alloc | apply Kd.R_drewN | apply Kd.R_drew)); exact (Kd.R_mono (Kd.R_far (p := ⟨gb292, 4, none⟩) (Kd.R_far (p := ⟨gb292, 3, none⟩) (Kd.R_far (p := ⟨gb292, 2, none⟩) (Kd.R_far (p := ⟨gb292, 1, none⟩) (Kd.R_far (p := ⟨gb292, 0, none⟩) (Kd.R_types HO286.out BK292.out (by decide)) (fun _ hk => hk.2) (.slice Ao33 t284.length co33)) (fun _ hk => hk.2) (.int .i64 t287)) (fun _ hk => hk.2) (.int .i64 t288)) (fun _ hk => hk.2) (.int .i64 t289)) (fun _ hk => hk.2) (.int .i64 t290)) (fun _ h_ => h_.1))) hb); have n4_ := Aside0.mk (blk_below (g := gb258) (o := .cells #[.slice A0_0 l0_0.length c0_0, .int .i64 a0_1, .int .i64 a0_2, .int .i64 a0_3, .int .i64 a0_4] 24 (0, 0)) (by refine bl_ ?_; refine blk_far ?_ NB258_292.out _; refine bl_ ?_; refine blk_far ?_ NB258_292.out _; refine bl_ ?_; refine blk_far ?_ NB258_292.out _; refine bl_ ?_; refine blk_far ?_ NB258_292.out _; refine bl_ ?_; refine blk_far ?_ NB258_292.out _; refine bl_ ?_; exact BK258.out) hb); have n5_ := Aside0.mk (blk_below (g := gb275) (o := .cells #[.slice Ao21 t267.length co21, .int .i64 t270, .int .i64 t271, .int .i64 t272, .int .i64 t273] 28 (0, 0)) (by refine bl_ ?_; refine blk_far ?_ NB275_292.out _; refine bl_ ?_; refine blk_far ?_ NB275_292.out _; refine bl_ ?_; refine blk_far ?_ NB275_292.out _; refine bl_ ?_; refine blk_far ?_ NB275_292.out _; refine bl_ ?_; refine blk_far ?_ NB275_292.out _; refine bl_ ?_; exact BK275.out) hb); have n6_ := Aside0.mk (blk_below (g := gb283) (o := .cells #[.slice Ao27 t276.length co27, .int .i64 t279, .int .i64 t280, .int .i64 t281, .int .i64 t282] 28 (0, 0)) (by refine bl_ ?_; refine blk_far ?_ NB283_292.out _; refine bl_ ?_; refine blk_far ?_ NB283_292.out _; refine bl_ ?_; refine blk_far ?_ NB283_292.out _; refine bl_ ?_; refine blk_far ?_ NB283_292.out _; refine bl_ ?_; refine blk_far ?_ NB283_292.out _; refine bl_ ?_; exact BK283.out) hb); have n7_ := Aside0.mk (blk_below (g := gb292) (o := .cells #[.slice Ao33 t284.length co33, .int .i64 t287, .int .i64 t288, .int .i64 t289, .int .i64 t290] 28 (0, 0)) (by refine bl_ ?_; refine blk_put (cs := #[.slice Ao33 t284.length co33, .int .i64 t287, .int .i64 t288, .int .i64 t289, .int .i64 0]) ?_ 4 _ rfl; refine bl_ ?_; refine blk_put (cs := #[.slice Ao33 t284.length co33, .int .i64 t287, .int .i64 t288, .int .i64 0, .int .i64 0]) ?_ 3 _ rfl; refine bl_ ?_; refine blk_put (cs := #[.slice Ao33 t284.length co33, .int .i64 t287, .int .i64 0, .int .i64 0, .int .i64 0]) ?_ 2 _ rfl; refine bl_ ?_; refine blk_put (cs := #[.slice Ao33 t284.length co33, .int .i64 0, .int .i64 0, .int .i64 0, .int .i64 0]) ?_ 1 _ rfl; refine bl_ ?_; refine blk_put (cs := #[.slice none 0 0, .int .i64 0, .int .i64 0, .int .i64 0, .int .i64 0]) ?_ 0 _ rfl; refine bl_ ?_; exact BK292.out) hb); have n8_ := Aside0.mk (below_step (be_ HB.out) hb); clear HO262 HO269 HO278 HO286 BK258 BK275 BK283 BK292 HB; have HO262 := n0_; have HO269 := n1_; have HO278 := n2_; have HO286 := n3_; have BK258 := n4_; have BK275 := n5_; have BK283 := n6_; have BK292 := n7_; have HB := n8_; clear n0_ n1_ n2_ n3_ n4_ n5_ n6_ n7_ n8_; (try clear hb); (try clear hb2); (try clear hk); (try clear hi)))
        go_meet
        case rel => exact ⟨_, ((t291 != t274)), (by first | rfl | (simp; done) | (simp [*]; done)), H', ⟨by first | omega | exact Nat.le_refl _⟩, ⟨by (with_reducible repeat (first | apply Kd.R_alloc | apply Kd.R_drewN | apply Kd.R_drew)); exact Kd.R_mono HO269.out (fun _ hk => ⟨hk.1.2, hk.2⟩)⟩, ⟨by (with_reducible repeat (first | apply Kd.R_alloc | apply Kd.R_drewN | apply Kd.R_drew)); exact Kd.R_mono HO278.out (fun _ hk => ⟨hk.1.2, hk.2⟩)⟩, ⟨by (with_reducible repeat (first | apply Kd.R_alloc | apply Kd.R_drewN | apply Kd.R_drew)); exact Kd.R_mono HO286.out (fun _ hk => ⟨hk.1.2, hk.2⟩)⟩, ⟨by refine bl_ ?_; exact BK258.out⟩, ⟨by refine bl_ ?_; exact BK275.out⟩, ⟨by refine bl_ ?_; exact BK283.out⟩, ⟨by refine bl_ ?_; exact BK292.out⟩, ⟨be_ HB.out⟩⟩
      · replace c39 := Bool.eq_false_iff.mpr c39
        subst c39
        have H1 : (laws_FnExactRemoveAt.j0 k a1 t274 t291 true l0_0 a0_1 a0_2 a0_3 a0_4 t267 t270 t271 t272 t273 t276 t279 t280 t281 t282 t284 t287 t288 t289 t290) = some r := by rw [if_neg (show ¬ (false = true) by decide)] at H; exact H
        clear H
        have H := H1
        clear H1
        have H' := Aside0.mk H
        clear H
        have hnb48 := NB292_258.out
        have hnc48 := NB258_292.out
        have hnb49 := NB292_275.out
        have hnc49 := NB275_292.out
        have hnb50 := NB292_283.out
        have hnc50 := NB283_292.out
        have hcz51_0 : w32.cell? ⟨gb292, 0, none⟩ = some (.slice none 0 0) := (blk_cell BK292.out 0).trans rfl
        have hcz51_1 : w32.cell? ⟨gb292, 1, none⟩ = some (.int .i64 0) := (blk_cell BK292.out 1).trans rfl
        have hcz51_2 : w32.cell? ⟨gb292, 2, none⟩ = some (.int .i64 0) := (blk_cell BK292.out 2).trans rfl
        have hcz51_3 : w32.cell? ⟨gb292, 3, none⟩ = some (.int .i64 0) := (blk_cell BK292.out 3).trans rfl
        have hcz51_4 : w32.cell? ⟨gb292, 4, none⟩ = some (.int .i64 0) := (blk_cell BK292.out 4).trans rfl
        have hfz51_0 := blk_frozen BK292.out 0
        have hfz51_1 := blk_frozen BK292.out 1
        have hfz51_2 := blk_frozen BK292.out 2
        have hfz51_3 := blk_frozen BK292.out 3
        have hfz51_4 := blk_frozen BK292.out 4
        have hnb52 := NB275_258.out
        have hnc52 := NB258_275.out
        have hnb53 := NB275_283.out
        have hnc53 := NB283_275.out
        have hcz54_0 : w32.cell? ⟨gb275, 0, none⟩ = some (.slice Ao21 t267.length co21) := (blk_cell BK275.out 0).trans rfl
        have hcz54_1 : w32.cell? ⟨gb275, 1, none⟩ = some (.int .i64 t270) := (blk_cell BK275.out 1).trans rfl
        have hcz54_2 : w32.cell? ⟨gb275, 2, none⟩ = some (.int .i64 t271) := (blk_cell BK275.out 2).trans rfl
        have hcz54_3 : w32.cell? ⟨gb275, 3, none⟩ = some (.int .i64 t272) := (blk_cell BK275.out 3).trans rfl
        have hcz54_4 : w32.cell? ⟨gb275, 4, none⟩ = some (.int .i64 t273) := (blk_cell BK275.out 4).trans rfl
        have hfz54_0 := blk_frozen BK275.out 0
        have hfz54_1 := blk_frozen BK275.out 1
        have hfz54_2 := blk_frozen BK275.out 2
        have hfz54_3 := blk_frozen BK275.out 3
        have hfz54_4 := blk_frozen BK275.out 4
        go_wp2_with (first | ((with_reducible refine gate_callee (f := 17) rfl ?_); refine goesL_ (some 38) rfl rfl Try.func17 (by kernel_rfl) rfl #[.agg #[.slice Ao33 t284.length co33, .int .i64 t287, .int .i64 t288, .int .i64 t289, .int .i64 t290], .agg #[.slice Ao21 t267.length co21, .int .i64 t270, .int .i64 t271, .int .i64 t272, .int .i64 t273]] rfl (by (try simp only [List.map_toArray, List.map_cons, List.map_nil]); first | done | rfl | (simp only [List.length_drop, List.length_take]; rfl)) ?_; (with_reducible refine (laws_eqQueue.calls k _ _ t284 t287 t288 t289 t290 _ _ t267 t270 t271 t272 t273 false _ ?side1 ?side2 ?side3 ?side4 A38.out).mono ?_); (case side1 => refine (Kd.R_reads' (e := 65) (base := w.heap.size) (ok := fun k_ => (((True ∧ some k_ ≠ (.slice Ao18 t260.length co18 : Value).ownBlock) ∧ some k_ ≠ (.slice Ao21 t267.length co21 : Value).ownBlock) ∧ some k_ ≠ (.slice Ao27 t276.length co27 : Value).ownBlock)) (n := t284.length) (c := co33) ?_).2.2; exact (by (with_reducible repeat (first | apply Kd.R_alloc | apply Kd.R_drewN | apply Kd.R_drew)); exact (Kd.R_mono (Kd.R_far (p := ⟨gb292, 4, none⟩) (Kd.R_far (p := ⟨gb292, 3, none⟩) (Kd.R_far (p := ⟨gb292, 2, none⟩) (Kd.R_far (p := ⟨gb292, 1, none⟩) (Kd.R_far (p := ⟨gb292, 0, none⟩) (Kd.R_types HO286.out BK292.out (by decide)) (fun _ hk => hk.2) (.slice Ao33 t284.length co33)) (fun _ hk => hk.2) (.int .i64 t287)) (fun _ hk => hk.2) (.int .i64 t288)) (fun _ hk => hk.2) (.int .i64 t289)) (fun _ hk => hk.2) (.int .i64 t290)) (fun _ h_ => h_.1)))); (case side2 => exact (Kd.R_reads' HO286.out).2.1); (case side3 => refine (Kd.R_reads' (e := 65) (base := w.heap.size) (ok := fun k_ => (((True ∧ some k_ ≠ (.slice Ao18 t260.length co18 : Value).ownBlock) ∧ some k_ ≠ (.slice Ao27 t276.length co27 : Value).ownBlock) ∧ some k_ ≠ (.slice Ao33 t284.length co33 : Value).ownBlock)) (n := t267.length) (c := co21) ?_).2.2; exact (by (with_reducible repeat (first | apply Kd.R_alloc | apply Kd.R_drewN | apply Kd.R_drew)); exact (Kd.R_mono (Kd.R_far (p := ⟨gb292, 4, none⟩) (Kd.R_far (p := ⟨gb292, 3, none⟩) (Kd.R_far (p := ⟨gb292, 2, none⟩) (Kd.R_far (p := ⟨gb292, 1, none⟩) (Kd.R_far (p := ⟨gb292, 0, none⟩) (Kd.R_types HO269.out BK292.out (by decide)) (fun _ hk => hk.2) (.slice Ao33 t284.length co33)) (fun _ hk => hk.2) (.int .i64 t287)) (fun _ hk => hk.2) (.int .i64 t288)) (fun _ hk => hk.2) (.int .i64 t289)) (fun _ hk => hk.2) (.int .i64 t290)) (fun _ h_ => h_.1)))); (case side4 => exact (Kd.R_reads' HO269.out).2.1); rintro e w55 ⟨rfl, hb⟩; refine ⟨_, rfl, ?_⟩; have n0_ := Aside0.mk (Kd.R_below (by (with_reducible repeat (first | apply Kd.R_alloc | apply Kd.R_drewN | apply Kd.R_drew)); exact (Kd.R_mono (Kd.R_far (p := ⟨gb292, 4, none⟩) (Kd.R_far (p := ⟨gb292, 3, none⟩) (Kd.R_far (p := ⟨gb292, 2, none⟩) (Kd.R_far (p := ⟨gb292, 1, none⟩) (Kd.R_far (p := ⟨gb292, 0, none⟩) (Kd.R_types HO262.out BK292.out (by decide)) (fun _ hk => hk.2) (.slice Ao33 t284.length co33)) (fun _ hk => hk.2) (.int .i64 t287)) (fun _ hk => hk.2) (.int .i64 t288)) (fun _ hk => hk.2) (.int .i64 t289)) (fun _ hk => hk.2) (.int .i64 t290)) (fun _ h_ => h_.1))) hb); have n1_ := Aside0.mk (Kd.R_below (by (with_reducible repeat (first | apply Kd.R_alloc | apply Kd.R_drewN | apply Kd.R_drew)); exact (Kd.R_mono (Kd.R_far (p := ⟨gb292, 4, none⟩) (Kd.R_far (p := ⟨gb292, 3, none⟩) (Kd.R_far (p := ⟨gb292, 2, none⟩) (Kd.R_far (p := ⟨gb292, 1, none⟩) (Kd.R_far (p := ⟨gb292, 0, none⟩) (Kd.R_types HO269.out BK292.out (by decide)) (fun _ hk => hk.2) (.slice Ao33 t284.length co33)) (fun _ hk => hk.2) (.int .i64 t287)) (fun _ hk => hk.2) (.int .i64 t288)) (fun _ hk => hk.2) (.int .i64 t289)) (fun _ hk => hk.2) (.int .i64 t290)) (fun _ h_ => h_.1))) hb); have n2_ := Aside0.mk (Kd.R_below (by (with_reducible repeat (first | apply Kd.R_alloc | apply Kd.R_drewN | apply Kd.R_drew)); exact (Kd.R_mono (Kd.R_far (p := ⟨gb292, 4, none⟩) (Kd.R_far (p := ⟨gb292, 3, none⟩) (Kd.R_far (p := ⟨gb292, 2, none⟩) (Kd.R_far (p := ⟨gb292, 1, none⟩) (Kd.R_far (p := ⟨gb292, 0, none⟩) (Kd.R_types HO278.out BK292.out (by decide)) (fun _ hk => hk.2) (.slice Ao33 t284.length co33)) (fun _ hk => hk.2) (.int .i64 t287)) (fun _ hk => hk.2) (.int .i64 t288)) (fun _ hk => hk.2) (.int .i64 t289)) (fun _ hk => hk.2) (.int .i64 t290)) (fun _ h_ => h_.1))) hb); have n3_ := Aside0.mk (Kd.R_below (by (with_reducible repeat (first | apply Kd.R_alloc | apply Kd.R_drewN | apply Kd.R_drew)); exact (Kd.R_mono (Kd.R_far (p := ⟨gb292, 4, none⟩) (Kd.R_far (p := ⟨gb292, 3, none⟩) (Kd.R_far (p := ⟨gb292, 2, none⟩) (Kd.R_far (p := ⟨gb292, 1, none⟩) (Kd.R_far (p := ⟨gb292, 0, none⟩) (Kd.R_types HO286.out BK292.out (by decide)) (fun _ hk => hk.2) (.slice Ao33 t284.length co33)) (fun _ hk => hk.2) (.int .i64 t287)) (fun _ hk => hk.2) (.int .i64 t288)) (fun _ hk => hk.2) (.int .i64 t289)) (fun _ hk => hk.2) (.int .i64 t290)) (fun _ h_ => h_.1))) hb); have n4_ := Aside0.mk (blk_below (g := gb258) (o := .cells #[.slice A0_0 l0_0.length c0_0, .int .i64 a0_1, .int .i64 a0_2, .int .i64 a0_3, .int .i64 a0_4] 24 (0, 0)) (by refine bl_ ?_; refine blk_far ?_ NB258_292.out _; refine bl_ ?_; refine blk_far ?_ NB258_292.out _; refine bl_ ?_; refine blk_far ?_ NB258_292.out _; refine bl_ ?_; refine blk_far ?_ NB258_292.out _; refine bl_ ?_; refine blk_far ?_ NB258_292.out _; refine bl_ ?_; exact BK258.out) hb); have n5_ := Aside0.mk (blk_below (g := gb275) (o := .cells #[.slice Ao21 t267.length co21, .int .i64 t270, .int .i64 t271, .int .i64 t272, .int .i64 t273] 28 (0, 0)) (by refine bl_ ?_; refine blk_far ?_ NB275_292.out _; refine bl_ ?_; refine blk_far ?_ NB275_292.out _; refine bl_ ?_; refine blk_far ?_ NB275_292.out _; refine bl_ ?_; refine blk_far ?_ NB275_292.out _; refine bl_ ?_; refine blk_far ?_ NB275_292.out _; refine bl_ ?_; exact BK275.out) hb); have n6_ := Aside0.mk (blk_below (g := gb283) (o := .cells #[.slice Ao27 t276.length co27, .int .i64 t279, .int .i64 t280, .int .i64 t281, .int .i64 t282] 28 (0, 0)) (by refine bl_ ?_; refine blk_far ?_ NB283_292.out _; refine bl_ ?_; refine blk_far ?_ NB283_292.out _; refine bl_ ?_; refine blk_far ?_ NB283_292.out _; refine bl_ ?_; refine blk_far ?_ NB283_292.out _; refine bl_ ?_; refine blk_far ?_ NB283_292.out _; refine bl_ ?_; exact BK283.out) hb); have n7_ := Aside0.mk (blk_below (g := gb292) (o := .cells #[.slice Ao33 t284.length co33, .int .i64 t287, .int .i64 t288, .int .i64 t289, .int .i64 t290] 28 (0, 0)) (by refine bl_ ?_; refine blk_put (cs := #[.slice Ao33 t284.length co33, .int .i64 t287, .int .i64 t288, .int .i64 t289, .int .i64 0]) ?_ 4 _ rfl; refine bl_ ?_; refine blk_put (cs := #[.slice Ao33 t284.length co33, .int .i64 t287, .int .i64 t288, .int .i64 0, .int .i64 0]) ?_ 3 _ rfl; refine bl_ ?_; refine blk_put (cs := #[.slice Ao33 t284.length co33, .int .i64 t287, .int .i64 0, .int .i64 0, .int .i64 0]) ?_ 2 _ rfl; refine bl_ ?_; refine blk_put (cs := #[.slice Ao33 t284.length co33, .int .i64 0, .int .i64 0, .int .i64 0, .int .i64 0]) ?_ 1 _ rfl; refine bl_ ?_; refine blk_put (cs := #[.slice none 0 0, .int .i64 0, .int .i64 0, .int .i64 0, .int .i64 0]) ?_ 0 _ rfl; refine bl_ ?_; exact BK292.out) hb); have n8_ := Aside0.mk (below_step (be_ HB.out) hb); clear HO262 HO269 HO278 HO286 BK258 BK275 BK283 BK292 HB; have HO262 := n0_; have HO269 := n1_; have HO278 := n2_; have HO286 := n3_; have BK258 := n4_; have BK275 := n5_; have BK283 := n6_; have BK292 := n7_; have HB := n8_; clear n0_ n1_ n2_ n3_ n4_ n5_ n6_ n7_ n8_; (try clear hb); (try clear hb2); (try clear hk); (try clear hi)))
        go_meet
        case rel => exact ⟨_, (true), (by first | rfl | (simp; done) | (simp [*]; done)), H', ⟨by first | omega | exact Nat.le_refl _⟩, ⟨by (with_reducible repeat (first | apply Kd.R_alloc | apply Kd.R_drewN | apply Kd.R_drew)); exact Kd.R_mono HO269.out (fun _ hk => ⟨hk.1.2, hk.2⟩)⟩, ⟨by (with_reducible repeat (first | apply Kd.R_alloc | apply Kd.R_drewN | apply Kd.R_drew)); exact Kd.R_mono HO278.out (fun _ hk => ⟨hk.1.2, hk.2⟩)⟩, ⟨by (with_reducible repeat (first | apply Kd.R_alloc | apply Kd.R_drewN | apply Kd.R_drew)); exact Kd.R_mono HO286.out (fun _ hk => ⟨hk.1.2, hk.2⟩)⟩, ⟨by refine bl_ ?_; exact BK258.out⟩, ⟨by refine bl_ ?_; exact BK275.out⟩, ⟨by refine bl_ ?_; exact BK283.out⟩, ⟨by refine bl_ ?_; exact BK292.out⟩, ⟨be_ HB.out⟩⟩
    case rest =>
      clear HC12
      try clear c1
      try clear c2
      try clear p2
      try clear c3
      try clear c4
      try clear c4b0
      try clear c5
      try clear c12
      try clear c13
      try clear c15
      try clear c17
      try clear c22
      try clear c28
      try clear c29
      try clear c34
      try clear c35
      try clear c36
      try clear c38
      try clear c39
      try clear c40
      try clear c41
      try clear c42
      try clear c44
      try clear c45
      try clear c46
      try clear c48
      try clear c49
      try clear c50
      try clear c52
      try clear c53
      try clear hcz14_0
      try clear hcz14_1
      try clear hcz14_2
      try clear hcz14_3
      try clear hcz14_4
      try clear hcz16_0
      try clear hcz16_1
      try clear hcz16_2
      try clear hcz16_3
      try clear hcz16_4
      try clear hcz23_0
      try clear hcz23_1
      try clear hcz23_2
      try clear hcz23_3
      try clear hcz23_4
      try clear hcz24_0
      try clear hcz24_1
      try clear hcz24_2
      try clear hcz24_3
      try clear hcz24_4
      try clear hcz30_0
      try clear hcz30_1
      try clear hcz30_2
      try clear hcz30_3
      try clear hcz30_4
      try clear hcz37_0
      try clear hcz37_1
      try clear hcz37_2
      try clear hcz37_3
      try clear hcz37_4
      try clear hcz43_0
      try clear hcz43_1
      try clear hcz43_2
      try clear hcz43_3
      try clear hcz43_4
      try clear hcz46_0
      try clear hcz46_1
      try clear hcz46_2
      try clear hcz46_3
      try clear hcz46_4
      try clear hcz51_0
      try clear hcz51_1
      try clear hcz51_2
      try clear hcz51_3
      try clear hcz51_4
      try clear hcz54_0
      try clear hcz54_1
      try clear hcz54_2
      try clear hcz54_3
      try clear hcz54_4
      try clear hcz6_0
      try clear hcz6_1
      try clear hcz6_2
      try clear hcz6_3
      try clear hcz6_4
      try clear hfz14_0
      try clear hfz14_1
      try clear hfz14_2
      try clear hfz14_3
      try clear hfz14_4
      try clear hfz16_0
      try clear hfz16_1
      try clear hfz16_2
      try clear hfz16_3
      try clear hfz16_4
      try clear hfz23_0
      try clear hfz23_1
      try clear hfz23_2
      try clear hfz23_3
      try clear hfz23_4
      try clear hfz24_0
      try clear hfz24_1
      try clear hfz24_2
      try clear hfz24_3
      try clear hfz24_4
      try clear hfz30_0
      try clear hfz30_1
      try clear hfz30_2
      try clear hfz30_3
      try clear hfz30_4
      try clear hfz37_0
      try clear hfz37_1
      try clear hfz37_2
      try clear hfz37_3
      try clear hfz37_4
      try clear hfz43_0
      try clear hfz43_1
      try clear hfz43_2
      try clear hfz43_3
      try clear hfz43_4
      try clear hfz46_0
      try clear hfz46_1
      try clear hfz46_2
      try clear hfz46_3
      try clear hfz46_4
      try clear hfz51_0
      try clear hfz51_1
      try clear hfz51_2
      try clear hfz51_3
      try clear hfz51_4
      try clear hfz54_0
      try clear hfz54_1
      try clear hfz54_2
      try clear hfz54_3
      try clear hfz54_4
      try clear hfz6_0
      try clear hfz6_1
      try clear hfz6_2
      try clear hfz6_3
      try clear hfz6_4
      obtain ⟨kq, x44_11, rfl, HA, HJ11, HO_276000, HO_284000, HO_293000, BK258, BK275, BK283, BK292, HB⟩ := hcut
      cases kq with
      | zero => exact absurd HA.out (by simp [laws_FnExactRemoveAt.j0])
      | succ kj11 =>
        have H := HA.out
        clear HA
        simp only [laws_FnExactRemoveAt.j0] at H
        by_cases c56 : x44_11 = true
        · subst c56
          have H1 : (some false) = some r := by rw [if_pos rfl] at H; exact H
          clear H
          have H := H1
          clear H1
          obtain rfl := Option.some.inj H
          go_wp2
          go_ret
          exact ⟨by first | rfl | (simp [errW_none, errW_some] <;> rfl) | (simp [*, errW_none, errW_some] <;> rfl), be_ HB.out⟩
        · replace c56 := Bool.eq_false_iff.mpr c56
          subst c56
          have H1 : ((laws_toQueue.f kj11 l0_0 a0_1 a0_2 a0_3 a0_4).bind fun bt294 => ((laws_eqQueue.f kj11 t276 t279 t280 t281 t282 bt294.1 bt294.2.1 bt294.2.2.1 bt294.2.2.2.1 bt294.2.2.2.2).bind fun t301 => (if t301 = true then ((laws_markQueue.f kj11 t276 t279 t280 t281 t282 1).bind fun bt302 => (if bt302.1 < 0 then (laws_FnExactRemoveAt.j1 kj11 a1 t274 true l0_0 a0_1 a0_2 a0_3 a0_4 t267 t270 t271 t272 t273 t284 t287 t288 t289 t290) else ((laws_eqQueue.f kj11 t284 t287 t288 t289 t290 t267 t270 t271 t272 t273).bind fun t304 => (if t304 = true then (laws_FnExactRemoveAt.j1 kj11 a1 t274 (t291 != t274) l0_0 a0_1 a0_2 a0_3 a0_4 t267 t270 t271 t272 t273 t284 t287 t288 t289 t290) else (laws_FnExactRemoveAt.j1 kj11 a1 t274 true l0_0 a0_1 a0_2 a0_3 a0_4 t267 t270 t271 t272 t273 t284 t287 t288 t289 t290))))) else (some false)))) = some r := by rw [if_neg (show ¬ (false = true) by decide)] at H; exact H
          clear H
          have H := H1
          clear H1
          replace H := Option.bind_eq_some_iff.mp H
          obtain ⟨⟨t294, t297, t298, t299, t300⟩, A570, H⟩ := H
          replace H : ((laws_eqQueue.f kj11 t276 t279 t280 t281 t282 t294 t297 t298 t299 t300).bind fun t301 => (if t301 = true then ((laws_markQueue.f kj11 t276 t279 t280 t281 t282 1).bind fun bt302 => (if bt302.1 < 0 then (laws_FnExactRemoveAt.j1 kj11 a1 t274 true l0_0 a0_1 a0_2 a0_3 a0_4 t267 t270 t271 t272 t273 t284 t287 t288 t289 t290) else ((laws_eqQueue.f kj11 t284 t287 t288 t289 t290 t267 t270 t271 t272 t273).bind fun t304 => (if t304 = true then (laws_FnExactRemoveAt.j1 kj11 a1 t274 (t291 != t274) l0_0 a0_1 a0_2 a0_3 a0_4 t267 t270 t271 t272 t273 t284 t287 t288 t289 t290) else (laws_FnExactRemoveAt.j1 kj11 a1 t274 true l0_0 a0_1 a0_2 a0_3 a0_4 t267 t270 t271 t272 t273 t284 t287 t288 t289 t290))))) else (some false))) = some r := H
          have A57 := Aside0.mk A570
          clear A570
          replace H := Option.bind_eq_some_iff.mp H
          obtain ⟨t301, A580, H⟩ := H
          replace H : (if t301 = true then ((laws_markQueue.f kj11 t276 t279 t280 t281 t282 1).bind fun bt302 => (if bt302.1 < 0 then (laws_FnExactRemoveAt.j1 kj11 a1 t274 true l0_0 a0_1 a0_2 a0_3 a0_4 t267 t270 t271 t272 t273 t284 t287 t288 t289 t290) else ((laws_eqQueue.f kj11 t284 t287 t288 t289 t290 t267 t270 t271 t272 t273).bind fun t304 => (if t304 = true then (laws_FnExactRemoveAt.j1 kj11 a1 t274 (t291 != t274) l0_0 a0_1 a0_2 a0_3 a0_4 t267 t270 t271 t272 t273 t284 t287 t288 t289 t290) else (laws_FnExactRemoveAt.j1 kj11 a1 t274 true l0_0 a0_1 a0_2 a0_3 a0_4 t267 t270 t271 t272 t273 t284 t287 t288 t289 t290))))) else (some false)) = some r := H
          have A58 := Aside0.mk A580
          clear A580
          by_cases c59 : t301 = true
          · subst c59
            have H1 : ((laws_markQueue.f kj11 t276 t279 t280 t281 t282 1).bind fun bt302 => (if bt302.1 < 0 then (laws_FnExactRemoveAt.j1 kj11 a1 t274 true l0_0 a0_1 a0_2 a0_3 a0_4 t267 t270 t271 t272 t273 t284 t287 t288 t289 t290) else ((laws_eqQueue.f kj11 t284 t287 t288 t289 t290 t267 t270 t271 t272 t273).bind fun t304 => (if t304 = true then (laws_FnExactRemoveAt.j1 kj11 a1 t274 (t291 != t274) l0_0 a0_1 a0_2 a0_3 a0_4 t267 t270 t271 t272 t273 t284 t287 t288 t289 t290) else (laws_FnExactRemoveAt.j1 kj11 a1 t274 true l0_0 a0_1 a0_2 a0_3 a0_4 t267 t270 t271 t272 t273 t284 t287 t288 t289 t290))))) = some r := by rw [if_pos rfl] at H; exact H
            clear H
            have H := H1
            clear H1
            replace H := Option.bind_eq_some_iff.mp H
            obtain ⟨⟨t302, t303⟩, A600, H⟩ := H
            replace H : (if t302 < 0 then (laws_FnExactRemoveAt.j1 kj11 a1 t274 true l0_0 a0_1 a0_2 a0_3 a0_4 t267 t270 t271 t272 t273 t284 t287 t288 t289 t290) else ((laws_eqQueue.f kj11 t284 t287 t288 t289 t290 t267 t270 t271 t272 t273).bind fun t304 => (if t304 = true then (laws_FnExactRemoveAt.j1 kj11 a1 t274 (t291 != t274) l0_0 a0_1 a0_2 a0_3 a0_4 t267 t270 t271 t272 t273 t284 t287 t288 t289 t290) else (laws_FnExactRemoveAt.j1 kj11 a1 t274 true l0_0 a0_1 a0_2 a0_3 a0_4 t267 t270 t271 t272 t273 t284 t287 t288 t289 t290)))) = some r := H
            have A60 := Aside0.mk A600
            clear A600
            have HC61 := Aside0.mk H
            clear H
            try go_wp2
            have n0_ := Aside0.mk (Kd.R_drew HO_276000.out)
            have n1_ := Aside0.mk (Kd.R_drew HO_284000.out)
            have n2_ := Aside0.mk (Kd.R_drew HO_293000.out)
            have n3_ := Aside0.mk (blk_drew BK258.out)
            have n4_ := Aside0.mk (blk_drew BK275.out)
            have n5_ := Aside0.mk (blk_drew BK283.out)
            have n6_ := Aside0.mk (blk_drew BK292.out)
            have n7_ := Aside0.mk (below_drew1 HB.out)
            clear HO_276000
            clear HO_284000
            clear HO_293000
            clear BK258
            clear BK275
            clear BK283
            clear BK292
            clear HB
            have HO_276000 := n0_
            have HO_284000 := n1_
            have HO_293000 := n2_
            have BK258 := n3_
            have BK275 := n4_
            have BK283 := n5_
            have BK292 := n6_
            have HB := n7_
            clear n0_ n1_ n2_ n3_ n4_ n5_ n6_ n7_
            refine start_ (n := 5) (S := fun w' => w'.cell? ⟨gb283, 0, none⟩ = some (.slice Ao27 t276.length co27) ∧ w'.cell? ⟨gb283, 1, none⟩ = some (.int .i64 t279) ∧ w'.cell? ⟨gb283, 2, none⟩ = some (.int .i64 t280) ∧ w'.cell? ⟨gb283, 3, none⟩ = some (.int .i64 t281) ∧ w'.cell? ⟨gb283, 4, none⟩ = some (.int .i64 t282) ∧ w'.cell? ⟨gb258, 0, none⟩ = some (.slice A0_0 l0_0.length c0_0) ∧ w'.cell? ⟨gb258, 1, none⟩ = some (.int .i64 a0_1) ∧ w'.cell? ⟨gb258, 2, none⟩ = some (.int .i64 a0_2) ∧ w'.cell? ⟨gb258, 3, none⟩ = some (.int .i64 a0_3) ∧ w'.cell? ⟨gb258, 4, none⟩ = some (.int .i64 a0_4)) (ds := []) #[false, false, false, false, false] (by kernel_rfl) rfl rfl ⟨(blk_cell BK283.out 0).trans rfl, (blk_cell BK283.out 1).trans rfl, (blk_cell BK283.out 2).trans rfl, (blk_cell BK283.out 3).trans rfl, (blk_cell BK283.out 4).trans rfl, (blk_cell BK258.out 0).trans rfl, (blk_cell BK258.out 1).trans rfl, (blk_cell BK258.out 2).trans rfl, (blk_cell BK258.out 3).trans rfl, (blk_cell BK258.out 4).trans rfl⟩ (fun hHeld => ?_)
            generalize wc.drew = w62 at HO_276000 HO_284000 HO_293000 BK258 BK275 BK283 BK292 HB hHeld ⊢
            refine take_ (i := 0) (N := some 45) (v := ?_) (a' := ?_) #[true, false, false, false, false] rfl rfl (by kernel_rfl) (fun _ _ _ h => h) (Or.inl ⟨by rfl, ?_⟩) hHeld ?_ ?_
            rotate_left
            · rintro w' ⟨s0, s1, s2, s3, s4, s5, s6, s7, s8, s9⟩
              go_simp
              with_reducible rfl
            rotate_left
            · simp only [Act.put, List.setIfInBounds_toArray, List.set_cons_zero, List.set_cons_succ, i64_w, i32_w]
              rfl
            refine take_ (i := 1) (N := some 46) (v := ?_) (a' := ?_) #[true, true, false, false, false] rfl rfl (by kernel_rfl) (fun _ _ _ h => h) (Or.inl ⟨by rfl, ?_⟩) hHeld ?_ ?_
            rotate_left
            · rintro w' ⟨s0, s1, s2, s3, s4, s5, s6, s7, s8, s9⟩
              go_simp
              with_reducible rfl
            rotate_left
            · simp only [Act.put, List.setIfInBounds_toArray, List.set_cons_zero, List.set_cons_succ, i64_w, i32_w]
              rfl
            refine one_ (i := 2) (N := some 47) #[true, true, true, false, false] rfl rfl (by kernel_rfl) (by decide) (fun K hK => ?_)
            refine goes_ Try.func15 (by kernel_rfl) rfl #[.agg #[.slice A0_0 l0_0.length c0_0, .int .i64 a0_1, .int .i64 a0_2, .int .i64 a0_3, .int .i64 a0_4]] (by rfl) rfl rfl (by (try simp only [List.map_toArray, List.map_cons, List.map_nil]); first | done | rfl | (simp only [List.length_drop, List.length_take]; rfl)) ?_
            with_reducible refine (laws_toQueue.calls kj11 _ _ l0_0 a0_1 a0_2 a0_3 a0_4 t294 t297 t298 t299 t300 _ ?side1 ?side2 A57.out).mono ?_
            (case side1 => repeat (first | exact (Kd.C_below HR0_0.out HB.out) | (with_reducible refine Kd.C_alloc ?_ _) | (with_reducible refine Kd.C_drewN ?_ _) | (with_reducible refine Kd.C_drew ?_)))
            (case side2 => exact HC0_0.out)
            rintro e w63 ⟨v295, rfl, ho0, hb⟩
            refine ⟨_, rfl, ?_⟩
            have n0_ := Aside0.mk (Kd.R_elder' (ro_ HO_276000.out) (Kd.R_base ho0) hb)
            have n1_ := Aside0.mk (Kd.R_elder' (ro_ HO_284000.out) (Kd.R_base ho0) hb)
            have n2_ := Aside0.mk (Kd.R_elder' (ro_ HO_293000.out) (Kd.R_base ho0) hb)
            have n3_ := Aside0.mk (Kd.R_lower (Kd.R_new' (Kd.R_new' (Kd.R_new' ho0 (Kd.R_lt (ro_ HO_276000.out))) (Kd.R_lt (ro_ HO_284000.out))) (Kd.R_lt (ro_ HO_293000.out))) (below_size (be_ HB.out)))
            have n4_ := Aside0.mk (blk_below (g := gb258) (o := .cells #[.slice A0_0 l0_0.length c0_0, .int .i64 a0_1, .int .i64 a0_2, .int .i64 a0_3, .int .i64 a0_4] 24 (0, 0)) (bl_ BK258.out) hb)
            have n5_ := Aside0.mk (blk_below (g := gb275) (o := .cells #[.slice Ao21 t267.length co21, .int .i64 t270, .int .i64 t271, .int .i64 t272, .int .i64 t273] 28 (0, 0)) (bl_ BK275.out) hb)
            have n6_ := Aside0.mk (blk_below (g := gb283) (o := .cells #[.slice Ao27 t276.length co27, .int .i64 t279, .int .i64 t280, .int .i64 t281, .int .i64 t282] 28 (0, 0)) (bl_ BK283.out) hb)
            have n7_ := Aside0.mk (blk_below (g := gb292) (o := .cells #[.slice Ao33 t284.length co33, .int .i64 t287, .int .i64 t288, .int .i64 t289, .int .i64 t290] 28 (0, 0)) (bl_ BK292.out) hb)
            have n8_ := Aside0.mk (below_step (be_ HB.out) hb)
            clear HO_276000
            clear HO_284000
            clear HO_293000
            clear BK258
            clear BK275
            clear BK283
            clear BK292
            clear HB
            have HO_276000 := n0_
            have HO_284000 := n1_
            have HO_293000 := n2_
            have HO296 := n3_
            have BK258 := n4_
            have BK275 := n5_
            have BK283 := n6_
            have BK292 := n7_
            have HB := n8_
            clear n0_ n1_ n2_ n3_ n4_ n5_ n6_ n7_ n8_
            (try clear hb)
            (try clear hb2)
            (try clear hk)
            (try clear hi)
            (try clear ho0)
            obtain ⟨Ao64, co64, eo64⟩ := Kd.R_slice HO296.out
            (first | subst eo64 | (injection eo64 with f1_ f2_ f3_; have f4_ := f1_.symm; have f5_ := f3_.symm; clear f1_ f2_ f3_; subst f4_; subst f5_))
            refine hK.out _ _ ⟨(blk_cell BK283.out 0).trans rfl, (blk_cell BK283.out 1).trans rfl, (blk_cell BK283.out 2).trans rfl, (blk_cell BK283.out 3).trans rfl, (blk_cell BK283.out 4).trans rfl, (blk_cell BK258.out 0).trans rfl, (blk_cell BK258.out 1).trans rfl, (blk_cell BK258.out 2).trans rfl, (blk_cell BK258.out 3).trans rfl, (blk_cell BK258.out 4).trans rfl⟩ (fun hHeld => ?_)
            clear hK K
            refine norm_ (a' := ?_) ?_ ?_
            rotate_left
            · show Act.put _ (some 47) _ = _
              simp only [Act.put, List.setIfInBounds_toArray, List.set_cons_zero, List.set_cons_succ, i64_w, i32_w]
              rfl
            refine one_ (i := 3) (N := some 48) #[true, true, true, true, false] rfl rfl (by kernel_rfl) (by decide) (fun K hK => ?_)
            refine goes_ Try.func17 (by kernel_rfl) rfl #[.agg #[.slice Ao27 t276.length co27, .int .i64 t279, .int .i64 t280, .int .i64 t281, .int .i64 t282], .agg #[.slice Ao64 t294.length co64, .int .i64 t297, .int .i64 t298, .int .i64 t299, .int .i64 t300]] (by rfl) rfl rfl (by (try simp only [List.map_toArray, List.map_cons, List.map_nil]); first | done | rfl | (simp only [List.length_drop, List.length_take]; rfl)) ?_
            with_reducible refine (laws_eqQueue.calls kj11 _ _ t276 t279 t280 t281 t282 _ _ t294 t297 t298 t299 t300 true _ ?side1 ?side2 ?side3 ?side4 A58.out).mono ?_
            (case side1 => repeat (first | exact (Kd.R_reads' HO_284000.out).2.2 | (with_reducible refine Kd.C_alloc ?_ _) | (with_reducible refine Kd.C_drewN ?_ _) | (with_reducible refine Kd.C_drew ?_)))
            (case side2 => exact (Kd.R_reads' HO_284000.out).2.1)
            (case side3 => repeat (first | exact (Kd.R_reads' HO296.out).2.2 | (with_reducible refine Kd.C_alloc ?_ _) | (with_reducible refine Kd.C_drewN ?_ _) | (with_reducible refine Kd.C_drew ?_)))
            (case side4 => exact (Kd.R_reads' HO296.out).2.1)
            rintro e w65 ⟨rfl, hb⟩
            refine ⟨_, rfl, ?_⟩
            have n0_ := Aside0.mk (Kd.R_below (ro_ HO_276000.out) hb)
            have n1_ := Aside0.mk (Kd.R_below (ro_ HO_284000.out) hb)
            have n2_ := Aside0.mk (Kd.R_below (ro_ HO_293000.out) hb)
            have n3_ := Aside0.mk (Kd.R_below (ro_ HO296.out) hb)
            have n4_ := Aside0.mk (blk_below (g := gb258) (o := .cells #[.slice A0_0 l0_0.length c0_0, .int .i64 a0_1, .int .i64 a0_2, .int .i64 a0_3, .int .i64 a0_4] 24 (0, 0)) (bl_ BK258.out) hb)
            have n5_ := Aside0.mk (blk_below (g := gb275) (o := .cells #[.slice Ao21 t267.length co21, .int .i64 t270, .int .i64 t271, .int .i64 t272, .int .i64 t273] 28 (0, 0)) (bl_ BK275.out) hb)
            have n6_ := Aside0.mk (blk_below (g := gb283) (o := .cells #[.slice Ao27 t276.length co27, .int .i64 t279, .int .i64 t280, .int .i64 t281, .int .i64 t282] 28 (0, 0)) (bl_ BK283.out) hb)
            have n7_ := Aside0.mk (blk_below (g := gb292) (o := .cells #[.slice Ao33 t284.length co33, .int .i64 t287, .int .i64 t288, .int .i64 t289, .int .i64 t290] 28 (0, 0)) (bl_ BK292.out) hb)
            have n8_ := Aside0.mk (below_step (be_ HB.out) hb)
            clear HO_276000
            clear HO_284000
            clear HO_293000
            clear HO296
            clear BK258
            clear BK275
            clear BK283
            clear BK292
            clear HB
            have HO_276000 := n0_
            have HO_284000 := n1_
            have HO_293000 := n2_
            have HO296 := n3_
            have BK258 := n4_
            have BK275 := n5_
            have BK283 := n6_
            have BK292 := n7_
            have HB := n8_
            clear n0_ n1_ n2_ n3_ n4_ n5_ n6_ n7_ n8_
            (try clear hb)
            (try clear hb2)
            (try clear hk)
            (try clear hi)
            refine hK.out _ _ ⟨(blk_cell BK283.out 0).trans rfl, (blk_cell BK283.out 1).trans rfl, (blk_cell BK283.out 2).trans rfl, (blk_cell BK283.out 3).trans rfl, (blk_cell BK283.out 4).trans rfl, (blk_cell BK258.out 0).trans rfl, (blk_cell BK258.out 1).trans rfl, (blk_cell BK258.out 2).trans rfl, (blk_cell BK258.out 3).trans rfl, (blk_cell BK258.out 4).trans rfl⟩ (fun hHeld => ?_)
            clear hK K
            refine norm_ (a' := ?_) ?_ ?_
            rotate_left
            · show Act.put _ (some 48) _ = _
              simp only [Act.put, List.setIfInBounds_toArray, List.set_cons_zero, List.set_cons_succ, i64_w, i32_w]
              rfl
            refine pure_ (i := 4) (N := some 49) (v := ?_) (a' := ?_) #[true, true, true, true, true] rfl rfl (by kernel_rfl) (fun _ _ _ h => h) (Or.inl ⟨by rfl, ?_⟩) ?_ ?_
            rotate_left
            · intro w'
              go_simp
              with_reducible rfl
            rotate_left
            · simp only [Act.put, List.setIfInBounds_toArray, List.set_cons_zero, List.set_cons_succ, i64_w, i32_w]
              rfl
            refine done_ (by kernel_rfl) ?_
            have hnb66 := NB283_258.out
            have hnc66 := NB258_283.out
            have hnb67 := NB283_275.out
            have hnc67 := NB275_283.out
            have hnb68 := NB283_292.out
            have hnc68 := NB292_283.out
            have hcz69_0 : w65.cell? ⟨gb283, 0, none⟩ = some (.slice Ao27 t276.length co27) := (blk_cell BK283.out 0).trans rfl
            have hcz69_1 : w65.cell? ⟨gb283, 1, none⟩ = some (.int .i64 t279) := (blk_cell BK283.out 1).trans rfl
            have hcz69_2 : w65.cell? ⟨gb283, 2, none⟩ = some (.int .i64 t280) := (blk_cell BK283.out 2).trans rfl
            have hcz69_3 : w65.cell? ⟨gb283, 3, none⟩ = some (.int .i64 t281) := (blk_cell BK283.out 3).trans rfl
            have hcz69_4 : w65.cell? ⟨gb283, 4, none⟩ = some (.int .i64 t282) := (blk_cell BK283.out 4).trans rfl
            have hfz69_0 := blk_frozen BK283.out 0
            have hfz69_1 := blk_frozen BK283.out 1
            have hfz69_2 := blk_frozen BK283.out 2
            have hfz69_3 := blk_frozen BK283.out 3
            have hfz69_4 := blk_frozen BK283.out 4
            go_upto_region 14 with (first | ((with_reducible refine gate_callee (f := 18) rfl ?_); refine goesL_ (some 52) rfl rfl Try.func18 (by kernel_rfl) rfl #[.agg #[.slice Ao27 t276.length co27, .int .i64 t279, .int .i64 t280, .int .i64 t281, .int .i64 t282], .int .i64 1] rfl (by (try simp only [List.map_toArray, List.map_cons, List.map_nil]); first | done | rfl | (simp only [List.length_drop, List.length_take]; rfl)) ?_; (with_reducible refine (laws_markQueue.calls kj11 (fun k_ => some k_ = (.slice Ao27 t276.length co27 : Value).ownBlock) (.slice Ao27 t276.length co27) t276 t279 t280 t281 t282 1 t302 t303 w _ ?side1 ?side2 A60.out).mono ?_); (case side1 => exact be_ HB.out); (case side2 => exact Kd.R_tight rfl HO_284000.out); rintro e w70 ⟨rfl, hy0, hb, hkp⟩; refine ⟨_, rfl, ?_⟩; have n0_ := Aside0.mk (Kd.R_mono (ok' := fun k_ => some k_ ≠ (.slice Ao27 t276.length co27 : Value).ownBlock ∧ some k_ ≠ (.slice Ao33 t284.length co33 : Value).ownBlock ∧ some k_ ≠ (.slice Ao64 t294.length co64 : Value).ownBlock) (Kd.R_keptB (HO_276000.out) hkp rn_) rm_); have n1_ := Aside0.mk (Kd.R_reok rfl hy0 (fun k_ e_ => HO_284000.out.1 k_ e_)); have n2_ := Aside0.mk (Kd.R_mono (ok' := fun k_ => some k_ ≠ (.slice Ao21 t267.length co21 : Value).ownBlock ∧ some k_ ≠ (.slice Ao27 t276.length co27 : Value).ownBlock ∧ some k_ ≠ (.slice Ao64 t294.length co64 : Value).ownBlock) (Kd.R_keptB (HO_293000.out) hkp rn_) rm_); have n3_ := Aside0.mk (blk_kept (bl_ BK258.out) hkp (fun hs_ => (fun e_ => (Kd.R_ne HO_284000.out BK258.out (by decide)) e_) hs_)); have n4_ := Aside0.mk (blk_kept (bl_ BK275.out) hkp (fun hs_ => (fun e_ => (Kd.R_ne HO_284000.out BK275.out (by decide)) e_) hs_)); have n5_ := Aside0.mk (blk_kept (bl_ BK283.out) hkp (fun hs_ => (fun e_ => (Kd.R_ne HO_284000.out BK283.out (by decide)) e_) hs_)); have n6_ := Aside0.mk (blk_kept (bl_ BK292.out) hkp (fun hs_ => (fun e_ => (Kd.R_ne HO_284000.out BK292.out (by decide)) e_) hs_)); have n7_ := Aside0.mk (Kd.R_mono (ok' := fun k_ => some k_ ≠ (.slice Ao21 t267.length co21 : Value).ownBlock ∧ some k_ ≠ (.slice Ao27 t276.length co27 : Value).ownBlock ∧ some k_ ≠ (.slice Ao33 t284.length co33 : Value).ownBlock) (Kd.R_keptB (HO296.out) hkp rn_) rm_); have n8_ := Aside0.mk (hb); clear HO_276000 HO_284000 HO_293000 BK258 BK275 BK283 BK292 HO296 HB; have HO_276000 := n0_; have HO_284000 := n1_; have HO_293000 := n2_; have BK258 := n3_; have BK275 := n4_; have BK283 := n5_; have BK292 := n6_; have HO296 := n7_; have HB := n8_; clear n0_ n1_ n2_ n3_ n4_ n5_ n6_ n7_ n8_; (try clear hb); (try clear hkp); (try clear hy0)))
            (try simp only [Act.put, List.setIfInBounds_toArray, List.set_cons_zero, List.set_cons_succ])
            go_cut [65] (fun v65 wc => ∃ (kq : Nat) (x65_60 : Bool), v65 = .bool x65_60 ∧ Aside0 (laws_FnExactRemoveAt.j1 kq a1 t274 x65_60 l0_0 a0_1 a0_2 a0_3 a0_4 t267 t270 t271 t272 t273 t284 t287 t288 t289 t290 = some r) ∧ Aside0 (kq ≤ kj11) ∧ Aside0 (Kd.R k65 65 wc w.heap.size (fun k_ => some k_ ≠ ((.slice Ao27 t276.length co27) : Value).ownBlock ∧ some k_ ≠ ((.slice Ao33 t284.length co33) : Value).ownBlock) (.slice Ao21 t267.length co21) t267) ∧ Aside0 (Kd.R k65 65 wc w.heap.size (fun k_ => some k_ ≠ ((.slice Ao21 t267.length co21) : Value).ownBlock ∧ some k_ ≠ ((.slice Ao33 t284.length co33) : Value).ownBlock) (.slice Ao27 t276.length co27) t303) ∧ Aside0 (Kd.R k65 65 wc w.heap.size (fun k_ => some k_ ≠ ((.slice Ao21 t267.length co21) : Value).ownBlock ∧ some k_ ≠ ((.slice Ao27 t276.length co27) : Value).ownBlock) (.slice Ao33 t284.length co33) t284) ∧ Aside0 (wc.heap[gb258]? = some (.cells #[(.slice A0_0 l0_0.length c0_0), .int .i64 a0_1, .int .i64 a0_2, .int .i64 a0_3, .int .i64 a0_4] 24 (0, 0))) ∧ Aside0 (wc.heap[gb275]? = some (.cells #[(.slice Ao21 t267.length co21), .int .i64 t270, .int .i64 t271, .int .i64 t272, .int .i64 t273] 28 (0, 0))) ∧ Aside0 (wc.heap[gb283]? = some (.cells #[(.slice Ao27 t276.length co27), .int .i64 t279, .int .i64 t280, .int .i64 t281, .int .i64 t282] 28 (0, 0))) ∧ Aside0 (wc.heap[gb292]? = some (.cells #[(.slice Ao33 t284.length co33), .int .i64 t287, .int .i64 t288, .int .i64 t289, .int .i64 t290] 28 (0, 0))) ∧ Aside0 (Below w.heap.size w wc))
            case first =>
              have H := HC61.out
              clear HC61
              by_cases c71 : t302 < 0
              · rw [if_pos c71] at H
                have c71b0 : decide (t302 < 0) = true := decide_eq_true c71
                clear c71
                (first | rw [c71b0] | (simp only [i64_w, i32_w]; rw [c71b0]) | skip)
                have H' := Aside0.mk H
                clear H
                go_wp2
                go_meet
                case rel => exact ⟨_, (true), (by first | rfl | (simp; done) | (simp [*]; done)), H', ⟨by have := HJ11.out; first | omega | exact Nat.le_refl _⟩, ⟨by (with_reducible repeat (first | apply Kd.R_alloc | apply Kd.R_drewN | apply Kd.R_drew)); exact Kd.R_mono HO_276000.out (fun _ hk => ⟨hk.1, hk.2.1⟩)⟩, ⟨by (with_reducible repeat (first | apply Kd.R_alloc | apply Kd.R_drewN | apply Kd.R_drew)); exact Kd.R_mono HO_284000.out (fun _ hk => ⟨hk.1.1, hk.1.2⟩)⟩, ⟨by (with_reducible repeat (first | apply Kd.R_alloc | apply Kd.R_drewN | apply Kd.R_drew)); exact Kd.R_mono HO_293000.out (fun _ hk => ⟨hk.1, hk.2.1⟩)⟩, ⟨by refine bl_ ?_; exact BK258.out⟩, ⟨by refine bl_ ?_; exact BK275.out⟩, ⟨by refine bl_ ?_; exact BK283.out⟩, ⟨by refine bl_ ?_; exact BK292.out⟩, ⟨be_ HB.out⟩⟩
              · rw [if_neg c71] at H
                have c71b0 : decide (t302 < 0) = false := decide_eq_false c71
                clear c71
                (first | rw [c71b0] | (simp only [i64_w, i32_w]; rw [c71b0]) | skip)
                replace H := Option.bind_eq_some_iff.mp H
                obtain ⟨t304, A720, H⟩ := H
                replace H : (if t304 = true then (laws_FnExactRemoveAt.j1 kj11 a1 t274 (t291 != t274) l0_0 a0_1 a0_2 a0_3 a0_4 t267 t270 t271 t272 t273 t284 t287 t288 t289 t290) else (laws_FnExactRemoveAt.j1 kj11 a1 t274 true l0_0 a0_1 a0_2 a0_3 a0_4 t267 t270 t271 t272 t273 t284 t287 t288 t289 t290)) = some r := H
                have A72 := Aside0.mk A720
                clear A720
                by_cases c73 : t304 = true
                · subst c73
                  have H1 : (laws_FnExactRemoveAt.j1 kj11 a1 t274 (t291 != t274) l0_0 a0_1 a0_2 a0_3 a0_4 t267 t270 t271 t272 t273 t284 t287 t288 t289 t290) = some r := by rw [if_pos rfl] at H; exact H
                  clear H
                  have H := H1
                  clear H1
                  have H' := Aside0.mk H
                  clear H
                  have hnb74 := NB292_258.out
                  have hnc74 := NB258_292.out
                  have hnb75 := NB292_275.out
                  have hnc75 := NB275_292.out
                  have hnb76 := NB292_283.out
                  have hnc76 := NB283_292.out
                  have hcz77_0 : w70.cell? ⟨gb292, 0, none⟩ = some (.slice Ao33 t284.length co33) := (blk_cell BK292.out 0).trans rfl
                  have hcz77_1 : w70.cell? ⟨gb292, 1, none⟩ = some (.int .i64 t287) := (blk_cell BK292.out 1).trans rfl
                  have hcz77_2 : w70.cell? ⟨gb292, 2, none⟩ = some (.int .i64 t288) := (blk_cell BK292.out 2).trans rfl
                  have hcz77_3 : w70.cell? ⟨gb292, 3, none⟩ = some (.int .i64 t289) := (blk_cell BK292.out 3).trans rfl
                  have hcz77_4 : w70.cell? ⟨gb292, 4, none⟩ = some (.int .i64 t290) := (blk_cell BK292.out 4).trans rfl
                  have hfz77_0 := blk_frozen BK292.out 0
                  have hfz77_1 := blk_frozen BK292.out 1
                  have hfz77_2 := blk_frozen BK292.out 2
                  have hfz77_3 := blk_frozen BK292.out 3
                  have hfz77_4 := blk_frozen BK292.out 4
                  have hnb78 := NB275_258.out
                  have hnc78 := NB258_275.out
                  have hnb79 := NB275_283.out
                  have hnc79 := NB283_275.out
                  have hcz80_0 : w70.cell? ⟨gb275, 0, none⟩ = some (.slice Ao21 t267.length co21) := (blk_cell BK275.out 0).trans rfl
                  have hcz80_1 : w70.cell? ⟨gb275, 1, none⟩ = some (.int .i64 t270) := (blk_cell BK275.out 1).trans rfl
                  have hcz80_2 : w70.cell? ⟨gb275, 2, none⟩ = some (.int .i64 t271) := (blk_cell BK275.out 2).trans rfl
                  have hcz80_3 : w70.cell? ⟨gb275, 3, none⟩ = some (.int .i64 t272) := (blk_cell BK275.out 3).trans rfl
                  have hcz80_4 : w70.cell? ⟨gb275, 4, none⟩ = some (.int .i64 t273) := (blk_cell BK275.out 4).trans rfl
                  have hfz80_0 := blk_frozen BK275.out 0
                  have hfz80_1 := blk_frozen BK275.out 1
                  have hfz80_2 := blk_frozen BK275.out 2
                  have hfz80_3 := blk_frozen BK275.out 3
                  have hfz80_4 := blk_frozen BK275.out 4
                  go_wp2_with (first | (go_at_call 17; (with_reducible refine (laws_eqQueue.calls kj11 _ _ t284 t287 t288 t289 t290 _ _ t267 t270 t271 t272 t273 true _ ?side1 ?side2 ?side3 ?side4 A72.out).mono ?_); (case side1 => repeat (first | exact (Kd.R_reads' HO_293000.out).2.2 | (with_reducible refine Kd.C_alloc ?_ _) | (with_reducible refine Kd.C_drewN ?_ _) | (with_reducible refine Kd.C_drew ?_))); (case side2 => exact (Kd.R_reads' HO_293000.out).2.1); (case side3 => repeat (first | exact (Kd.R_reads' HO_276000.out).2.2 | (with_reducible refine Kd.C_alloc ?_ _) | (with_reducible refine Kd.C_drewN ?_ _) | (with_reducible refine Kd.C_drew ?_))); (case side4 => exact (Kd.R_reads' HO_276000.out).2.1); rintro e w81 ⟨rfl, hb⟩; have n0_ := Aside0.mk (Kd.R_below (ro_ HO_276000.out) hb); have n1_ := Aside0.mk (Kd.R_below (ro_ HO_284000.out) hb); have n2_ := Aside0.mk (Kd.R_below (ro_ HO_293000.out) hb); have n3_ := Aside0.mk (Kd.R_below (ro_ HO296.out) hb); have n4_ := Aside0.mk (blk_below (g := gb258) (o := .cells #[.slice A0_0 l0_0.length c0_0, .int .i64 a0_1, .int .i64 a0_2, .int .i64 a0_3, .int .i64 a0_4] 24 (0, 0)) (bl_ BK258.out) hb); have n5_ := Aside0.mk (blk_below (g := gb275) (o := .cells #[.slice Ao21 t267.length co21, .int .i64 t270, .int .i64 t271, .int .i64 t272, .int .i64 t273] 28 (0, 0)) (bl_ BK275.out) hb); have n6_ := Aside0.mk (blk_below (g := gb283) (o := .cells #[.slice Ao27 t276.length co27, .int .i64 t279, .int .i64 t280, .int .i64 t281, .int .i64 t282] 28 (0, 0)) (bl_ BK283.out) hb); have n7_ := Aside0.mk (blk_below (g := gb292) (o := .cells #[.slice Ao33 t284.length co33, .int .i64 t287, .int .i64 t288, .int .i64 t289, .int .i64 t290] 28 (0, 0)) (bl_ BK292.out) hb); have n8_ := Aside0.mk (below_step (be_ HB.out) hb); clear HO_276000 HO_284000 HO_293000 HO296 BK258 BK275 BK283 BK292 HB; have HO_276000 := n0_; have HO_284000 := n1_; have HO_293000 := n2_; have HO296 := n3_; have BK258 := n4_; have BK275 := n5_; have BK283 := n6_; have BK292 := n7_; have HB := n8_; clear n0_ n1_ n2_ n3_ n4_ n5_ n6_ n7_ n8_; (try clear hb); (try clear hb2); (try clear hk); (try clear hi)))
                  go_meet
                  case rel => exact ⟨_, ((t291 != t274)), (by first | rfl | (simp; done) | (simp [*]; done)), H', ⟨by have := HJ11.out; first | omega | exact Nat.le_refl _⟩, ⟨by (with_reducible repeat (first | apply Kd.R_alloc | apply Kd.R_drewN | apply Kd.R_drew)); exact Kd.R_mono HO_276000.out (fun _ hk => ⟨hk.1, hk.2.1⟩)⟩, ⟨by (with_reducible repeat (first | apply Kd.R_alloc | apply Kd.R_drewN | apply Kd.R_drew)); exact Kd.R_mono HO_284000.out (fun _ hk => ⟨hk.1.1, hk.1.2⟩)⟩, ⟨by (with_reducible repeat (first | apply Kd.R_alloc | apply Kd.R_drewN | apply Kd.R_drew)); exact Kd.R_mono HO_293000.out (fun _ hk => ⟨hk.1, hk.2.1⟩)⟩, ⟨by refine bl_ ?_; exact BK258.out⟩, ⟨by refine bl_ ?_; exact BK275.out⟩, ⟨by refine bl_ ?_; exact BK283.out⟩, ⟨by refine bl_ ?_; exact BK292.out⟩, ⟨be_ HB.out⟩⟩
                · replace c73 := Bool.eq_false_iff.mpr c73
                  subst c73
                  have H1 : (laws_FnExactRemoveAt.j1 kj11 a1 t274 true l0_0 a0_1 a0_2 a0_3 a0_4 t267 t270 t271 t272 t273 t284 t287 t288 t289 t290) = some r := by rw [if_neg (show ¬ (false = true) by decide)] at H; exact H
                  clear H
                  have H := H1
                  clear H1
                  have H' := Aside0.mk H
                  clear H
                  have hnb82 := NB292_258.out
                  have hnc82 := NB258_292.out
                  have hnb83 := NB292_275.out
                  have hnc83 := NB275_292.out
                  have hnb84 := NB292_283.out
                  have hnc84 := NB283_292.out
                  have hcz85_0 : w70.cell? ⟨gb292, 0, none⟩ = some (.slice Ao33 t284.length co33) := (blk_cell BK292.out 0).trans rfl
                  have hcz85_1 : w70.cell? ⟨gb292, 1, none⟩ = some (.int .i64 t287) := (blk_cell BK292.out 1).trans rfl
                  have hcz85_2 : w70.cell? ⟨gb292, 2, none⟩ = some (.int .i64 t288) := (blk_cell BK292.out 2).trans rfl
                  have hcz85_3 : w70.cell? ⟨gb292, 3, none⟩ = some (.int .i64 t289) := (blk_cell BK292.out 3).trans rfl
                  have hcz85_4 : w70.cell? ⟨gb292, 4, none⟩ = some (.int .i64 t290) := (blk_cell BK292.out 4).trans rfl
                  have hfz85_0 := blk_frozen BK292.out 0
                  have hfz85_1 := blk_frozen BK292.out 1
                  have hfz85_2 := blk_frozen BK292.out 2
                  have hfz85_3 := blk_frozen BK292.out 3
                  have hfz85_4 := blk_frozen BK292.out 4
                  have hnb86 := NB275_258.out
                  have hnc86 := NB258_275.out
                  have hnb87 := NB275_283.out
                  have hnc87 := NB283_275.out
                  have hcz88_0 : w70.cell? ⟨gb275, 0, none⟩ = some (.slice Ao21 t267.length co21) := (blk_cell BK275.out 0).trans rfl
                  have hcz88_1 : w70.cell? ⟨gb275, 1, none⟩ = some (.int .i64 t270) := (blk_cell BK275.out 1).trans rfl
                  have hcz88_2 : w70.cell? ⟨gb275, 2, none⟩ = some (.int .i64 t271) := (blk_cell BK275.out 2).trans rfl
                  have hcz88_3 : w70.cell? ⟨gb275, 3, none⟩ = some (.int .i64 t272) := (blk_cell BK275.out 3).trans rfl
                  have hcz88_4 : w70.cell? ⟨gb275, 4, none⟩ = some (.int .i64 t273) := (blk_cell BK275.out 4).trans rfl
                  have hfz88_0 := blk_frozen BK275.out 0
                  have hfz88_1 := blk_frozen BK275.out 1
                  have hfz88_2 := blk_frozen BK275.out 2
                  have hfz88_3 := blk_frozen BK275.out 3
                  have hfz88_4 := blk_frozen BK275.out 4
                  go_wp2_with (first | (go_at_call 17; (with_reducible refine (laws_eqQueue.calls kj11 _ _ t284 t287 t288 t289 t290 _ _ t267 t270 t271 t272 t273 false _ ?side1 ?side2 ?side3 ?side4 A72.out).mono ?_); (case side1 => repeat (first | exact (Kd.R_reads' HO_293000.out).2.2 | (with_reducible refine Kd.C_alloc ?_ _) | (with_reducible refine Kd.C_drewN ?_ _) | (with_reducible refine Kd.C_drew ?_))); (case side2 => exact (Kd.R_reads' HO_293000.out).2.1); (case side3 => repeat (first | exact (Kd.R_reads' HO_276000.out).2.2 | (with_reducible refine Kd.C_alloc ?_ _) | (with_reducible refine Kd.C_drewN ?_ _) | (with_reducible refine Kd.C_drew ?_))); (case side4 => exact (Kd.R_reads' HO_276000.out).2.1); rintro e w89 ⟨rfl, hb⟩; have n0_ := Aside0.mk (Kd.R_below (ro_ HO_276000.out) hb); have n1_ := Aside0.mk (Kd.R_below (ro_ HO_284000.out) hb); have n2_ := Aside0.mk (Kd.R_below (ro_ HO_293000.out) hb); have n3_ := Aside0.mk (Kd.R_below (ro_ HO296.out) hb); have n4_ := Aside0.mk (blk_below (g := gb258) (o := .cells #[.slice A0_0 l0_0.length c0_0, .int .i64 a0_1, .int .i64 a0_2, .int .i64 a0_3, .int .i64 a0_4] 24 (0, 0)) (bl_ BK258.out) hb); have n5_ := Aside0.mk (blk_below (g := gb275) (o := .cells #[.slice Ao21 t267.length co21, .int .i64 t270, .int .i64 t271, .int .i64 t272, .int .i64 t273] 28 (0, 0)) (bl_ BK275.out) hb); have n6_ := Aside0.mk (blk_below (g := gb283) (o := .cells #[.slice Ao27 t276.length co27, .int .i64 t279, .int .i64 t280, .int .i64 t281, .int .i64 t282] 28 (0, 0)) (bl_ BK283.out) hb); have n7_ := Aside0.mk (blk_below (g := gb292) (o := .cells #[.slice Ao33 t284.length co33, .int .i64 t287, .int .i64 t288, .int .i64 t289, .int .i64 t290] 28 (0, 0)) (bl_ BK292.out) hb); have n8_ := Aside0.mk (below_step (be_ HB.out) hb); clear HO_276000 HO_284000 HO_293000 HO296 BK258 BK275 BK283 BK292 HB; have HO_276000 := n0_; have HO_284000 := n1_; have HO_293000 := n2_; have HO296 := n3_; have BK258 := n4_; have BK275 := n5_; have BK283 := n6_; have BK292 := n7_; have HB := n8_; clear n0_ n1_ n2_ n3_ n4_ n5_ n6_ n7_ n8_; (try clear hb); (try clear hb2); (try clear hk); (try clear hi)))
                  go_meet
                  case rel => exact ⟨_, (true), (by first | rfl | (simp; done) | (simp [*]; done)), H', ⟨by have := HJ11.out; first | omega | exact Nat.le_refl _⟩, ⟨by (with_reducible repeat (first | apply Kd.R_alloc | apply Kd.R_drewN | apply Kd.R_drew)); exact Kd.R_mono HO_276000.out (fun _ hk => ⟨hk.1, hk.2.1⟩)⟩, ⟨by (with_reducible repeat (first | apply Kd.R_alloc | apply Kd.R_drewN | apply Kd.R_drew)); exact Kd.R_mono HO_284000.out (fun _ hk => ⟨hk.1.1, hk.1.2⟩)⟩, ⟨by (with_reducible repeat (first | apply Kd.R_alloc | apply Kd.R_drewN | apply Kd.R_drew)); exact Kd.R_mono HO_293000.out (fun _ hk => ⟨hk.1, hk.2.1⟩)⟩, ⟨by refine bl_ ?_; exact BK258.out⟩, ⟨by refine bl_ ?_; exact BK275.out⟩, ⟨by refine bl_ ?_; exact BK283.out⟩, ⟨by refine bl_ ?_; exact BK292.out⟩, ⟨be_ HB.out⟩⟩
            case rest =>
              clear HC61
              try clear c1
              try clear c2
              try clear p2
              try clear c3
              try clear c4
              try clear c4b0
              try clear c5
              try clear c6
              try clear c7
              try clear c8
              try clear c12
              try clear c13
              try clear c15
              try clear c17
              try clear c18
              try clear c22
              try clear c28
              try clear c29
              try clear c34
              try clear c35
              try clear c36
              try clear c38
              try clear c39
              try clear c40
              try clear c41
              try clear c42
              try clear c44
              try clear c45
              try clear c46
              try clear c48
              try clear c49
              try clear c50
              try clear c52
              try clear c53
              try clear c56
              try clear c59
              try clear c66
              try clear c67
              try clear c68
              try clear c71
              try clear c71b0
              try clear c73
              try clear c74
              try clear c75
              try clear c76
              try clear c78
              try clear c79
              try clear c82
              try clear c83
              try clear c84
              try clear c86
              try clear c87
              try clear hcz14_0
              try clear hcz14_1
              try clear hcz14_2
              try clear hcz14_3
              try clear hcz14_4
              try clear hcz16_0
              try clear hcz16_1
              try clear hcz16_2
              try clear hcz16_3
              try clear hcz16_4
              try clear hcz23_0
              try clear hcz23_1
              try clear hcz23_2
              try clear hcz23_3
              try clear hcz23_4
              try clear hcz24_0
              try clear hcz24_1
              try clear hcz24_2
              try clear hcz24_3
              try clear hcz24_4
              try clear hcz30_0
              try clear hcz30_1
              try clear hcz30_2
              try clear hcz30_3
              try clear hcz30_4
              try clear hcz37_0
              try clear hcz37_1
              try clear hcz37_2
              try clear hcz37_3
              try clear hcz37_4
              try clear hcz43_0
              try clear hcz43_1
              try clear hcz43_2
              try clear hcz43_3
              try clear hcz43_4
              try clear hcz46_0
              try clear hcz46_1
              try clear hcz46_2
              try clear hcz46_3
              try clear hcz46_4
              try clear hcz51_0
              try clear hcz51_1
              try clear hcz51_2
              try clear hcz51_3
              try clear hcz51_4
              try clear hcz54_0
              try clear hcz54_1
              try clear hcz54_2
              try clear hcz54_3
              try clear hcz54_4
              try clear hcz69_0
              try clear hcz69_1
              try clear hcz69_2
              try clear hcz69_3
              try clear hcz69_4
              try clear hcz6_0
              try clear hcz6_1
              try clear hcz6_2
              try clear hcz6_3
              try clear hcz6_4
              try clear hcz77_0
              try clear hcz77_1
              try clear hcz77_2
              try clear hcz77_3
              try clear hcz77_4
              try clear hcz80_0
              try clear hcz80_1
              try clear hcz80_2
              try clear hcz80_3
              try clear hcz80_4
              try clear hcz85_0
              try clear hcz85_1
              try clear hcz85_2
              try clear hcz85_3
              try clear hcz85_4
              try clear hcz88_0
              try clear hcz88_1
              try clear hcz88_2
              try clear hcz88_3
              try clear hcz88_4
              try clear hfz14_0
              try clear hfz14_1
              try clear hfz14_2
              try clear hfz14_3
              try clear hfz14_4
              try clear hfz16_0
              try clear hfz16_1
              try clear hfz16_2
              try clear hfz16_3
              try clear hfz16_4
              try clear hfz23_0
              try clear hfz23_1
              try clear hfz23_2
              try clear hfz23_3
              try clear hfz23_4
              try clear hfz24_0
              try clear hfz24_1
              try clear hfz24_2
              try clear hfz24_3
              try clear hfz24_4
              try clear hfz30_0
              try clear hfz30_1
              try clear hfz30_2
              try clear hfz30_3
              try clear hfz30_4
              try clear hfz37_0
              try clear hfz37_1
              try clear hfz37_2
              try clear hfz37_3
              try clear hfz37_4
              try clear hfz43_0
              try clear hfz43_1
              try clear hfz43_2
              try clear hfz43_3
              try clear hfz43_4
              try clear hfz46_0
              try clear hfz46_1
              try clear hfz46_2
              try clear hfz46_3
              try clear hfz46_4
              try clear hfz51_0
              try clear hfz51_1
              try clear hfz51_2
              try clear hfz51_3
              try clear hfz51_4
              try clear hfz54_0
              try clear hfz54_1
              try clear hfz54_2
              try clear hfz54_3
              try clear hfz54_4
              try clear hfz69_0
              try clear hfz69_1
              try clear hfz69_2
              try clear hfz69_3
              try clear hfz69_4
              try clear hfz6_0
              try clear hfz6_1
              try clear hfz6_2
              try clear hfz6_3
              try clear hfz6_4
              try clear hfz77_0
              try clear hfz77_1
              try clear hfz77_2
              try clear hfz77_3
              try clear hfz77_4
              try clear hfz80_0
              try clear hfz80_1
              try clear hfz80_2
              try clear hfz80_3
              try clear hfz80_4
              try clear hfz85_0
              try clear hfz85_1
              try clear hfz85_2
              try clear hfz85_3
              try clear hfz85_4
              try clear hfz88_0
              try clear hfz88_1
              try clear hfz88_2
              try clear hfz88_3
              try clear hfz88_4
              try clear p2
              obtain ⟨kq, x65_60, rfl, HA, HJ60, HO_276000, HO_284000, HO_293000, BK258, BK275, BK283, BK292, HB⟩ := hcut
              have hl284000_60 := (Kd.R_reads' HO_284000.out).1
              rw [hl284000_60] at HO_284000
              (try simp only [hl284000_60])
              (try simp only [hl284000_60] at BK258)
              (try simp only [hl284000_60] at BK275)
              (try simp only [hl284000_60] at BK283)
              (try simp only [hl284000_60] at BK292)
              (try simp only [hl284000_60] at HO_276000)
              (try simp only [hl284000_60] at HO_293000)
              cases kq with
              | zero => exact absurd HA.out (by simp [laws_FnExactRemoveAt.j1])
              | succ kj60 =>
                have H := HA.out
                clear HA
                simp only [laws_FnExactRemoveAt.j1] at H
                by_cases c90 : x65_60 = true
                · subst c90
                  have H1 : (some false) = some r := by rw [if_pos rfl] at H; exact H
                  clear H
                  have H := H1
                  clear H1
                  obtain rfl := Option.some.inj H
                  go_wp2
                  go_ret
                  exact ⟨by first | rfl | (simp [errW_none, errW_some] <;> rfl) | (simp [*, errW_none, errW_some] <;> rfl), be_ HB.out⟩
                · replace c90 := Bool.eq_false_iff.mpr c90
                  subst c90
                  have H1 : ((laws_markQueue.f kj60 t284 t287 t288 t289 t290 1).bind fun bt305 => ((laws_heldQueue.f kj60 bt305.2 t287 t288 t289 t290 1).bind fun t307 => (if t307 < 0 then (some false) else (if t307 = bt305.1 then ((laws_toQueue.f kj60 l0_0 a0_1 a0_2 a0_3 a0_4).bind fun bt308 => ((impl_RemoveAt.f kj60 bt308.1 bt308.2.1 bt308.2.2.1 bt308.2.2.2.1 bt308.2.2.2.2 a1).bind fun bt315 => ((laws_eqQueue.f kj60 bt315.1 bt315.2.1 bt315.2.2.1 bt315.2.2.2.1 bt315.2.2.2.2.1 t267 t270 t271 t272 t273).bind fun t324 => (if t324 = true then (laws_FnExactRemoveAt.j2 kj60 bt305.1 (bt315.2.2.2.2.2 != t274) bt305.2 t287 t288 t289 t290) else (laws_FnExactRemoveAt.j2 kj60 bt305.1 true bt305.2 t287 t288 t289 t290))))) else (some false))))) = some r := by rw [if_neg (show ¬ (false = true) by decide)] at H; exact H
                  clear H
                  have H := H1
                  clear H1
                  replace H := Option.bind_eq_some_iff.mp H
                  obtain ⟨⟨t305, t306⟩, A910, H⟩ := H
                  replace H : ((laws_heldQueue.f kj60 t306 t287 t288 t289 t290 1).bind fun t307 => (if t307 < 0 then (some false) else (if t307 = t305 then ((laws_toQueue.f kj60 l0_0 a0_1 a0_2 a0_3 a0_4).bind fun bt308 => ((impl_RemoveAt.f kj60 bt308.1 bt308.2.1 bt308.2.2.1 bt308.2.2.2.1 bt308.2.2.2.2 a1).bind fun bt315 => ((laws_eqQueue.f kj60 bt315.1 bt315.2.1 bt315.2.2.1 bt315.2.2.2.1 bt315.2.2.2.2.1 t267 t270 t271 t272 t273).bind fun t324 => (if t324 = true then (laws_FnExactRemoveAt.j2 kj60 t305 (bt315.2.2.2.2.2 != t274) t306 t287 t288 t289 t290) else (laws_FnExactRemoveAt.j2 kj60 t305 true t306 t287 t288 t289 t290))))) else (some false)))) = some r := H
                  have A91 := Aside0.mk A910
                  clear A910
                  replace H := Option.bind_eq_some_iff.mp H
                  obtain ⟨t307, A920, H⟩ := H
                  replace H : (if t307 < 0 then (some false) else (if t307 = t305 then ((laws_toQueue.f kj60 l0_0 a0_1 a0_2 a0_3 a0_4).bind fun bt308 => ((impl_RemoveAt.f kj60 bt308.1 bt308.2.1 bt308.2.2.1 bt308.2.2.2.1 bt308.2.2.2.2 a1).bind fun bt315 => ((laws_eqQueue.f kj60 bt315.1 bt315.2.1 bt315.2.2.1 bt315.2.2.2.1 bt315.2.2.2.2.1 t267 t270 t271 t272 t273).bind fun t324 => (if t324 = true then (laws_FnExactRemoveAt.j2 kj60 t305 (bt315.2.2.2.2.2 != t274) t306 t287 t288 t289 t290) else (laws_FnExactRemoveAt.j2 kj60 t305 true t306 t287 t288 t289 t290))))) else (some false))) = some r := H
                  have A92 := Aside0.mk A920
                  clear A920
                  by_cases c93 : t307 < 0
                  · rw [if_pos c93] at H
                    have c93b0 : decide (t307 < 0) = true := decide_eq_true c93
                    clear c93
                    obtain rfl := Option.some.inj H
                    have hnb94 := NB292_258.out
                    have hnc94 := NB258_292.out
                    have hnb95 := NB292_275.out
                    have hnc95 := NB275_292.out
                    have hnb96 := NB292_283.out
                    have hnc96 := NB283_292.out
                    have hcz97_0 : wc.cell? ⟨gb292, 0, none⟩ = some (.slice Ao33 t284.length co33) := (blk_cell BK292.out 0).trans rfl
                    have hcz97_1 : wc.cell? ⟨gb292, 1, none⟩ = some (.int .i64 t287) := (blk_cell BK292.out 1).trans rfl
                    have hcz97_2 : wc.cell? ⟨gb292, 2, none⟩ = some (.int .i64 t288) := (blk_cell BK292.out 2).trans rfl
                    have hcz97_3 : wc.cell? ⟨gb292, 3, none⟩ = some (.int .i64 t289) := (blk_cell BK292.out 3).trans rfl
                    have hcz97_4 : wc.cell? ⟨gb292, 4, none⟩ = some (.int .i64 t290) := (blk_cell BK292.out 4).trans rfl
                    have hfz97_0 := blk_frozen BK292.out 0
                    have hfz97_1 := blk_frozen BK292.out 1
                    have hfz97_2 := blk_frozen BK292.out 2
                    have hfz97_3 := blk_frozen BK292.out 3
                    have hfz97_4 := blk_frozen BK292.out 4
                    go_wp2_with (first | ((with_reducible refine gate_callee (f := 18) rfl ?_); refine goesL_ (some 68) rfl rfl Try.func18 (by kernel_rfl) rfl #[.agg #[.slice Ao33 t284.length co33, .int .i64 t287, .int .i64 t288, .int .i64 t289, .int .i64 t290], .int .i64 1] rfl (by (try simp only [List.map_toArray, List.map_cons, List.map_nil]); first | done | rfl | (simp only [List.length_drop, List.length_take]; rfl)) ?_; (with_reducible refine (laws_markQueue.calls kj60 (fun k_ => some k_ = (.slice Ao33 t284.length co33 : Value).ownBlock) (.slice Ao33 t284.length co33) t284 t287 t288 t289 t290 1 t305 t306 w _ ?side1 ?side2 A91.out).mono ?_); (case side1 => exact be_ HB.out); (case side2 => exact Kd.R_tight rfl HO_293000.out); rintro e w98 ⟨rfl, hy0, hb, hkp⟩; refine ⟨_, rfl, ?_⟩; have n0_ := Aside0.mk (Kd.R_mono (ok' := fun k_ => some k_ ≠ (.slice Ao27 t303.length co27 : Value).ownBlock ∧ some k_ ≠ (.slice Ao33 t284.length co33 : Value).ownBlock) (Kd.R_keptB (HO_276000.out) hkp rn_) rm_); have n1_ := Aside0.mk (Kd.R_mono (ok' := fun k_ => some k_ ≠ (.slice Ao21 t267.length co21 : Value).ownBlock ∧ some k_ ≠ (.slice Ao33 t284.length co33 : Value).ownBlock) (Kd.R_keptB (HO_284000.out) hkp rn_) rm_); have n2_ := Aside0.mk (Kd.R_reok rfl hy0 (fun k_ e_ => HO_293000.out.1 k_ e_)); have n3_ := Aside0.mk (blk_kept (bl_ BK258.out) hkp (fun hs_ => (fun e_ => (Kd.R_ne HO_293000.out BK258.out (by decide)) e_) hs_)); have n4_ := Aside0.mk (blk_kept (bl_ BK275.out) hkp (fun hs_ => (fun e_ => (Kd.R_ne HO_293000.out BK275.out (by decide)) e_) hs_)); have n5_ := Aside0.mk (blk_kept (bl_ BK283.out) hkp (fun hs_ => (fun e_ => (Kd.R_ne HO_293000.out BK283.out (by decide)) e_) hs_)); have n6_ := Aside0.mk (blk_kept (bl_ BK292.out) hkp (fun hs_ => (fun e_ => (Kd.R_ne HO_293000.out BK292.out (by decide)) e_) hs_)); have n7_ := Aside0.mk (hb); clear HO_276000 HO_284000 HO_293000 BK258 BK275 BK283 BK292 HB; have HO_276000 := n0_; have HO_284000 := n1_; have HO_293000 := n2_; have BK258 := n3_; have BK275 := n4_; have BK283 := n5_; have BK292 := n6_; have HB := n7_; clear n0_ n1_ n2_ n3_ n4_ n5_ n6_ n7_; (try clear hb); (try clear hkp); (try clear hy0); obtain ⟨hcz99_0, hcz99_1, hcz99_2, hcz99_3, hcz99_4, hfz99_0, hfz99_1, hfz99_2, hfz99_3, hfz99_4⟩ := cz5_ BK292.out) | ((with_reducible refine gate_callee (f := 19) rfl ?_); refine goesL_ (some 71) rfl rfl Try.func19 (by kernel_rfl) rfl #[.agg #[.slice Ao33 t306.length co33, .int .i64 t287, .int .i64 t288, .int .i64 t289, .int .i64 t290], .int .i64 1] rfl (by (try simp only [List.map_toArray, List.map_cons, List.map_nil]); first | done | (rw [show t306.length = t284.length from (Kd.R_reads' HO_293000.out).1.symm] <;> rfl) | rfl | (simp only [List.length_drop, List.length_take]; rfl)) ?_; (with_reducible refine (laws_heldQueue.calls kj60 _ _ t306 t287 t288 t289 t290 1 t307 _ ?side1 ?side2 A92.out).mono ?_); (case side1 => repeat (first | exact (Kd.R_reads' HO_293000.out).2.2 | (with_reducible refine Kd.C_alloc ?_ _) | (with_reducible refine Kd.C_drewN ?_ _) | (with_reducible refine Kd.C_drew ?_))); (case side2 => rw [show t306.length = t284.length from (Kd.R_reads' HO_293000.out).1.symm]; exact (Kd.R_reads' HO_293000.out).2.1); rintro e w100 ⟨rfl, hb⟩; refine ⟨_, rfl, ?_⟩; have n0_ := Aside0.mk (Kd.R_below (ro_ HO_276000.out) hb); have n1_ := Aside0.mk (Kd.R_below (ro_ HO_284000.out) hb); have n2_ := Aside0.mk (Kd.R_below (ro_ HO_293000.out) hb); have n3_ := Aside0.mk (blk_below (g := gb258) (o := .cells #[.slice A0_0 l0_0.length c0_0, .int .i64 a0_1, .int .i64 a0_2, .int .i64 a0_3, .int .i64 a0_4] 24 (0, 0)) (bl_ BK258.out) hb); have n4_ := Aside0.mk (blk_below (g := gb275) (o := .cells #[.slice Ao21 t267.length co21, .int .i64 t270, .int .i64 t271, .int .i64 t272, .int .i64 t273] 28 (0, 0)) (bl_ BK275.out) hb); have n5_ := Aside0.mk (blk_below (g := gb283) (o := .cells #[.slice Ao27 t303.length co27, .int .i64 t279, .int .i64 t280, .int .i64 t281, .int .i64 t282] 28 (0, 0)) (bl_ BK283.out) hb); have n6_ := Aside0.mk (blk_below (g := gb292) (o := .cells #[.slice Ao33 t284.length co33, .int .i64 t287, .int .i64 t288, .int .i64 t289, .int .i64 t290] 28 (0, 0)) (bl_ BK292.out) hb); have n7_ := Aside0.mk (below_step (be_ HB.out) hb); clear HO_276000 HO_284000 HO_293000 BK258 BK275 BK283 BK292 HB; have HO_276000 := n0_; have HO_284000 := n1_; have HO_293000 := n2_; have BK258 := n3_; have BK275 := n4_; have BK283 := n5_; have BK292 := n6_; have HB := n7_; clear n0_ n1_ n2_ n3_ n4_ n5_ n6_ n7_; (try clear hb); (try clear hb2); (try clear hk); (try clear hi)))
                    go_ret
                    exact ⟨by first | rfl | (simp [errW_none, errW_some] <;> rfl) | (simp [*, errW_none, errW_some] <;> rfl), be_ HB.out⟩
                  · rw [if_neg c93] at H
                    have c93b0 : decide (t307 < 0) = false := decide_eq_false c93
                    clear c93
                    by_cases c101 : t307 = t305
                    · rw [if_pos c101] at H
                      have c101b0 : (t307 == t305) = true := beq_iff_eq.mpr c101
                      have c101b1 : (t307 != t305) = false := bne_eq_false_iff_eq.mpr c101
                      clear c101
                      replace H := Option.bind_eq_some_iff.mp H
                      obtain ⟨⟨t308, t311, t312, t313, t314⟩, A1020, H⟩ := H
                      replace H : ((impl_RemoveAt.f kj60 t308 t311 t312 t313 t314 a1).bind fun bt315 => ((laws_eqQueue.f kj60 bt315.1 bt315.2.1 bt315.2.2.1 bt315.2.2.2.1 bt315.2.2.2.2.1 t267 t270 t271 t272 t273).bind fun t324 => (if t324 = true then (laws_FnExactRemoveAt.j2 kj60 t305 (bt315.2.2.2.2.2 != t274) t306 t287 t288 t289 t290) else (laws_FnExactRemoveAt.j2 kj60 t305 true t306 t287 t288 t289 t290)))) = some r := H
                      have A102 := Aside0.mk A1020
                      clear A1020
                      replace H := Option.bind_eq_some_iff.mp H
                      obtain ⟨⟨t315, t318, t319, t320, t321, t322⟩, A1030, H⟩ := H
                      replace H : ((laws_eqQueue.f kj60 t315 t318 t319 t320 t321 t267 t270 t271 t272 t273).bind fun t324 => (if t324 = true then (laws_FnExactRemoveAt.j2 kj60 t305 (t322 != t274) t306 t287 t288 t289 t290) else (laws_FnExactRemoveAt.j2 kj60 t305 true t306 t287 t288 t289 t290))) = some r := H
                      have A103 := Aside0.mk A1030
                      clear A1030
                      have HC104 := Aside0.mk H
                      clear H
                      have hnb105 := NB292_258.out
                      have hnc105 := NB258_292.out
                      have hnb106 := NB292_275.out
                      have hnc106 := NB275_292.out
                      have hnb107 := NB292_283.out
                      have hnc107 := NB283_292.out
                      have hcz108_0 : wc.cell? ⟨gb292, 0, none⟩ = some (.slice Ao33 t284.length co33) := (blk_cell BK292.out 0).trans rfl
                      have hcz108_1 : wc.cell? ⟨gb292, 1, none⟩ = some (.int .i64 t287) := (blk_cell BK292.out 1).trans rfl
                      have hcz108_2 : wc.cell? ⟨gb292, 2, none⟩ = some (.int .i64 t288) := (blk_cell BK292.out 2).trans rfl
                      have hcz108_3 : wc.cell? ⟨gb292, 3, none⟩ = some (.int .i64 t289) := (blk_cell BK292.out 3).trans rfl
                      have hcz108_4 : wc.cell? ⟨gb292, 4, none⟩ = some (.int .i64 t290) := (blk_cell BK292.out 4).trans rfl
                      have hfz108_0 := blk_frozen BK292.out 0
                      have hfz108_1 := blk_frozen BK292.out 1
                      have hfz108_2 := blk_frozen BK292.out 2
                      have hfz108_3 := blk_frozen BK292.out 3
                      have hfz108_4 := blk_frozen BK292.out 4
                      go_upto_region 25 with (first | ((with_reducible refine gate_callee (f := 18) rfl ?_); refine goesL_ (some 68) rfl rfl Try.func18 (by kernel_rfl) rfl #[.agg #[.slice Ao33 t284.length co33, .int .i64 t287, .int .i64 t288, .int .i64 t289, .int .i64 t290], .int .i64 1] rfl (by (try simp only [List.map_toArray, List.map_cons, List.map_nil]); first | done | rfl | (simp only [List.length_drop, List.length_take]; rfl)) ?_; (with_reducible refine (laws_markQueue.calls kj60 (fun k_ => some k_ = (.slice Ao33 t284.length co33 : Value).ownBlock) (.slice Ao33 t284.length co33) t284 t287 t288 t289 t290 1 t305 t306 w _ ?side1 ?side2 A91.out).mono ?_); (case side1 => exact be_ HB.out); (case side2 => exact Kd.R_tight rfl HO_293000.out); rintro e w109 ⟨rfl, hy0, hb, hkp⟩; refine ⟨_, rfl, ?_⟩; have n0_ := Aside0.mk (Kd.R_mono (ok' := fun k_ => some k_ ≠ (.slice Ao27 t303.length co27 : Value).ownBlock ∧ some k_ ≠ (.slice Ao33 t284.length co33 : Value).ownBlock) (Kd.R_keptB (HO_276000.out) hkp rn_) rm_); have n1_ := Aside0.mk (Kd.R_mono (ok' := fun k_ => some k_ ≠ (.slice Ao21 t267.length co21 : Value).ownBlock ∧ some k_ ≠ (.slice Ao33 t284.length co33 : Value).ownBlock) (Kd.R_keptB (HO_284000.out) hkp rn_) rm_); have n2_ := Aside0.mk (Kd.R_reok rfl hy0 (fun k_ e_ => HO_293000.out.1 k_ e_)); have n3_ := Aside0.mk (blk_kept (bl_ BK258.out) hkp (fun hs_ => (fun e_ => (Kd.R_ne HO_293000.out BK258.out (by decide)) e_) hs_)); have n4_ := Aside0.mk (blk_kept (bl_ BK275.out) hkp (fun hs_ => (fun e_ => (Kd.R_ne HO_293000.out BK275.out (by decide)) e_) hs_)); have n5_ := Aside0.mk (blk_kept (bl_ BK283.out) hkp (fun hs_ => (fun e_ => (Kd.R_ne HO_293000.out BK283.out (by decide)) e_) hs_)); have n6_ := Aside0.mk (blk_kept (bl_ BK292.out) hkp (fun hs_ => (fun e_ => (Kd.R_ne HO_293000.out BK292.out (by decide)) e_) hs_)); have n7_ := Aside0.mk (hb); clear HO_276000 HO_284000 HO_293000 BK258 BK275 BK283 BK292 HB; have HO_276000 := n0_; have HO_284000 := n1_; have HO_293000 := n2_; have BK258 := n3_; have BK275 := n4_; have BK283 := n5_; have BK292 := n6_; have HB := n7_; clear n0_ n1_ n2_ n3_ n4_ n5_ n6_ n7_; (try clear hb); (try clear hkp); (try clear hy0); obtain ⟨hcz110_0, hcz110_1, hcz110_2, hcz110_3, hcz110_4, hfz110_0, hfz110_1, hfz110_2, hfz110_3, hfz110_4⟩ := cz5_ BK292.out) | ((with_reducible refine gate_callee (f := 19) rfl ?_); refine goesL_ (some 71) rfl rfl Try.func19 (by kernel_rfl) rfl #[.agg #[.slice Ao33 t306.length co33, .int .i64 t287, .int .i64 t288, .int .i64 t289, .int .i64 t290], .int .i64 1] rfl (by (try simp only [List.map_toArray, List.map_cons, List.map_nil]); first | done | (rw [show t306.length = t284.length from (Kd.R_reads' HO_293000.out).1.symm] <;> rfl) | rfl | (simp only [List.length_drop, List.length_take]; rfl)) ?_; (with_reducible refine (laws_heldQueue.calls kj60 _ _ t306 t287 t288 t289 t290 1 t307 _ ?side1 ?side2 A92.out).mono ?_); (case side1 => repeat (first | exact (Kd.R_reads' HO_293000.out).2.2 | (with_reducible refine Kd.C_alloc ?_ _) | (with_reducible refine Kd.C_drewN ?_ _) | (with_reducible refine Kd.C_drew ?_))); (case side2 => rw [show t306.length = t284.length from (Kd.R_reads' HO_293000.out).1.symm]; exact (Kd.R_reads' HO_293000.out).2.1); rintro e w111 ⟨rfl, hb⟩; refine ⟨_, rfl, ?_⟩; have n0_ := Aside0.mk (Kd.R_below (ro_ HO_276000.out) hb); have n1_ := Aside0.mk (Kd.R_below (ro_ HO_284000.out) hb); have n2_ := Aside0.mk (Kd.R_below (ro_ HO_293000.out) hb); have n3_ := Aside0.mk (blk_below (g := gb258) (o := .cells #[.slice A0_0 l0_0.length c0_0, .int .i64 a0_1, .int .i64 a0_2, .int .i64 a0_3, .int .i64 a0_4] 24 (0, 0)) (bl_ BK258.out) hb); have n4_ := Aside0.mk (blk_below (g := gb275) (o := .cells #[.slice Ao21 t267.length co21, .int .i64 t270, .int .i64 t271, .int .i64 t272, .int .i64 t273] 28 (0, 0)) (bl_ BK275.out) hb); have n5_ := Aside0.mk (blk_below (g := gb283) (o := .cells #[.slice Ao27 t303.length co27, .int .i64 t279, .int .i64 t280, .int .i64 t281, .int .i64 t282] 28 (0, 0)) (bl_ BK283.out) hb); have n6_ := Aside0.mk (blk_below (g := gb292) (o := .cells #[.slice Ao33 t284.length co33, .int .i64 t287, .int .i64 t288, .int .i64 t289, .int .i64 t290] 28 (0, 0)) (bl_ BK292.out) hb); have n7_ := Aside0.mk (below_step (be_ HB.out) hb); clear HO_276000 HO_284000 HO_293000 BK258 BK275 BK283 BK292 HB; have HO_276000 := n0_; have HO_284000 := n1_; have HO_293000 := n2_; have BK258 := n3_; have BK275 := n4_; have BK283 := n5_; have BK292 := n6_; have HB := n7_; clear n0_ n1_ n2_ n3_ n4_ n5_ n6_ n7_; (try clear hb); (try clear hb2); (try clear hk); (try clear hi); have hnb112 := NB258_275.out; have hnc112 := NB275_258.out; have hnb113 := NB258_283.out; have hnc113 := NB283_258.out; obtain ⟨hcz114_0, hcz114_1, hcz114_2, hcz114_3, hcz114_4, hfz114_0, hfz114_1, hfz114_2, hfz114_3, hfz114_4⟩ := cz5_ BK258.out) | ((with_reducible refine gate_callee (f := 15) rfl ?_); refine goesL_ (some 79) rfl rfl Try.func15 (by kernel_rfl) rfl #[.agg #[.slice A0_0 l0_0.length c0_0, .int .i64 a0_1, .int .i64 a0_2, .int .i64 a0_3, .int .i64 a0_4]] rfl (by (try simp only [List.map_toArray, List.map_cons, List.map_nil]); first | done | rfl | (simp only [List.length_drop, List.length_take]; rfl)) ?_; (with_reducible refine (laws_toQueue.calls kj60 _ _ l0_0 a0_1 a0_2 a0_3 a0_4 t308 t311 t312 t313 t314 _ ?side1 ?side2 A102.out).mono ?_); (case side1 => repeat (first | exact (Kd.C_below HR0_0.out HB.out) | (with_reducible refine Kd.C_alloc ?_ _) | (with_reducible refine Kd.C_drewN ?_ _) | (with_reducible refine Kd.C_drew ?_))); (case side2 => exact HC0_0.out); rintro e w115 ⟨v309, rfl, ho0, hb⟩; refine ⟨_, rfl, ?_⟩; have n0_ := Aside0.mk (Kd.R_elder' (ro_ HO_276000.out) (Kd.R_base ho0) hb); have n1_ := Aside0.mk (Kd.R_elder' (ro_ HO_284000.out) (Kd.R_base ho0) hb); have n2_ := Aside0.mk (Kd.R_elder' (ro_ HO_293000.out) (Kd.R_base ho0) hb); have n3_ := Aside0.mk (Kd.R_lower (Kd.R_new' (Kd.R_new' (Kd.R_new' ho0 (Kd.R_lt (ro_ HO_276000.out))) (Kd.R_lt (ro_ HO_284000.out))) (Kd.R_lt (ro_ HO_293000.out))) (below_size (be_ HB.out))); have n4_ := Aside0.mk (blk_below (g := gb258) (o := .cells #[.slice A0_0 l0_0.length c0_0, .int .i64 a0_1, .int .i64 a0_2, .int .i64 a0_3, .int .i64 a0_4] 24 (0, 0)) (bl_ BK258.out) hb); have n5_ := Aside0.mk (blk_below (g := gb275) (o := .cells #[.slice Ao21 t267.length co21, .int .i64 t270, .int .i64 t271, .int .i64 t272, .int .i64 t273] 28 (0, 0)) (bl_ BK275.out) hb); have n6_ := Aside0.mk (blk_below (g := gb283) (o := .cells #[.slice Ao27 t303.length co27, .int .i64 t279, .int .i64 t280, .int .i64 t281, .int .i64 t282] 28 (0, 0)) (bl_ BK283.out) hb); have n7_ := Aside0.mk (blk_below (g := gb292) (o := .cells #[.slice Ao33 t284.length co33, .int .i64 t287, .int .i64 t288, .int .i64 t289, .int .i64 t290] 28 (0, 0)) (bl_ BK292.out) hb); have n8_ := Aside0.mk (below_step (be_ HB.out) hb); clear HO_276000 HO_284000 HO_293000 BK258 BK275 BK283 BK292 HB; have HO_276000 := n0_; have HO_284000 := n1_; have HO_293000 := n2_; have HO310 := n3_; have BK258 := n4_; have BK275 := n5_; have BK283 := n6_; have BK292 := n7_; have HB := n8_; clear n0_ n1_ n2_ n3_ n4_ n5_ n6_ n7_ n8_; (try clear hb); (try clear hb2); (try clear hk); (try clear hi); (try clear ho0); obtain ⟨Ao116, co116, eo116⟩ := Kd.R_slice HO310.out; subst eo116) | ((with_reducible refine gate_callee (f := 38) rfl ?_); refine goesL_ (some 81) rfl rfl Try.func38 (by kernel_rfl) rfl #[.agg #[.slice Ao116 t308.length co116, .int .i64 t311, .int .i64 t312, .int .i64 t313, .int .i64 t314], .int .i64 a1] rfl (by (try simp only [List.map_toArray, List.map_cons, List.map_nil]); first | done | rfl | (simp only [List.length_drop, List.length_take]; rfl)) ?_; (with_reducible refine (impl_RemoveAt.calls kj60 _ _ t308 t311 t312 t313 t314 a1 t315 t318 t319 t320 t321 t322 _ ?side1 ?side2 A103.out).mono ?_); (case side1 => repeat (first | exact (Kd.R_reads' HO310.out).2.2 | (with_reducible refine Kd.C_alloc ?_ _) | (with_reducible refine Kd.C_drewN ?_ _) | (with_reducible refine Kd.C_drew ?_))); (case side2 => exact (Kd.R_reads' HO310.out).2.1); rintro e w117 ⟨v316, rfl, ho0, hb⟩; refine ⟨_, rfl, ?_⟩; have n0_ := Aside0.mk (Kd.R_elder' (ro_ HO_276000.out) (Kd.R_base ho0) hb); have n1_ := Aside0.mk (Kd.R_elder' (ro_ HO_284000.out) (Kd.R_base ho0) hb); have n2_ := Aside0.mk (Kd.R_elder' (ro_ HO_293000.out) (Kd.R_base ho0) hb); have n3_ := Aside0.mk (Kd.R_elder' (ro_ HO310.out) (Kd.R_base ho0) hb); have n4_ := Aside0.mk (Kd.R_lower (Kd.R_new' (Kd.R_new' (Kd.R_new' (Kd.R_new' ho0 (Kd.R_lt (ro_ HO_276000.out))) (Kd.R_lt (ro_ HO_284000.out))) (Kd.R_lt (ro_ HO_293000.out))) (Kd.R_lt (ro_ HO310.out))) (below_size (be_ HB.out))); have n5_ := Aside0.mk (blk_below (g := gb258) (o := .cells #[.slice A0_0 l0_0.length c0_0, .int .i64 a0_1, .int .i64 a0_2, .int .i64 a0_3, .int .i64 a0_4] 24 (0, 0)) (bl_ BK258.out) hb); have n6_ := Aside0.mk (blk_below (g := gb275) (o := .cells #[.slice Ao21 t267.length co21, .int .i64 t270, .int .i64 t271, .int .i64 t272, .int .i64 t273] 28 (0, 0)) (bl_ BK275.out) hb); have n7_ := Aside0.mk (blk_below (g := gb283) (o := .cells #[.slice Ao27 t303.length co27, .int .i64 t279, .int .i64 t280, .int .i64 t281, .int .i64 t282] 28 (0, 0)) (bl_ BK283.out) hb); have n8_ := Aside0.mk (blk_below (g := gb292) (o := .cells #[.slice Ao33 t284.length co33, .int .i64 t287, .int .i64 t288, .int .i64 t289, .int .i64 t290] 28 (0, 0)) (bl_ BK292.out) hb); have n9_ := Aside0.mk (below_step (be_ HB.out) hb); clear HO_276000 HO_284000 HO_293000 HO310 BK258 BK275 BK283 BK292 HB; have HO_276000 := n0_; have HO_284000 := n1_; have HO_293000 := n2_; have HO310 := n3_; have HO317 := n4_; have BK258 := n5_; have BK275 := n6_; have BK283 := n7_; have BK292 := n8_; have HB := n9_; clear n0_ n1_ n2_ n3_ n4_ n5_ n6_ n7_ n8_ n9_; (try clear hb); (try clear hb2); (try clear hk); (try clear hi); (try clear ho0)) | ((with_reducible refine gate_dst (N := 14) rfl ?_); refine box_event ?hg (N := 14) ?hd (cs := #[.slice none 0 0, .int .i64 0, .int .i64 0, .int .i64 0, .int .i64 0]) (t := 28) ?hr ?_; (case hd => rfl); (case hg => rfl); (case hr => first | (go_simp; done) | (go_simp; rfl)); intro gb323 hg w118 hbox hb; have n0_ := Aside0.mk (Kd.R_below (ro_ HO_276000.out) hb); have n1_ := Aside0.mk (Kd.R_below (ro_ HO_284000.out) hb); have n2_ := Aside0.mk (Kd.R_below (ro_ HO_293000.out) hb); have n3_ := Aside0.mk (Kd.R_below (ro_ HO310.out) hb); have n4_ := Aside0.mk (Kd.R_below (ro_ HO317.out) hb); have n5_ := Aside0.mk (blk_below (g := gb258) (o := .cells #[.slice A0_0 l0_0.length c0_0, .int .i64 a0_1, .int .i64 a0_2, .int .i64 a0_3, .int .i64 a0_4] 24 (0, 0)) (bl_ BK258.out) hb); have n6_ := Aside0.mk (blk_below (g := gb275) (o := .cells #[.slice Ao21 t267.length co21, .int .i64 t270, .int .i64 t271, .int .i64 t272, .int .i64 t273] 28 (0, 0)) (bl_ BK275.out) hb); have n7_ := Aside0.mk (blk_below (g := gb283) (o := .cells #[.slice Ao27 t303.length co27, .int .i64 t279, .int .i64 t280, .int .i64 t281, .int .i64 t282] 28 (0, 0)) (bl_ BK283.out) hb); have n8_ := Aside0.mk (blk_below (g := gb292) (o := .cells #[.slice Ao33 t284.length co33, .int .i64 t287, .int .i64 t288, .int .i64 t289, .int .i64 t290] 28 (0, 0)) (bl_ BK292.out) hb); have n9_ := Aside0.mk (below_step (be_ HB.out) hb); have n10_ := Aside0.mk (hbox); have n11_ := Aside0.mk ((by rw [hg]; exact (below_size (be_ HB.out)) : w.heap.size ≤ gb323)); have n12_ := Aside0.mk ((by rw [hg]; exact (below_size (be_ HB.out)) : w.heap.size ≤ gb323)); have n13_ := Aside0.mk ((by rw [hg]; exact Nat.ne_of_lt (blk_lt (g := gb258) (o := .cells #[.slice A0_0 l0_0.length c0_0, .int .i64 a0_1, .int .i64 a0_2, .int .i64 a0_3, .int .i64 a0_4] 24 (0, 0)) (bl_ BK258.out)) : gb258 ≠ gb323)); have n14_ := Aside0.mk ((by rw [hg]; exact Nat.ne_of_gt (blk_lt (g := gb258) (o := .cells #[.slice A0_0 l0_0.length c0_0, .int .i64 a0_1, .int .i64 a0_2, .int .i64 a0_3, .int .i64 a0_4] 24 (0, 0)) (bl_ BK258.out)) : gb323 ≠ gb258)); have n15_ := Aside0.mk ((by rw [hg]; exact Nat.ne_of_lt (blk_lt (g := gb275) (o := .cells #[.slice Ao21 t267.length co21, .int .i64 t270, .int .i64 t271, .int .i64 t272, .int .i64 t273] 28 (0, 0)) (bl_ BK275.out)) : gb275 ≠ gb323)); have n16_ := Aside0.mk ((by rw [hg]; exact Nat.ne_of_gt (blk_lt (g := gb275) (o := .cells #[.slice Ao21 t267.length co21, .int .i64 t270, .int .i64 t271, .int .i64 t272, .int .i64 t273] 28 (0, 0)) (bl_ BK275.out)) : gb323 ≠ gb275)); have n17_ := Aside0.mk ((by rw [hg]; exact Nat.ne_of_lt (blk_lt (g := gb283) (o := .cells #[.slice Ao27 t303.length co27, .int .i64 t279, .int .i64 t280, .int .i64 t281, .int .i64 t282] 28 (0, 0)) (bl_ BK283.out)) : gb283 ≠ gb323)); have n18_ := Aside0.mk ((by rw [hg]; exact Nat.ne_of_gt (blk_lt (g := gb283) (o := .cells #[.slice Ao27 t303.length co27, .int .i64 t279, .int .i64 t280, .int .i64 t281, .int .i64 t282] 28 (0, 0)) (bl_ BK283.out)) : gb323 ≠ gb283)); have n19_ := Aside0.mk ((by rw [hg]; exact Nat.ne_of_lt (blk_lt (g := gb292) (o := .cells #[.slice Ao33 t284.length co33, .int .i64 t287, .int .i64 t288, .int .i64 t289, .int .i64 t290] 28 (0, 0)) (bl_ BK292.out)) : gb292 ≠ gb323)); have n20_ := Aside0.mk ((by rw [hg]; exact Nat.ne_of_gt (blk_lt (g := gb292) (o := .cells #[.slice Ao33 t284.length co33, .int .i64 t287, .int .i64 t288, .int .i64 t289, .int .i64 t290] 28 (0, 0)) (bl_ BK292.out)) : gb323 ≠ gb292)); clear HO_276000 HO_284000 HO_293000 HO310 HO317 BK258 BK275 BK283 BK292 HB; have HO_276000 := n0_; have HO_284000 := n1_; have HO_293000 := n2_; have HO310 := n3_; have HO317 := n4_; have BK258 := n5_; have BK275 := n6_; have BK283 := n7_; have BK292 := n8_; have HB := n9_; have BK323 := n10_; have GW323 := n11_; have GE323 := n12_; have NB258_323 := n13_; have NB323_258 := n14_; have NB275_323 := n15_; have NB323_275 := n16_; have NB283_323 := n17_; have NB323_283 := n18_; have NB292_323 := n19_; have NB323_292 := n20_; clear n0_ n1_ n2_ n3_ n4_ n5_ n6_ n7_ n8_ n9_ n10_ n11_ n12_ n13_ n14_ n15_ n16_ n17_ n18_ n19_ n20_; clear hb hbox hg; obtain ⟨Ao119, co119, eo119⟩ := Kd.R_slice HO317.out; subst eo119; have hnb120 := NB323_258.out; have hnc120 := NB258_323.out; have hnb121 := NB323_275.out; have hnc121 := NB275_323.out; have hnb122 := NB323_283.out; have hnc122 := NB283_323.out; have hnb123 := NB323_292.out; have hnc123 := NB292_323.out; obtain ⟨hcz124_0, hcz124_1, hcz124_2, hcz124_3, hcz124_4, hfz124_0, hfz124_1, hfz124_2, hfz124_3, hfz124_4⟩ := cz5_ BK323.out))
                      (try simp only [Act.put, List.setIfInBounds_toArray, List.set_cons_zero, List.set_cons_succ])
                      go_cut [92] (fun v92 wc => ∃ (kq : Nat) (x92_103 : Bool), v92 = .bool x92_103 ∧ Aside0 (laws_FnExactRemoveAt.j2 kq t305 x92_103 t306 t287 t288 t289 t290 = some r) ∧ Aside0 (kq ≤ kj60) ∧ Aside0 (Kd.R k65 65 wc w.heap.size (fun k_ => some k_ ≠ ((.slice Ao27 t303.length co27) : Value).ownBlock ∧ some k_ ≠ ((.slice Ao33 t284.length co33) : Value).ownBlock ∧ some k_ ≠ ((.slice Ao119 t315.length co119) : Value).ownBlock) (.slice Ao21 t267.length co21) t267) ∧ Aside0 (Kd.R k65 65 wc w.heap.size (fun k_ => some k_ ≠ ((.slice Ao21 t267.length co21) : Value).ownBlock ∧ some k_ ≠ ((.slice Ao33 t284.length co33) : Value).ownBlock ∧ some k_ ≠ ((.slice Ao119 t315.length co119) : Value).ownBlock) (.slice Ao27 t303.length co27) t303) ∧ Aside0 (Kd.R k65 65 wc w.heap.size (fun k_ => some k_ ≠ ((.slice Ao21 t267.length co21) : Value).ownBlock ∧ some k_ ≠ ((.slice Ao27 t303.length co27) : Value).ownBlock ∧ some k_ ≠ ((.slice Ao119 t315.length co119) : Value).ownBlock) (.slice Ao33 t284.length co33) t306) ∧ Aside0 (Kd.R k65 65 wc w.heap.size (fun k_ => some k_ ≠ ((.slice Ao21 t267.length co21) : Value).ownBlock ∧ some k_ ≠ ((.slice Ao27 t303.length co27) : Value).ownBlock ∧ some k_ ≠ ((.slice Ao33 t284.length co33) : Value).ownBlock) (.slice Ao119 t315.length co119) t315) ∧ Aside0 (wc.heap[gb258]? = some (.cells #[(.slice A0_0 l0_0.length c0_0), .int .i64 a0_1, .int .i64 a0_2, .int .i64 a0_3, .int .i64 a0_4] 24 (0, 0))) ∧ Aside0 (wc.heap[gb275]? = some (.cells #[(.slice Ao21 t267.length co21), .int .i64 t270, .int .i64 t271, .int .i64 t272, .int .i64 t273] 28 (0, 0))) ∧ Aside0 (wc.heap[gb283]? = some (.cells #[(.slice Ao27 t303.length co27), .int .i64 t279, .int .i64 t280, .int .i64 t281, .int .i64 t282] 28 (0, 0))) ∧ Aside0 (wc.heap[gb292]? = some (.cells #[(.slice Ao33 t284.length co33), .int .i64 t287, .int .i64 t288, .int .i64 t289, .int .i64 t290] 28 (0, 0))) ∧ Aside0 (wc.heap[gb323]? = some (.cells #[(.slice Ao119 t315.length co119), .int .i64 t318, .int .i64 t319, .int .i64 t320, .int .i64 t321] 28 (0, 0))) ∧ Aside0 (Below w.heap.size w wc))
                      case first =>
                        have H := HC104.out
                        clear HC104
                        replace H := Option.bind_eq_some_iff.mp H
                        obtain ⟨t324, A1250, H⟩ := H
                        replace H : (if t324 = true then (laws_FnExactRemoveAt.j2 kj60 t305 (t322 != t274) t306 t287 t288 t289 t290) else (laws_FnExactRemoveAt.j2 kj60 t305 true t306 t287 t288 t289 t290)) = some r := H
                        have A125 := Aside0.mk A1250
                        clear A1250
                        by_cases c126 : t324 = true
                        · subst c126
                          have H1 : (laws_FnExactRemoveAt.j2 kj60 t305 (t322 != t274) t306 t287 t288 t289 t290) = some r := by rw [if_pos rfl] at H; exact H
                          clear H
                          have H := H1
                          clear H1
                          have H' := Aside0.mk H
                          clear H
                          have hnb127 := NB323_258.out
                          have hnc127 := NB258_323.out
                          have hnb128 := NB323_275.out
                          have hnc128 := NB275_323.out
                          have hnb129 := NB323_283.out
                          have hnc129 := NB283_323.out
                          have hnb130 := NB323_292.out
                          have hnc130 := NB292_323.out
                          have hcz131_0 : w118.cell? ⟨gb323, 0, none⟩ = some (.slice none 0 0) := (blk_cell BK323.out 0).trans rfl
                          have hcz131_1 : w118.cell? ⟨gb323, 1, none⟩ = some (.int .i64 0) := (blk_cell BK323.out 1).trans rfl
                          have hcz131_2 : w118.cell? ⟨gb323, 2, none⟩ = some (.int .i64 0) := (blk_cell BK323.out 2).trans rfl
                          have hcz131_3 : w118.cell? ⟨gb323, 3, none⟩ = some (.int .i64 0) := (blk_cell BK323.out 3).trans rfl
                          have hcz131_4 : w118.cell? ⟨gb323, 4, none⟩ = some (.int .i64 0) := (blk_cell BK323.out 4).trans rfl
                          have hfz131_0 := blk_frozen BK323.out 0
                          have hfz131_1 := blk_frozen BK323.out 1
                          have hfz131_2 := blk_frozen BK323.out 2
                          have hfz131_3 := blk_frozen BK323.out 3
                          have hfz131_4 := blk_frozen BK323.out 4
                          have hnb132 := NB275_258.out
                          have hnc132 := NB258_275.out
                          have hnb133 := NB275_283.out
                          have hnc133 := NB283_275.out
                          have hnb134 := NB275_292.out
                          have hnc134 := NB292_275.out
                          have hcz135_0 : w118.cell? ⟨gb275, 0, none⟩ = some (.slice Ao21 t267.length co21) := (blk_cell BK275.out 0).trans rfl
                          have hcz135_1 : w118.cell? ⟨gb275, 1, none⟩ = some (.int .i64 t270) := (blk_cell BK275.out 1).trans rfl
                          have hcz135_2 : w118.cell? ⟨gb275, 2, none⟩ = some (.int .i64 t271) := (blk_cell BK275.out 2).trans rfl
                          have hcz135_3 : w118.cell? ⟨gb275, 3, none⟩ = some (.int .i64 t272) := (blk_cell BK275.out 3).trans rfl
                          have hcz135_4 : w118.cell? ⟨gb275, 4, none⟩ = some (.int .i64 t273) := (blk_cell BK275.out 4).trans rfl
                          have hfz135_0 := blk_frozen BK275.out 0
                          have hfz135_1 := blk_frozen BK275.out 1
                          have hfz135_2 := blk_frozen BK275.out 2
                          have hfz135_3 := blk_frozen BK275.out 3
                          have hfz135_4 := blk_frozen BK275.out 4
                          go_wp2_with (first | ((with_reducible refine gate_callee (f := 17) rfl ?_); refine goesL_ (some 86) rfl rfl Try.func17 (by kernel_rfl) rfl #[.agg #[.slice Ao119 t315.length co119, .int .i64 t318, .int .i64 t319, .int .i64 t320, .int .i64 t321], .agg #[.slice Ao21 t267.length co21, .int .i64 t270, .int .i64 t271, .int .i64 t272, .int .i64 t273]] rfl (by (try simp only [List.map_toArray, List.map_cons, List.map_nil]); first | done | rfl | (simp only [List.length_drop, List.length_take]; rfl)) ?_; (with_reducible refine (laws_eqQueue.calls kj60 _ _ t315 t318 t319 t320 t321 _ _ t267 t270 t271 t272 t273 true _ ?side1 ?side2 ?side3 ?side4 A125.out).mono ?_); (case side1 => refine (Kd.R_reads' (e := 65) (base := w.heap.size) (ok := fun k_ => ((((True ∧ some k_ ≠ (.slice Ao21 t267.length co21 : Value).ownBlock) ∧ some k_ ≠ (.slice Ao27 t303.length co27 : Value).ownBlock) ∧ some k_ ≠ (.slice Ao33 t284.length co33 : Value).ownBlock) ∧ some k_ ≠ (.slice Ao116 t308.length co116 : Value).ownBlock)) (n := t315.length) (c := co119) ?_).2.2; exact (by (with_reducible repeat (first | apply Kd.R_alloc | apply Kd.R_drewN | apply Kd.R_drew)); exact (Kd.R_mono (Kd.R_far (p := ⟨gb323, 4, none⟩) (Kd.R_far (p := ⟨gb323, 3, none⟩) (Kd.R_far (p := ⟨gb323, 2, none⟩) (Kd.R_far (p := ⟨gb323, 1, none⟩) (Kd.R_far (p := ⟨gb323, 0, none⟩) (Kd.R_types HO317.out BK323.out (by decide)) (fun _ hk => hk.2) (.slice Ao119 t315.length co119)) (fun _ hk => hk.2) (.int .i64 t318)) (fun _ hk => hk.2) (.int .i64 t319)) (fun _ hk => hk.2) (.int .i64 t320)) (fun _ hk => hk.2) (.int .i64 t321)) (fun _ h_ => h_.1)))); (case side2 => exact (Kd.R_reads' HO317.out).2.1); (case side3 => refine (Kd.R_reads' (e := 65) (base := w.heap.size) (ok := fun k_ => (((some k_ ≠ (.slice Ao27 t303.length co27 : Value).ownBlock ∧ some k_ ≠ (.slice Ao33 t284.length co33 : Value).ownBlock) ∧ some k_ ≠ (.slice Ao116 t308.length co116 : Value).ownBlock) ∧ some k_ ≠ (.slice Ao119 t315.length co119 : Value).ownBlock)) (n := t267.length) (c := co21) ?_).2.2; exact (by (with_reducible repeat (first | apply Kd.R_alloc | apply Kd.R_drewN | apply Kd.R_drew)); exact (Kd.R_mono (Kd.R_far (p := ⟨gb323, 4, none⟩) (Kd.R_far (p := ⟨gb323, 3, none⟩) (Kd.R_far (p := ⟨gb323, 2, none⟩) (Kd.R_far (p := ⟨gb323, 1, none⟩) (Kd.R_far (p := ⟨gb323, 0, none⟩) (Kd.R_types HO_276000.out BK323.out (by decide)) (fun _ hk => hk.2) (.slice Ao119 t315.length co119)) (fun _ hk => hk.2) (.int .i64 t318)) (fun _ hk => hk.2) (.int .i64 t319)) (fun _ hk => hk.2) (.int .i64 t320)) (fun _ hk => hk.2) (.int .i64 t321)) (fun _ h_ => h_.1)))); (case side4 => exact (Kd.R_reads' HO_276000.out).2.1); rintro e w136 ⟨rfl, hb⟩; refine ⟨_, rfl, ?_⟩; have n0_ := Aside0.mk (Kd.R_below (by (with_reducible repeat (first | apply Kd.R_alloc | apply Kd.R_drewN | apply Kd.R_drew)); exact (Kd.R_mono (Kd.R_far (p := ⟨gb323, 4, none⟩) (Kd.R_far (p := ⟨gb323, 3, none⟩) (Kd.R_far (p := ⟨gb323, 2, none⟩) (Kd.R_far (p := ⟨gb323, 1, none⟩) (Kd.R_far (p := ⟨gb323, 0, none⟩) (Kd.R_types HO_276000.out BK323.out (by decide)) (fun _ hk => hk.2) (.slice Ao119 t315.length co119)) (fun _ hk => hk.2) (.int .i64 t318)) (fun _ hk => hk.2) (.int .i64 t319)) (fun _ hk => hk.2) (.int .i64 t320)) (fun _ hk => hk.2) (.int .i64 t321)) (fun _ h_ => h_.1))) hb); have n1_ := Aside0.mk (Kd.R_below (by (with_reducible repeat (first | apply Kd.R_alloc | apply Kd.R_drewN | apply Kd.R_drew)); exact (Kd.R_mono (Kd.R_far (p := ⟨gb323, 4, none⟩) (Kd.R_far (p := ⟨gb323, 3, none⟩) (Kd.R_far (p := ⟨gb323, 2, none⟩) (Kd.R_far (p := ⟨gb323, 1, none⟩) (Kd.R_far (p := ⟨gb323, 0, none⟩) (Kd.R_types HO_284000.out BK323.out (by decide)) (fun _ hk => hk.2) (.slice Ao119 t315.length co119)) (fun _ hk => hk.2) (.int .i64 t318)) (fun _ hk => hk.2) (.int .i64 t319)) (fun _ hk => hk.2) (.int .i64 t320)) (fun _ hk => hk.2) (.int .i64 t321)) (fun _ h_ => h_.1))) hb); have n2_ := Aside0.mk (Kd.R_below (by (with_reducible repeat (first | apply Kd.R_alloc | apply Kd.R_drewN | apply Kd.R_drew)); exact (Kd.R_mono (Kd.R_far (p := ⟨gb323, 4, none⟩) (Kd.R_far (p := ⟨gb323, 3, none⟩) (Kd.R_far (p := ⟨gb323, 2, none⟩) (Kd.R_far (p := ⟨gb323, 1, none⟩) (Kd.R_far (p := ⟨gb323, 0, none⟩) (Kd.R_types HO_293000.out BK323.out (by decide)) (fun _ hk => hk.2) (.slice Ao119 t315.length co119)) (fun _ hk => hk.2) (.int .i64 t318)) (fun _ hk => hk.2) (.int .i64 t319)) (fun _ hk => hk.2) (.int .i64 t320)) (fun _ hk => hk.2) (.int .i64 t321)) (fun _ h_ => h_.1))) hb); have n3_ := Aside0.mk (Kd.R_below (by (with_reducible repeat (first | apply Kd.R_alloc | apply Kd.R_drewN | apply Kd.R_drew)); exact (Kd.R_mono (Kd.R_far (p := ⟨gb323, 4, none⟩) (Kd.R_far (p := ⟨gb323, 3, none⟩) (Kd.R_far (p := ⟨gb323, 2, none⟩) (Kd.R_far (p := ⟨gb323, 1, none⟩) (Kd.R_far (p := ⟨gb323, 0, none⟩) (Kd.R_types HO310.out BK323.out (by decide)) (fun _ hk => hk.2) (.slice Ao119 t315.length co119)) (fun _ hk => hk.2) (.int .i64 t318)) (fun _ hk => hk.2) (.int .i64 t319)) (fun _ hk => hk.2) (.int .i64 t320)) (fun _ hk => hk.2) (.int .i64 t321)) (fun _ h_ => h_.1))) hb); have n4_ := Aside0.mk (Kd.R_below (by (with_reducible repeat (first | apply Kd.R_alloc | apply Kd.R_drewN | apply Kd.R_drew)); exact (Kd.R_mono (Kd.R_far (p := ⟨gb323, 4, none⟩) (Kd.R_far (p := ⟨gb323, 3, none⟩) (Kd.R_far (p := ⟨gb323, 2, none⟩) (Kd.R_far (p := ⟨gb323, 1, none⟩) (Kd.R_far (p := ⟨gb323, 0, none⟩) (Kd.R_types HO317.out BK323.out (by decide)) (fun _ hk => hk.2) (.slice Ao119 t315.length co119)) (fun _ hk => hk.2) (.int .i64 t318)) (fun _ hk => hk.2) (.int .i64 t319)) (fun _ hk => hk.2) (.int .i64 t320)) (fun _ hk => hk.2) (.int .i64 t321)) (fun _ h_ => h_.1))) hb); have n5_ := Aside0.mk (blk_below (g := gb258) (o := .cells #[.slice A0_0 l0_0.length c0_0, .int .i64 a0_1, .int .i64 a0_2, .int .i64 a0_3, .int .i64 a0_4] 24 (0, 0)) (by refine bl_ ?_; refine blk_far ?_ NB258_323.out _; refine bl_ ?_; refine blk_far ?_ NB258_323.out _; refine bl_ ?_; refine blk_far ?_ NB258_323.out _; refine bl_ ?_; refine blk_far ?_ NB258_323.out _; refine bl_ ?_; refine blk_far ?_ NB258_323.out _; refine bl_ ?_; exact BK258.out) hb); have n6_ := Aside0.mk (blk_below (g := gb275) (o := .cells #[.slice Ao21 t267.length co21, .int .i64 t270, .int .i64 t271, .int .i64 t272, .int .i64 t273] 28 (0, 0)) (by refine bl_ ?_; refine blk_far ?_ NB275_323.out _; refine bl_ ?_; refine blk_far ?_ NB275_323.out _; refine bl_ ?_; refine blk_far ?_ NB275_323.out _; refine bl_ ?_; refine blk_far ?_ NB275_323.out _; refine bl_ ?_; refine blk_far ?_ NB275_323.out _; refine bl_ ?_; exact BK275.out) hb); have n7_ := Aside0.mk (blk_below (g := gb283) (o := .cells #[.slice Ao27 t303.length co27, .int .i64 t279, .int .i64 t280, .int .i64 t281, .int .i64 t282] 28 (0, 0)) (by refine bl_ ?_; refine blk_far ?_ NB283_323.out _; refine bl_ ?_; refine blk_far ?_ NB283_323.out _; refine bl_ ?_; refine blk_far ?_ NB283_323.out _; refine bl_ ?_; refine blk_far ?_ NB283_323.out _; refine bl_ ?_; refine blk_far ?_ NB283_323.out _; refine bl_ ?_; exact BK283.out) hb); have n8_ := Aside0.mk (blk_below (g := gb292) (o := .cells #[.slice Ao33 t284.length co33, .int .i64 t287, .int .i64 t288, .int .i64 t289, .int .i64 t290] 28 (0, 0)) (by refine bl_ ?_; refine blk_far ?_ NB292_323.out _; refine bl_ ?_; refine blk_far ?_ NB292_323.out _; refine bl_ ?_; refine blk_far ?_ NB292_323.out _; refine bl_ ?_; refine blk_far ?_ NB292_323.out _; refine bl_ ?_; refine blk_far ?_ NB292_323.out _; refine bl_ ?_; exact BK292.out) hb); have n9_ := Aside0.mk (blk_below (g := gb323) (o := .cells #[.slice Ao119 t315.length co119, .int .i64 t318, .int .i64 t319, .int .i64 t320, .int .i64 t321] 28 (0, 0)) (by refine bl_ ?_; refine blk_put (cs := #[.slice Ao119 t315.length co119, .int .i64 t318, .int .i64 t319, .int .i64 t320, .int .i64 0]) ?_ 4 _ rfl; refine bl_ ?_; refine blk_put (cs := #[.slice Ao119 t315.length co119, .int .i64 t318, .int .i64 t319, .int .i64 0, .int .i64 0]) ?_ 3 _ rfl; refine bl_ ?_; refine blk_put (cs := #[.slice Ao119 t315.length co119, .int .i64 t318, .int .i64 0, .int .i64 0, .int .i64 0]) ?_ 2 _ rfl; refine bl_ ?_; refine blk_put (cs := #[.slice Ao119 t315.length co119, .int .i64 0, .int .i64 0, .int .i64 0, .int .i64 0]) ?_ 1 _ rfl; refine bl_ ?_; refine blk_put (cs := #[.slice none 0 0, .int .i64 0, .int .i64 0, .int .i64 0, .int .i64 0]) ?_ 0 _ rfl; refine bl_ ?_; exact BK323.out) hb); have n10_ := Aside0.mk (below_step (be_ HB.out) hb); clear HO_276000 HO_284000 HO_293000 HO310 HO317 BK258 BK275 BK283 BK292 BK323 HB; have HO_276000 := n0_; have HO_284000 := n1_; have HO_293000 := n2_; have HO310 := n3_; have HO317 := n4_; have BK258 := n5_; have BK275 := n6_; have BK283 := n7_; have BK292 := n8_; have BK323 := n9_; have HB := n10_; clear n0_ n1_ n2_ n3_ n4_ n5_ n6_ n7_ n8_ n9_ n10_; (try clear hb); (try clear hb2); (try clear hk); (try clear hi)))
                          go_meet
                          case rel => exact ⟨_, ((t322 != t274)), (by first | rfl | (simp; done) | (simp [*]; done)), H', ⟨by have := HJ11.out; have := HJ60.out; first | omega | exact Nat.le_refl _⟩, ⟨by (try simp only [hl284000_60]); (with_reducible repeat (first | apply Kd.R_alloc | apply Kd.R_drewN | apply Kd.R_drew)); exact Kd.R_mono HO_276000.out (fun _ hk => ⟨hk.1.1.1, ⟨hk.1.1.2, hk.2⟩⟩)⟩, ⟨by (try simp only [hl284000_60]); (with_reducible repeat (first | apply Kd.R_alloc | apply Kd.R_drewN | apply Kd.R_drew)); exact Kd.R_mono HO_284000.out (fun _ hk => ⟨hk.1.1.1, ⟨hk.1.1.2, hk.2⟩⟩)⟩, ⟨by (try simp only [hl284000_60]); (with_reducible repeat (first | apply Kd.R_alloc | apply Kd.R_drewN | apply Kd.R_drew)); exact Kd.R_mono HO_293000.out (fun _ hk => ⟨hk.1.1.1, ⟨hk.1.1.2, hk.2⟩⟩)⟩, ⟨by (try simp only [hl284000_60]); (with_reducible repeat (first | apply Kd.R_alloc | apply Kd.R_drewN | apply Kd.R_drew)); exact Kd.R_mono HO317.out (fun _ hk => ⟨hk.1.1.1.2, ⟨hk.1.1.2, hk.1.2⟩⟩)⟩, ⟨by (try simp only [hl284000_60]); refine bl_ ?_; exact BK258.out⟩, ⟨by (try simp only [hl284000_60]); refine bl_ ?_; exact BK275.out⟩, ⟨by (try simp only [hl284000_60]); refine bl_ ?_; exact BK283.out⟩, ⟨by (try simp only [hl284000_60]); refine bl_ ?_; exact BK292.out⟩, ⟨by (try simp only [hl284000_60]); refine bl_ ?_; exact BK323.out⟩, ⟨be_ HB.out⟩⟩
                        · replace c126 := Bool.eq_false_iff.mpr c126
                          subst c126
                          have H1 : (laws_FnExactRemoveAt.j2 kj60 t305 true t306 t287 t288 t289 t290) = some r := by rw [if_neg (show ¬ (false = true) by decide)] at H; exact H
                          clear H
                          have H := H1
                          clear H1
                          have H' := Aside0.mk H
                          clear H
                          have hnb137 := NB323_258.out
                          have hnc137 := NB258_323.out
                          have hnb138 := NB323_275.out
                          have hnc138 := NB275_323.out
                          have hnb139 := NB323_283.out
                          have hnc139 := NB283_323.out
                          have hnb140 := NB323_292.out
                          have hnc140 := NB292_323.out
                          have hcz141_0 : w118.cell? ⟨gb323, 0, none⟩ = some (.slice none 0 0) := (blk_cell BK323.out 0).trans rfl
                          have hcz141_1 : w118.cell? ⟨gb323, 1, none⟩ = some (.int .i64 0) := (blk_cell BK323.out 1).trans rfl
                          have hcz141_2 : w118.cell? ⟨gb323, 2, none⟩ = some (.int .i64 0) := (blk_cell BK323.out 2).trans rfl
                          have hcz141_3 : w118.cell? ⟨gb323, 3, none⟩ = some (.int .i64 0) := (blk_cell BK323.out 3).trans rfl
                          have hcz141_4 : w118.cell? ⟨gb323, 4, none⟩ = some (.int .i64 0) := (blk_cell BK323.out 4).trans rfl
                          have hfz141_0 := blk_frozen BK323.out 0
                          have hfz141_1 := blk_frozen BK323.out 1
                          have hfz141_2 := blk_frozen BK323.out 2
                          have hfz141_3 := blk_frozen BK323.out 3
                          have hfz141_4 := blk_frozen BK323.out 4
                          have hnb142 := NB275_258.out
                          have hnc142 := NB258_275.out
                          have hnb143 := NB275_283.out
                          have hnc143 := NB283_275.out
                          have hnb144 := NB275_292.out
                          have hnc144 := NB292_275.out
                          have hcz145_0 : w118.cell? ⟨gb275, 0, none⟩ = some (.slice Ao21 t267.length co21) := (blk_cell BK275.out 0).trans rfl
                          have hcz145_1 : w118.cell? ⟨gb275, 1, none⟩ = some (.int .i64 t270) := (blk_cell BK275.out 1).trans rfl
                          have hcz145_2 : w118.cell? ⟨gb275, 2, none⟩ = some (.int .i64 t271) := (blk_cell BK275.out 2).trans rfl
                          have hcz145_3 : w118.cell? ⟨gb275, 3, none⟩ = some (.int .i64 t272) := (blk_cell BK275.out 3).trans rfl
                          have hcz145_4 : w118.cell? ⟨gb275, 4, none⟩ = some (.int .i64 t273) := (blk_cell BK275.out 4).trans rfl
                          have hfz145_0 := blk_frozen BK275.out 0
                          have hfz145_1 := blk_frozen BK275.out 1
                          have hfz145_2 := blk_frozen BK275.out 2
                          have hfz145_3 := blk_frozen BK275.out 3
                          have hfz145_4 := blk_frozen BK275.out 4
                          go_wp2_with (first | ((with_reducible refine gate_callee (f := 17) rfl ?_); refine goesL_ (some 86) rfl rfl Try.func17 (by kernel_rfl) rfl #[.agg #[.slice Ao119 t315.length co119, .int .i64 t318, .int .i64 t319, .int .i64 t320, .int .i64 t321], .agg #[.slice Ao21 t267.length co21, .int .i64 t270, .int .i64 t271, .int .i64 t272, .int .i64 t273]] rfl (by (try simp only [List.map_toArray, List.map_cons, List.map_nil]); first | done | rfl | (simp only [List.length_drop, List.length_take]; rfl)) ?_; (with_reducible refine (laws_eqQueue.calls kj60 _ _ t315 t318 t319 t320 t321 _ _ t267 t270 t271 t272 t273 false _ ?side1 ?side2 ?side3 ?side4 A125.out).mono ?_); (case side1 => refine (Kd.R_reads' (e := 65) (base := w.heap.size) (ok := fun k_ => ((((True ∧ some k_ ≠ (.slice Ao21 t267.length co21 : Value).ownBlock) ∧ some k_ ≠ (.slice Ao27 t303.length co27 : Value).ownBlock) ∧ some k_ ≠ (.slice Ao33 t284.length co33 : Value).ownBlock) ∧ some k_ ≠ (.slice Ao116 t308.length co116 : Value).ownBlock)) (n := t315.length) (c := co119) ?_).2.2; exact (by (with_reducible repeat (first | apply Kd.R_alloc | apply Kd.R_drewN | apply Kd.R_drew)); exact (Kd.R_mono (Kd.R_far (p := ⟨gb323, 4, none⟩) (Kd.R_far (p := ⟨gb323, 3, none⟩) (Kd.R_far (p := ⟨gb323, 2, none⟩) (Kd.R_far (p := ⟨gb323, 1, none⟩) (Kd.R_far (p := ⟨gb323, 0, none⟩) (Kd.R_types HO317.out BK323.out (by decide)) (fun _ hk => hk.2) (.slice Ao119 t315.length co119)) (fun _ hk => hk.2) (.int .i64 t318)) (fun _ hk => hk.2) (.int .i64 t319)) (fun _ hk => hk.2) (.int .i64 t320)) (fun _ hk => hk.2) (.int .i64 t321)) (fun _ h_ => h_.1)))); (case side2 => exact (Kd.R_reads' HO317.out).2.1); (case side3 => refine (Kd.R_reads' (e := 65) (base := w.heap.size) (ok := fun k_ => (((some k_ ≠ (.slice Ao27 t303.length co27 : Value).ownBlock ∧ some k_ ≠ (.slice Ao33 t284.length co33 : Value).ownBlock) ∧ some k_ ≠ (.slice Ao116 t308.length co116 : Value).ownBlock) ∧ some k_ ≠ (.slice Ao119 t315.length co119 : Value).ownBlock)) (n := t267.length) (c := co21) ?_).2.2; exact (by (with_reducible repeat (first | apply Kd.R_alloc | apply Kd.R_drewN | apply Kd.R_drew)); exact (Kd.R_mono (Kd.R_far (p := ⟨gb323, 4, none⟩) (Kd.R_far (p := ⟨gb323, 3, none⟩) (Kd.R_far (p := ⟨gb323, 2, none⟩) (Kd.R_far (p := ⟨gb323, 1, none⟩) (Kd.R_far (p := ⟨gb323, 0, none⟩) (Kd.R_types HO_276000.out BK323.out (by decide)) (fun _ hk => hk.2) (.slice Ao119 t315.length co119)) (fun _ hk => hk.2) (.int .i64 t318)) (fun _ hk => hk.2) (.int .i64 t319)) (fun _ hk => hk.2) (.int .i64 t320)) (fun _ hk => hk.2) (.int .i64 t321)) (fun _ h_ => h_.1)))); (case side4 => exact (Kd.R_reads' HO_276000.out).2.1); rintro e w146 ⟨rfl, hb⟩; refine ⟨_, rfl, ?_⟩; have n0_ := Aside0.mk (Kd.R_below (by (with_reducible repeat (first | apply Kd.R_alloc | apply Kd.R_drewN | apply Kd.R_drew)); exact (Kd.R_mono (Kd.R_far (p := ⟨gb323, 4, none⟩) (Kd.R_far (p := ⟨gb323, 3, none⟩) (Kd.R_far (p := ⟨gb323, 2, none⟩) (Kd.R_far (p := ⟨gb323, 1, none⟩) (Kd.R_far (p := ⟨gb323, 0, none⟩) (Kd.R_types HO_276000.out BK323.out (by decide)) (fun _ hk => hk.2) (.slice Ao119 t315.length co119)) (fun _ hk => hk.2) (.int .i64 t318)) (fun _ hk => hk.2) (.int .i64 t319)) (fun _ hk => hk.2) (.int .i64 t320)) (fun _ hk => hk.2) (.int .i64 t321)) (fun _ h_ => h_.1))) hb); have n1_ := Aside0.mk (Kd.R_below (by (with_reducible repeat (first | apply Kd.R_alloc | apply Kd.R_drewN | apply Kd.R_drew)); exact (Kd.R_mono (Kd.R_far (p := ⟨gb323, 4, none⟩) (Kd.R_far (p := ⟨gb323, 3, none⟩) (Kd.R_far (p := ⟨gb323, 2, none⟩) (Kd.R_far (p := ⟨gb323, 1, none⟩) (Kd.R_far (p := ⟨gb323, 0, none⟩) (Kd.R_types HO_284000.out BK323.out (by decide)) (fun _ hk => hk.2) (.slice Ao119 t315.length co119)) (fun _ hk => hk.2) (.int .i64 t318)) (fun _ hk => hk.2) (.int .i64 t319)) (fun _ hk => hk.2) (.int .i64 t320)) (fun _ hk => hk.2) (.int .i64 t321)) (fun _ h_ => h_.1))) hb); have n2_ := Aside0.mk (Kd.R_below (by (with_reducible repeat (first | apply Kd.R_alloc | apply Kd.R_drewN | apply Kd.R_drew)); exact (Kd.R_mono (Kd.R_far (p := ⟨gb323, 4, none⟩) (Kd.R_far (p := ⟨gb323, 3, none⟩) (Kd.R_far (p := ⟨gb323, 2, none⟩) (Kd.R_far (p := ⟨gb323, 1, none⟩) (Kd.R_far (p := ⟨gb323, 0, none⟩) (Kd.R_types HO_293000.out BK323.out (by decide)) (fun _ hk => hk.2) (.slice Ao119 t315.length co119)) (fun _ hk => hk.2) (.int .i64 t318)) (fun _ hk => hk.2) (.int .i64 t319)) (fun _ hk => hk.2) (.int .i64 t320)) (fun _ hk => hk.2) (.int .i64 t321)) (fun _ h_ => h_.1))) hb); have n3_ := Aside0.mk (Kd.R_below (by (with_reducible repeat (first | apply Kd.R_alloc | apply Kd.R_drewN | apply Kd.R_drew)); exact (Kd.R_mono (Kd.R_far (p := ⟨gb323, 4, none⟩) (Kd.R_far (p := ⟨gb323, 3, none⟩) (Kd.R_far (p := ⟨gb323, 2, none⟩) (Kd.R_far (p := ⟨gb323, 1, none⟩) (Kd.R_far (p := ⟨gb323, 0, none⟩) (Kd.R_types HO310.out BK323.out (by decide)) (fun _ hk => hk.2) (.slice Ao119 t315.length co119)) (fun _ hk => hk.2) (.int .i64 t318)) (fun _ hk => hk.2) (.int .i64 t319)) (fun _ hk => hk.2) (.int .i64 t320)) (fun _ hk => hk.2) (.int .i64 t321)) (fun _ h_ => h_.1))) hb); have n4_ := Aside0.mk (Kd.R_below (by (with_reducible repeat (first | apply Kd.R_alloc | apply Kd.R_drewN | apply Kd.R_drew)); exact (Kd.R_mono (Kd.R_far (p := ⟨gb323, 4, none⟩) (Kd.R_far (p := ⟨gb323, 3, none⟩) (Kd.R_far (p := ⟨gb323, 2, none⟩) (Kd.R_far (p := ⟨gb323, 1, none⟩) (Kd.R_far (p := ⟨gb323, 0, none⟩) (Kd.R_types HO317.out BK323.out (by decide)) (fun _ hk => hk.2) (.slice Ao119 t315.length co119)) (fun _ hk => hk.2) (.int .i64 t318)) (fun _ hk => hk.2) (.int .i64 t319)) (fun _ hk => hk.2) (.int .i64 t320)) (fun _ hk => hk.2) (.int .i64 t321)) (fun _ h_ => h_.1))) hb); have n5_ := Aside0.mk (blk_below (g := gb258) (o := .cells #[.slice A0_0 l0_0.length c0_0, .int .i64 a0_1, .int .i64 a0_2, .int .i64 a0_3, .int .i64 a0_4] 24 (0, 0)) (by refine bl_ ?_; refine blk_far ?_ NB258_323.out _; refine bl_ ?_; refine blk_far ?_ NB258_323.out _; refine bl_ ?_; refine blk_far ?_ NB258_323.out _; refine bl_ ?_; refine blk_far ?_ NB258_323.out _; refine bl_ ?_; refine blk_far ?_ NB258_323.out _; refine bl_ ?_; exact BK258.out) hb); have n6_ := Aside0.mk (blk_below (g := gb275) (o := .cells #[.slice Ao21 t267.length co21, .int .i64 t270, .int .i64 t271, .int .i64 t272, .int .i64 t273] 28 (0, 0)) (by refine bl_ ?_; refine blk_far ?_ NB275_323.out _; refine bl_ ?_; refine blk_far ?_ NB275_323.out _; refine bl_ ?_; refine blk_far ?_ NB275_323.out _; refine bl_ ?_; refine blk_far ?_ NB275_323.out _; refine bl_ ?_; refine blk_far ?_ NB275_323.out _; refine bl_ ?_; exact BK275.out) hb); have n7_ := Aside0.mk (blk_below (g := gb283) (o := .cells #[.slice Ao27 t303.length co27, .int .i64 t279, .int .i64 t280, .int .i64 t281, .int .i64 t282] 28 (0, 0)) (by refine bl_ ?_; refine blk_far ?_ NB283_323.out _; refine bl_ ?_; refine blk_far ?_ NB283_323.out _; refine bl_ ?_; refine blk_far ?_ NB283_323.out _; refine bl_ ?_; refine blk_far ?_ NB283_323.out _; refine bl_ ?_; refine blk_far ?_ NB283_323.out _; refine bl_ ?_; exact BK283.out) hb); have n8_ := Aside0.mk (blk_below (g := gb292) (o := .cells #[.slice Ao33 t284.length co33, .int .i64 t287, .int .i64 t288, .int .i64 t289, .int .i64 t290] 28 (0, 0)) (by refine bl_ ?_; refine blk_far ?_ NB292_323.out _; refine bl_ ?_; refine blk_far ?_ NB292_323.out _; refine bl_ ?_; refine blk_far ?_ NB292_323.out _; refine bl_ ?_; refine blk_far ?_ NB292_323.out _; refine bl_ ?_; refine blk_far ?_ NB292_323.out _; refine bl_ ?_; exact BK292.out) hb); have n9_ := Aside0.mk (blk_below (g := gb323) (o := .cells #[.slice Ao119 t315.length co119, .int .i64 t318, .int .i64 t319, .int .i64 t320, .int .i64 t321] 28 (0, 0)) (by refine bl_ ?_; refine blk_put (cs := #[.slice Ao119 t315.length co119, .int .i64 t318, .int .i64 t319, .int .i64 t320, .int .i64 0]) ?_ 4 _ rfl; refine bl_ ?_; refine blk_put (cs := #[.slice Ao119 t315.length co119, .int .i64 t318, .int .i64 t319, .int .i64 0, .int .i64 0]) ?_ 3 _ rfl; refine bl_ ?_; refine blk_put (cs := #[.slice Ao119 t315.length co119, .int .i64 t318, .int .i64 0, .int .i64 0, .int .i64 0]) ?_ 2 _ rfl; refine bl_ ?_; refine blk_put (cs := #[.slice Ao119 t315.length co119, .int .i64 0, .int .i64 0, .int .i64 0, .int .i64 0]) ?_ 1 _ rfl; refine bl_ ?_; refine blk_put (cs := #[.slice none 0 0, .int .i64 0, .int .i64 0, .int .i64 0, .int .i64 0]) ?_ 0 _ rfl; refine bl_ ?_; exact BK323.out) hb); have n10_ := Aside0.mk (below_step (be_ HB.out) hb); clear HO_276000 HO_284000 HO_293000 HO310 HO317 BK258 BK275 BK283 BK292 BK323 HB; have HO_276000 := n0_; have HO_284000 := n1_; have HO_293000 := n2_; have HO310 := n3_; have HO317 := n4_; have BK258 := n5_; have BK275 := n6_; have BK283 := n7_; have BK292 := n8_; have BK323 := n9_; have HB := n10_; clear n0_ n1_ n2_ n3_ n4_ n5_ n6_ n7_ n8_ n9_ n10_; (try clear hb); (try clear hb2); (try clear hk); (try clear hi)))
                          go_meet
                          case rel => exact ⟨_, (true), (by first | rfl | (simp; done) | (simp [*]; done)), H', ⟨by have := HJ11.out; have := HJ60.out; first | omega | exact Nat.le_refl _⟩, ⟨by (try simp only [hl284000_60]); (with_reducible repeat (first | apply Kd.R_alloc | apply Kd.R_drewN | apply Kd.R_drew)); exact Kd.R_mono HO_276000.out (fun _ hk => ⟨hk.1.1.1, ⟨hk.1.1.2, hk.2⟩⟩)⟩, ⟨by (try simp only [hl284000_60]); (with_reducible repeat (first | apply Kd.R_alloc | apply Kd.R_drewN | apply Kd.R_drew)); exact Kd.R_mono HO_284000.out (fun _ hk => ⟨hk.1.1.1, ⟨hk.1.1.2, hk.2⟩⟩)⟩, ⟨by (try simp only [hl284000_60]); (with_reducible repeat (first | apply Kd.R_alloc | apply Kd.R_drewN | apply Kd.R_drew)); exact Kd.R_mono HO_293000.out (fun _ hk => ⟨hk.1.1.1, ⟨hk.1.1.2, hk.2⟩⟩)⟩, ⟨by (try simp only [hl284000_60]); (with_reducible repeat (first | apply Kd.R_alloc | apply Kd.R_drewN | apply Kd.R_drew)); exact Kd.R_mono HO317.out (fun _ hk => ⟨hk.1.1.1.2, ⟨hk.1.1.2, hk.1.2⟩⟩)⟩, ⟨by (try simp only [hl284000_60]); refine bl_ ?_; exact BK258.out⟩, ⟨by (try simp only [hl284000_60]); refine bl_ ?_; exact BK275.out⟩, ⟨by (try simp only [hl284000_60]); refine bl_ ?_; exact BK283.out⟩, ⟨by (try simp only [hl284000_60]); refine bl_ ?_; exact BK292.out⟩, ⟨by (try simp only [hl284000_60]); refine bl_ ?_; exact BK323.out⟩, ⟨be_ HB.out⟩⟩
                      case rest =>
                        clear HC104
                        try clear c1
                        try clear c2
                        try clear p2
                        try clear c3
                        try clear c4
                        try clear c4b0
                        try clear c5
                        try clear c6
                        try clear c7
                        try clear c8
                        try clear c9
                        try clear c10
                        try clear c11
                        try clear c12
                        try clear c13
                        try clear c14
                        try clear c15
                        try clear c17
                        try clear c18
                        try clear c19
                        try clear c22
                        try clear c28
                        try clear c29
                        try clear c34
                        try clear c35
                        try clear c36
                        try clear c38
                        try clear c39
                        try clear c40
                        try clear c41
                        try clear c42
                        try clear c44
                        try clear c45
                        try clear c46
                        try clear c48
                        try clear c49
                        try clear c50
                        try clear c52
                        try clear c53
                        try clear c56
                        try clear c59
                        try clear c66
                        try clear c67
                        try clear c68
                        try clear c71
                        try clear c71b0
                        try clear c73
                        try clear c74
                        try clear c75
                        try clear c76
                        try clear c78
                        try clear c79
                        try clear c82
                        try clear c83
                        try clear c84
                        try clear c86
                        try clear c87
                        try clear c90
                        try clear c93
                        try clear c93b0
                        try clear c94
                        try clear c95
                        try clear c96
                        try clear c101
                        try clear c101b0
                        try clear c101b1
                        try clear c105
                        try clear c106
                        try clear c107
                        try clear c112
                        try clear c113
                        try clear c120
                        try clear c121
                        try clear c122
                        try clear c123
                        try clear c126
                        try clear c127
                        try clear c128
                        try clear c129
                        try clear c130
                        try clear c132
                        try clear c133
                        try clear c134
                        try clear c137
                        try clear c138
                        try clear c139
                        try clear c140
                        try clear c142
                        try clear c143
                        try clear c144
                        try clear hcz108_0
                        try clear hcz108_1
                        try clear hcz108_2
                        try clear hcz108_3
                        try clear hcz108_4
                        try clear hcz110_0
                        try clear hcz110_1
                        try clear hcz110_2
                        try clear hcz110_3
                        try clear hcz110_4
                        try clear hcz114_0
                        try clear hcz114_1
                        try clear hcz114_2
                        try clear hcz114_3
                        try clear hcz114_4
                        try clear hcz124_0
                        try clear hcz124_1
                        try clear hcz124_2
                        try clear hcz124_3
                        try clear hcz124_4
                        try clear hcz131_0
                        try clear hcz131_1
                        try clear hcz131_2
                        try clear hcz131_3
                        try clear hcz131_4
                        try clear hcz135_0
                        try clear hcz135_1
                        try clear hcz135_2
                        try clear hcz135_3
                        try clear hcz135_4
                        try clear hcz141_0
                        try clear hcz141_1
                        try clear hcz141_2
                        try clear hcz141_3
                        try clear hcz141_4
                        try clear hcz145_0
                        try clear hcz145_1
                        try clear hcz145_2
                        try clear hcz145_3
                        try clear hcz145_4
                        try clear hcz14_0
                        try clear hcz14_1
                        try clear hcz14_2
                        try clear hcz14_3
                        try clear hcz14_4
                        try clear hcz16_0
                        try clear hcz16_1
                        try clear hcz16_2
                        try clear hcz16_3
                        try clear hcz16_4
                        try clear hcz23_0
                        try clear hcz23_1
                        try clear hcz23_2
                        try clear hcz23_3
                        try clear hcz23_4
                        try clear hcz24_0
                        try clear hcz24_1
                        try clear hcz24_2
                        try clear hcz24_3
                        try clear hcz24_4
                        try clear hcz30_0
                        try clear hcz30_1
                        try clear hcz30_2
                        try clear hcz30_3
                        try clear hcz30_4
                        try clear hcz37_0
                        try clear hcz37_1
                        try clear hcz37_2
                        try clear hcz37_3
                        try clear hcz37_4
                        try clear hcz43_0
                        try clear hcz43_1
                        try clear hcz43_2
                        try clear hcz43_3
                        try clear hcz43_4
                        try clear hcz46_0
                        try clear hcz46_1
                        try clear hcz46_2
                        try clear hcz46_3
                        try clear hcz46_4
                        try clear hcz51_0
                        try clear hcz51_1
                        try clear hcz51_2
                        try clear hcz51_3
                        try clear hcz51_4
                        try clear hcz54_0
                        try clear hcz54_1
                        try clear hcz54_2
                        try clear hcz54_3
                        try clear hcz54_4
                        try clear hcz69_0
                        try clear hcz69_1
                        try clear hcz69_2
                        try clear hcz69_3
                        try clear hcz69_4
                        try clear hcz6_0
                        try clear hcz6_1
                        try clear hcz6_2
                        try clear hcz6_3
                        try clear hcz6_4
                        try clear hcz77_0
                        try clear hcz77_1
                        try clear hcz77_2
                        try clear hcz77_3
                        try clear hcz77_4
                        try clear hcz80_0
                        try clear hcz80_1
                        try clear hcz80_2
                        try clear hcz80_3
                        try clear hcz80_4
                        try clear hcz85_0
                        try clear hcz85_1
                        try clear hcz85_2
                        try clear hcz85_3
                        try clear hcz85_4
                        try clear hcz88_0
                        try clear hcz88_1
                        try clear hcz88_2
                        try clear hcz88_3
                        try clear hcz88_4
                        try clear hcz97_0
                        try clear hcz97_1
                        try clear hcz97_2
                        try clear hcz97_3
                        try clear hcz97_4
                        try clear hcz99_0
                        try clear hcz99_1
                        try clear hcz99_2
                        try clear hcz99_3
                        try clear hcz99_4
                        try clear hfz108_0
                        try clear hfz108_1
                        try clear hfz108_2
                        try clear hfz108_3
                        try clear hfz108_4
                        try clear hfz110_0
                        try clear hfz110_1
                        try clear hfz110_2
                        try clear hfz110_3
                        try clear hfz110_4
                        try clear hfz114_0
                        try clear hfz114_1
                        try clear hfz114_2
                        try clear hfz114_3
                        try clear hfz114_4
                        try clear hfz124_0
                        try clear hfz124_1
                        try clear hfz124_2
                        try clear hfz124_3
                        try clear hfz124_4
                        try clear hfz131_0
                        try clear hfz131_1
                        try clear hfz131_2
                        try clear hfz131_3
                        try clear hfz131_4
                        try clear hfz135_0
                        try clear hfz135_1
                        try clear hfz135_2
                        try clear hfz135_3
                        try clear hfz135_4
                        try clear hfz141_0
                        try clear hfz141_1
                        try clear hfz141_2
                        try clear hfz141_3
                        try clear hfz141_4
                        try clear hfz145_0
                        try clear hfz145_1
                        try clear hfz145_2
                        try clear hfz145_3
                        try clear hfz145_4
                        try clear hfz14_0
                        try clear hfz14_1
                        try clear hfz14_2
                        try clear hfz14_3
                        try clear hfz14_4
                        try clear hfz16_0
                        try clear hfz16_1
                        try clear hfz16_2
                        try clear hfz16_3
                        try clear hfz16_4
                        try clear hfz23_0
                        try clear hfz23_1
                        try clear hfz23_2
                        try clear hfz23_3
                        try clear hfz23_4
                        try clear hfz24_0
                        try clear hfz24_1
                        try clear hfz24_2
                        try clear hfz24_3
                        try clear hfz24_4
                        try clear hfz30_0
                        try clear hfz30_1
                        try clear hfz30_2
                        try clear hfz30_3
                        try clear hfz30_4
                        try clear hfz37_0
                        try clear hfz37_1
                        try clear hfz37_2
                        try clear hfz37_3
                        try clear hfz37_4
                        try clear hfz43_0
                        try clear hfz43_1
                        try clear hfz43_2
                        try clear hfz43_3
                        try clear hfz43_4
                        try clear hfz46_0
                        try clear hfz46_1
                        try clear hfz46_2
                        try clear hfz46_3
                        try clear hfz46_4
                        try clear hfz51_0
                        try clear hfz51_1
                        try clear hfz51_2
                        try clear hfz51_3
                        try clear hfz51_4
                        try clear hfz54_0
                        try clear hfz54_1
                        try clear hfz54_2
                        try clear hfz54_3
                        try clear hfz54_4
                        try clear hfz69_0
                        try clear hfz69_1
                        try clear hfz69_2
                        try clear hfz69_3
                        try clear hfz69_4
                        try clear hfz6_0
                        try clear hfz6_1
                        try clear hfz6_2
                        try clear hfz6_3
                        try clear hfz6_4
                        try clear hfz77_0
                        try clear hfz77_1
                        try clear hfz77_2
                        try clear hfz77_3
                        try clear hfz77_4
                        try clear hfz80_0
                        try clear hfz80_1
                        try clear hfz80_2
                        try clear hfz80_3
                        try clear hfz80_4
                        try clear hfz85_0
                        try clear hfz85_1
                        try clear hfz85_2
                        try clear hfz85_3
                        try clear hfz85_4
                        try clear hfz88_0
                        try clear hfz88_1
                        try clear hfz88_2
                        try clear hfz88_3
                        try clear hfz88_4
                        try clear hfz97_0
                        try clear hfz97_1
                        try clear hfz97_2
                        try clear hfz97_3
                        try clear hfz97_4
                        try clear hfz99_0
                        try clear hfz99_1
                        try clear hfz99_2
                        try clear hfz99_3
                        try clear hfz99_4
                        try clear p2
                        obtain ⟨kq, x92_103, rfl, HA, HJ103, HO_276000, HO_284000, HO_293000, HO_324000, BK258, BK275, BK283, BK292, BK323, HB⟩ := hcut
                        have hl293000_103 := (Kd.R_reads' HO_293000.out).1
                        rw [hl293000_103] at HO_293000
                        (try simp only [hl293000_103])
                        (try simp only [hl293000_103] at BK258)
                        (try simp only [hl293000_103] at BK275)
                        (try simp only [hl293000_103] at BK283)
                        (try simp only [hl293000_103] at BK292)
                        (try simp only [hl293000_103] at BK323)
                        (try simp only [hl293000_103] at HO_276000)
                        (try simp only [hl293000_103] at HO_284000)
                        (try simp only [hl293000_103] at HO_324000)
                        cases kq with
                        | zero => exact absurd HA.out (by simp [laws_FnExactRemoveAt.j2])
                        | succ kj103 =>
                          have H := HA.out
                          clear HA
                          simp only [laws_FnExactRemoveAt.j2] at H
                          by_cases c147 : x92_103 = true
                          · subst c147
                            have H1 : (some false) = some r := by rw [if_pos rfl] at H; exact H
                            clear H
                            have H := H1
                            clear H1
                            obtain rfl := Option.some.inj H
                            go_wp2
                            go_ret
                            exact ⟨by first | rfl | (simp [errW_none, errW_some] <;> rfl) | (simp [*, errW_none, errW_some] <;> rfl), be_ HB.out⟩
                          · replace c147 := Bool.eq_false_iff.mpr c147
                            subst c147
                            have H1 : ((laws_heldQueue.f kj103 t306 t287 t288 t289 t290 1).bind fun t325 => (if t325 < 0 then (some false) else (if t325 = t305 then (some true) else (some false)))) = some r := by rw [if_neg (show ¬ (false = true) by decide)] at H; exact H
                            clear H
                            have H := H1
                            clear H1
                            replace H := Option.bind_eq_some_iff.mp H
                            obtain ⟨t325, A1480, H⟩ := H
                            replace H : (if t325 < 0 then (some false) else (if t325 = t305 then (some true) else (some false))) = some r := H
                            have A148 := Aside0.mk A1480
                            clear A1480
                            by_cases c149 : t325 < 0
                            · rw [if_pos c149] at H
                              have c149b0 : decide (t325 < 0) = true := decide_eq_true c149
                              clear c149
                              obtain rfl := Option.some.inj H
                              have hnb150 := NB292_258.out
                              have hnc150 := NB258_292.out
                              have hnb151 := NB292_275.out
                              have hnc151 := NB275_292.out
                              have hnb152 := NB292_283.out
                              have hnc152 := NB283_292.out
                              have hnb153 := NB292_323.out
                              have hnc153 := NB323_292.out
                              have hcz154_0 : wc.cell? ⟨gb292, 0, none⟩ = some (.slice Ao33 t306.length co33) := (blk_cell BK292.out 0).trans rfl
                              have hcz154_1 : wc.cell? ⟨gb292, 1, none⟩ = some (.int .i64 t287) := (blk_cell BK292.out 1).trans rfl
                              have hcz154_2 : wc.cell? ⟨gb292, 2, none⟩ = some (.int .i64 t288) := (blk_cell BK292.out 2).trans rfl
                              have hcz154_3 : wc.cell? ⟨gb292, 3, none⟩ = some (.int .i64 t289) := (blk_cell BK292.out 3).trans rfl
                              have hcz154_4 : wc.cell? ⟨gb292, 4, none⟩ = some (.int .i64 t290) := (blk_cell BK292.out 4).trans rfl
                              have hfz154_0 := blk_frozen BK292.out 0
                              have hfz154_1 := blk_frozen BK292.out 1
                              have hfz154_2 := blk_frozen BK292.out 2
                              have hfz154_3 := blk_frozen BK292.out 3
                              have hfz154_4 := blk_frozen BK292.out 4
                              go_wp2_with (first | ((with_reducible refine gate_callee (f := 19) rfl ?_); refine goesL_ (some 95) rfl rfl Try.func19 (by kernel_rfl) rfl #[.agg #[.slice Ao33 t306.length co33, .int .i64 t287, .int .i64 t288, .int .i64 t289, .int .i64 t290], .int .i64 1] rfl (by (try simp only [List.map_toArray, List.map_cons, List.map_nil]); first | done | rfl | (simp only [List.length_drop, List.length_take]; rfl)) ?_; (with_reducible refine (laws_heldQueue.calls kj103 _ _ t306 t287 t288 t289 t290 1 t325 _ ?side1 ?side2 A148.out).mono ?_); (case side1 => repeat (first | exact (Kd.R_reads' HO_293000.out).2.2 | (with_reducible refine Kd.C_alloc ?_ _) | (with_reducible refine Kd.C_drewN ?_ _) | (with_reducible refine Kd.C_drew ?_))); (case side2 => exact (Kd.R_reads' HO_293000.out).2.1); rintro e w155 ⟨rfl, hb⟩; refine ⟨_, rfl, ?_⟩; have n0_ := Aside0.mk (Kd.R_below (ro_ HO_276000.out) hb); have n1_ := Aside0.mk (Kd.R_below (ro_ HO_284000.out) hb); have n2_ := Aside0.mk (Kd.R_below (ro_ HO_293000.out) hb); have n3_ := Aside0.mk (Kd.R_below (ro_ HO_324000.out) hb); have n4_ := Aside0.mk (blk_below (g := gb258) (o := .cells #[.slice A0_0 l0_0.length c0_0, .int .i64 a0_1, .int .i64 a0_2, .int .i64 a0_3, .int .i64 a0_4] 24 (0, 0)) (bl_ BK258.out) hb); have n5_ := Aside0.mk (blk_below (g := gb275) (o := .cells #[.slice Ao21 t267.length co21, .int .i64 t270, .int .i64 t271, .int .i64 t272, .int .i64 t273] 28 (0, 0)) (bl_ BK275.out) hb); have n6_ := Aside0.mk (blk_below (g := gb283) (o := .cells #[.slice Ao27 t303.length co27, .int .i64 t279, .int .i64 t280, .int .i64 t281, .int .i64 t282] 28 (0, 0)) (bl_ BK283.out) hb); have n7_ := Aside0.mk (blk_below (g := gb292) (o := .cells #[.slice Ao33 t306.length co33, .int .i64 t287, .int .i64 t288, .int .i64 t289, .int .i64 t290] 28 (0, 0)) (bl_ BK292.out) hb); have n8_ := Aside0.mk (blk_below (g := gb323) (o := .cells #[.slice Ao119 t315.length co119, .int .i64 t318, .int .i64 t319, .int .i64 t320, .int .i64 t321] 28 (0, 0)) (bl_ BK323.out) hb); have n9_ := Aside0.mk (below_step (be_ HB.out) hb); clear HO_276000 HO_284000 HO_293000 HO_324000 BK258 BK275 BK283 BK292 BK323 HB; have HO_276000 := n0_; have HO_284000 := n1_; have HO_293000 := n2_; have HO_324000 := n3_; have BK258 := n4_; have BK275 := n5_; have BK283 := n6_; have BK292 := n7_; have BK323 := n8_; have HB := n9_; clear n0_ n1_ n2_ n3_ n4_ n5_ n6_ n7_ n8_ n9_; (try clear hb); (try clear hb2); (try clear hk); (try clear hi)))
                              go_ret
                              exact ⟨by first | rfl | (simp [errW_none, errW_some] <;> rfl) | (simp [*, errW_none, errW_some] <;> rfl), be_ HB.out⟩
                            · rw [if_neg c149] at H
                              have c149b0 : decide (t325 < 0) = false := decide_eq_false c149
                              clear c149
                              by_cases c156 : t325 = t305
                              · rw [if_pos c156] at H
                                have c156b0 : (t325 == t305) = true := beq_iff_eq.mpr c156
                                have c156b1 : (t325 != t305) = false := bne_eq_false_iff_eq.mpr c156
                                clear c156
                                obtain rfl := Option.some.inj H
                                have hnb157 := NB292_258.out
                                have hnc157 := NB258_292.out
                                have hnb158 := NB292_275.out
                                have hnc158 := NB275_292.out
                                have hnb159 := NB292_283.out
                                have hnc159 := NB283_292.out
                                have hnb160 := NB292_323.out
                                have hnc160 := NB323_292.out
                                have hcz161_0 : wc.cell? ⟨gb292, 0, none⟩ = some (.slice Ao33 t306.length co33) := (blk_cell BK292.out 0).trans rfl
                                have hcz161_1 : wc.cell? ⟨gb292, 1, none⟩ = some (.int .i64 t287) := (blk_cell BK292.out 1).trans rfl
                                have hcz161_2 : wc.cell? ⟨gb292, 2, none⟩ = some (.int .i64 t288) := (blk_cell BK292.out 2).trans rfl
                                have hcz161_3 : wc.cell? ⟨gb292, 3, none⟩ = some (.int .i64 t289) := (blk_cell BK292.out 3).trans rfl
                                have hcz161_4 : wc.cell? ⟨gb292, 4, none⟩ = some (.int .i64 t290) := (blk_cell BK292.out 4).trans rfl
                                have hfz161_0 := blk_frozen BK292.out 0
                                have hfz161_1 := blk_frozen BK292.out 1
                                have hfz161_2 := blk_frozen BK292.out 2
                                have hfz161_3 := blk_frozen BK292.out 3
                                have hfz161_4 := blk_frozen BK292.out 4
                                go_wp2_with (first | ((with_reducible refine gate_callee (f := 19) rfl ?_); refine goesL_ (some 95) rfl rfl Try.func19 (by kernel_rfl) rfl #[.agg #[.slice Ao33 t306.length co33, .int .i64 t287, .int .i64 t288, .int .i64 t289, .int .i64 t290], .int .i64 1] rfl (by (try simp only [List.map_toArray, List.map_cons, List.map_nil]); first | done | rfl | (simp only [List.length_drop, List.length_take]; rfl)) ?_; (with_reducible refine (laws_heldQueue.calls kj103 _ _ t306 t287 t288 t289 t290 1 t325 _ ?side1 ?side2 A148.out).mono ?_); (case side1 => repeat (first | exact (Kd.R_reads' HO_293000.out).2.2 | (with_reducible refine Kd.C_alloc ?_ _) | (with_reducible refine Kd.C_drewN ?_ _) | (with_reducible refine Kd.C_drew ?_))); (case side2 => exact (Kd.R_reads' HO_293000.out).2.1); rintro e w162 ⟨rfl, hb⟩; refine ⟨_, rfl, ?_⟩; have n0_ := Aside0.mk (Kd.R_below (ro_ HO_276000.out) hb); have n1_ := Aside0.mk (Kd.R_below (ro_ HO_284000.out) hb); have n2_ := Aside0.mk (Kd.R_below (ro_ HO_293000.out) hb); have n3_ := Aside0.mk (Kd.R_below (ro_ HO_324000.out) hb); have n4_ := Aside0.mk (blk_below (g := gb258) (o := .cells #[.slice A0_0 l0_0.length c0_0, .int .i64 a0_1, .int .i64 a0_2, .int .i64 a0_3, .int .i64 a0_4] 24 (0, 0)) (bl_ BK258.out) hb); have n5_ := Aside0.mk (blk_below (g := gb275) (o := .cells #[.slice Ao21 t267.length co21, .int .i64 t270, .int .i64 t271, .int .i64 t272, .int .i64 t273] 28 (0, 0)) (bl_ BK275.out) hb); have n6_ := Aside0.mk (blk_below (g := gb283) (o := .cells #[.slice Ao27 t303.length co27, .int .i64 t279, .int .i64 t280, .int .i64 t281, .int .i64 t282] 28 (0, 0)) (bl_ BK283.out) hb); have n7_ := Aside0.mk (blk_below (g := gb292) (o := .cells #[.slice Ao33 t306.length co33, .int .i64 t287, .int .i64 t288, .int .i64 t289, .int .i64 t290] 28 (0, 0)) (bl_ BK292.out) hb); have n8_ := Aside0.mk (blk_below (g := gb323) (o := .cells #[.slice Ao119 t315.length co119, .int .i64 t318, .int .i64 t319, .int .i64 t320, .int .i64 t321] 28 (0, 0)) (bl_ BK323.out) hb); have n9_ := Aside0.mk (below_step (be_ HB.out) hb); clear HO_276000 HO_284000 HO_293000 HO_324000 BK258 BK275 BK283 BK292 BK323 HB; have HO_276000 := n0_; have HO_284000 := n1_; have HO_293000 := n2_; have HO_324000 := n3_; have BK258 := n4_; have BK275 := n5_; have BK283 := n6_; have BK292 := n7_; have BK323 := n8_; have HB := n9_; clear n0_ n1_ n2_ n3_ n4_ n5_ n6_ n7_ n8_ n9_; (try clear hb); (try clear hb2); (try clear hk); (try clear hi)))
                                go_ret
                                exact ⟨by first | rfl | (simp [errW_none, errW_some] <;> rfl) | (simp [*, errW_none, errW_some] <;> rfl), be_ HB.out⟩
                              · rw [if_neg c156] at H
                                have c156b0 : (t325 == t305) = false := beq_eq_false_iff_ne.mpr c156
                                have c156b1 : (t325 != t305) = true := bne_iff_ne.mpr c156
                                obtain rfl := Option.some.inj H
                                have hnb163 := NB292_258.out
                                have hnc163 := NB258_292.out
                                have hnb164 := NB292_275.out
                                have hnc164 := NB275_292.out
                                have hnb165 := NB292_283.out
                                have hnc165 := NB283_292.out
                                have hnb166 := NB292_323.out
                                have hnc166 := NB323_292.out
                                have hcz167_0 : wc.cell? ⟨gb292, 0, none⟩ = some (.slice Ao33 t306.length co33) := (blk_cell BK292.out 0).trans rfl
                                have hcz167_1 : wc.cell? ⟨gb292, 1, none⟩ = some (.int .i64 t287) := (blk_cell BK292.out 1).trans rfl
                                have hcz167_2 : wc.cell? ⟨gb292, 2, none⟩ = some (.int .i64 t288) := (blk_cell BK292.out 2).trans rfl
                                have hcz167_3 : wc.cell? ⟨gb292, 3, none⟩ = some (.int .i64 t289) := (blk_cell BK292.out 3).trans rfl
                                have hcz167_4 : wc.cell? ⟨gb292, 4, none⟩ = some (.int .i64 t290) := (blk_cell BK292.out 4).trans rfl
                                have hfz167_0 := blk_frozen BK292.out 0
                                have hfz167_1 := blk_frozen BK292.out 1
                                have hfz167_2 := blk_frozen BK292.out 2
                                have hfz167_3 := blk_frozen BK292.out 3
                                have hfz167_4 := blk_frozen BK292.out 4
                                go_wp2_with (first | ((with_reducible refine gate_callee (f := 19) rfl ?_); refine goesL_ (some 95) rfl rfl Try.func19 (by kernel_rfl) rfl #[.agg #[.slice Ao33 t306.length co33, .int .i64 t287, .int .i64 t288, .int .i64 t289, .int .i64 t290], .int .i64 1] rfl (by (try simp only [List.map_toArray, List.map_cons, List.map_nil]); first | done | rfl | (simp only [List.length_drop, List.length_take]; rfl)) ?_; (with_reducible refine (laws_heldQueue.calls kj103 _ _ t306 t287 t288 t289 t290 1 t325 _ ?side1 ?side2 A148.out).mono ?_); (case side1 => repeat (first | exact (Kd.R_reads' HO_293000.out).2.2 | (with_reducible refine Kd.C_alloc ?_ _) | (with_reducible refine Kd.C_drewN ?_ _) | (with_reducible refine Kd.C_drew ?_))); (case side2 => exact (Kd.R_reads' HO_293000.out).2.1); rintro e w168 ⟨rfl, hb⟩; refine ⟨_, rfl, ?_⟩; have n0_ := Aside0.mk (Kd.R_below (ro_ HO_276000.out) hb); have n1_ := Aside0.mk (Kd.R_below (ro_ HO_284000.out) hb); have n2_ := Aside0.mk (Kd.R_below (ro_ HO_293000.out) hb); have n3_ := Aside0.mk (Kd.R_below (ro_ HO_324000.out) hb); have n4_ := Aside0.mk (blk_below (g := gb258) (o := .cells #[.slice A0_0 l0_0.length c0_0, .int .i64 a0_1, .int .i64 a0_2, .int .i64 a0_3, .int .i64 a0_4] 24 (0, 0)) (bl_ BK258.out) hb); have n5_ := Aside0.mk (blk_below (g := gb275) (o := .cells #[.slice Ao21 t267.length co21, .int .i64 t270, .int .i64 t271, .int .i64 t272, .int .i64 t273] 28 (0, 0)) (bl_ BK275.out) hb); have n6_ := Aside0.mk (blk_below (g := gb283) (o := .cells #[.slice Ao27 t303.length co27, .int .i64 t279, .int .i64 t280, .int .i64 t281, .int .i64 t282] 28 (0, 0)) (bl_ BK283.out) hb); have n7_ := Aside0.mk (blk_below (g := gb292) (o := .cells #[.slice Ao33 t306.length co33, .int .i64 t287, .int .i64 t288, .int .i64 t289, .int .i64 t290] 28 (0, 0)) (bl_ BK292.out) hb); have n8_ := Aside0.mk (blk_below (g := gb323) (o := .cells #[.slice Ao119 t315.length co119, .int .i64 t318, .int .i64 t319, .int .i64 t320, .int .i64 t321] 28 (0, 0)) (bl_ BK323.out) hb); have n9_ := Aside0.mk (below_step (be_ HB.out) hb); clear HO_276000 HO_284000 HO_293000 HO_324000 BK258 BK275 BK283 BK292 BK323 HB; have HO_276000 := n0_; have HO_284000 := n1_; have HO_293000 := n2_; have HO_324000 := n3_; have BK258 := n4_; have BK275 := n5_; have BK283 := n6_; have BK292 := n7_; have BK323 := n8_; have HB := n9_; clear n0_ n1_ n2_ n3_ n4_ n5_ n6_ n7_ n8_ n9_; (try clear hb); (try clear hb2); (try clear hk); (try clear hi)))
                                go_ret
                                exact ⟨by first | rfl | (simp [errW_none, errW_some] <;> rfl) | (simp [*, errW_none, errW_some] <;> rfl), be_ HB.out⟩
                    · rw [if_neg c101] at H
                      have c101b0 : (t307 == t305) = false := beq_eq_false_iff_ne.mpr c101
                      have c101b1 : (t307 != t305) = true := bne_iff_ne.mpr c101
                      obtain rfl := Option.some.inj H
                      have hnb169 := NB292_258.out
                      have hnc169 := NB258_292.out
                      have hnb170 := NB292_275.out
                      have hnc170 := NB275_292.out
                      have hnb171 := NB292_283.out
                      have hnc171 := NB283_292.out
                      have hcz172_0 : wc.cell? ⟨gb292, 0, none⟩ = some (.slice Ao33 t284.length co33) := (blk_cell BK292.out 0).trans rfl
                      have hcz172_1 : wc.cell? ⟨gb292, 1, none⟩ = some (.int .i64 t287) := (blk_cell BK292.out 1).trans rfl
                      have hcz172_2 : wc.cell? ⟨gb292, 2, none⟩ = some (.int .i64 t288) := (blk_cell BK292.out 2).trans rfl
                      have hcz172_3 : wc.cell? ⟨gb292, 3, none⟩ = some (.int .i64 t289) := (blk_cell BK292.out 3).trans rfl
                      have hcz172_4 : wc.cell? ⟨gb292, 4, none⟩ = some (.int .i64 t290) := (blk_cell BK292.out 4).trans rfl
                      have hfz172_0 := blk_frozen BK292.out 0
                      have hfz172_1 := blk_frozen BK292.out 1
                      have hfz172_2 := blk_frozen BK292.out 2
                      have hfz172_3 := blk_frozen BK292.out 3
                      have hfz172_4 := blk_frozen BK292.out 4
                      go_wp2_with (first | ((with_reducible refine gate_callee (f := 18) rfl ?_); refine goesL_ (some 68) rfl rfl Try.func18 (by kernel_rfl) rfl #[.agg #[.slice Ao33 t284.length co33, .int .i64 t287, .int .i64 t288, .int .i64 t289, .int .i64 t290], .int .i64 1] rfl (by (try simp only [List.map_toArray, List.map_cons, List.map_nil]); first | done | rfl | (simp only [List.length_drop, List.length_take]; rfl)) ?_; (with_reducible refine (laws_markQueue.calls kj60 (fun k_ => some k_ = (.slice Ao33 t284.length co33 : Value).ownBlock) (.slice Ao33 t284.length co33) t284 t287 t288 t289 t290 1 t305 t306 w _ ?side1 ?side2 A91.out).mono ?_); (case side1 => exact be_ HB.out); (case side2 => exact Kd.R_tight rfl HO_293000.out); rintro e w173 ⟨rfl, hy0, hb, hkp⟩; refine ⟨_, rfl, ?_⟩; have n0_ := Aside0.mk (Kd.R_mono (ok' := fun k_ => some k_ ≠ (.slice Ao27 t303.length co27 : Value).ownBlock ∧ some k_ ≠ (.slice Ao33 t284.length co33 : Value).ownBlock) (Kd.R_keptB (HO_276000.out) hkp rn_) rm_); have n1_ := Aside0.mk (Kd.R_mono (ok' := fun k_ => some k_ ≠ (.slice Ao21 t267.length co21 : Value).ownBlock ∧ some k_ ≠ (.slice Ao33 t284.length co33 : Value).ownBlock) (Kd.R_keptB (HO_284000.out) hkp rn_) rm_); have n2_ := Aside0.mk (Kd.R_reok rfl hy0 (fun k_ e_ => HO_293000.out.1 k_ e_)); have n3_ := Aside0.mk (blk_kept (bl_ BK258.out) hkp (fun hs_ => (fun e_ => (Kd.R_ne HO_293000.out BK258.out (by decide)) e_) hs_)); have n4_ := Aside0.mk (blk_kept (bl_ BK275.out) hkp (fun hs_ => (fun e_ => (Kd.R_ne HO_293000.out BK275.out (by decide)) e_) hs_)); have n5_ := Aside0.mk (blk_kept (bl_ BK283.out) hkp (fun hs_ => (fun e_ => (Kd.R_ne HO_293000.out BK283.out (by decide)) e_) hs_)); have n6_ := Aside0.mk (blk_kept (bl_ BK292.out) hkp (fun hs_ => (fun e_ => (Kd.R_ne HO_293000.out BK292.out (by decide)) e_) hs_)); have n7_ := Aside0.mk (hb); clear HO_276000 HO_284000 HO_293000 BK258 BK275 BK283 BK292 HB; have HO_276000 := n0_; have HO_284000 := n1_; have HO_293000 := n2_; have BK258 := n3_; have BK275 := n4_; have BK283 := n5_; have BK292 := n6_; have HB := n7_; clear n0_ n1_ n2_ n3_ n4_ n5_ n6_ n7_; (try clear hb); (try clear hkp); (try clear hy0); obtain ⟨hcz174_0, hcz174_1, hcz174_2, hcz174_3, hcz174_4, hfz174_0, hfz174_1, hfz174_2, hfz174_3, hfz174_4⟩ := cz5_ BK292.out) | ((with_reducible refine gate_callee (f := 19) rfl ?_); refine goesL_ (some 71) rfl rfl Try.func19 (by kernel_rfl) rfl #[.agg #[.slice Ao33 t306.length co33, .int .i64 t287, .int .i64 t288, .int .i64 t289, .int .i64 t290], .int .i64 1] rfl (by (try simp only [List.map_toArray, List.map_cons, List.map_nil]); first | done | (rw [show t306.length = t284.length from (Kd.R_reads' HO_293000.out).1.symm] <;> rfl) | rfl | (simp only [List.length_drop, List.length_take]; rfl)) ?_; (with_reducible refine (laws_heldQueue.calls kj60 _ _ t306 t287 t288 t289 t290 1 t307 _ ?side1 ?side2 A92.out).mono ?_); (case side1 => repeat (first | exact (Kd.R_reads' HO_293000.out).2.2 | (with_reducible refine Kd.C_alloc ?_ _) | (with_reducible refine Kd.C_drewN ?_ _) | (with_reducible refine Kd.C_drew ?_))); (case side2 => rw [show t306.length = t284.length from (Kd.R_reads' HO_293000.out).1.symm]; exact (Kd.R_reads' HO_293000.out).2.1); rintro e w175 ⟨rfl, hb⟩; refine ⟨_, rfl, ?_⟩; have n0_ := Aside0.mk (Kd.R_below (ro_ HO_276000.out) hb); have n1_ := Aside0.mk (Kd.R_below (ro_ HO_284000.out) hb); have n2_ := Aside0.mk (Kd.R_below (ro_ HO_293000.out) hb); have n3_ := Aside0.mk (blk_below (g := gb258) (o := .cells #[.slice A0_0 l0_0.length c0_0, .int .i64 a0_1, .int .i64 a0_2, .int .i64 a0_3, .int .i64 a0_4] 24 (0, 0)) (bl_ BK258.out) hb); have n4_ := Aside0.mk (blk_below (g := gb275) (o := .cells #[.slice Ao21 t267.length co21, .int .i64 t270, .int .i64 t271, .int .i64 t272, .int .i64 t273] 28 (0, 0)) (bl_ BK275.out) hb); have n5_ := Aside0.mk (blk_below (g := gb283) (o := .cells #[.slice Ao27 t303.length co27, .int .i64 t279, .int .i64 t280, .int .i64 t281, .int .i64 t282] 28 (0, 0)) (bl_ BK283.out) hb); have n6_ := Aside0.mk (blk_below (g := gb292) (o := .cells #[.slice Ao33 t284.length co33, .int .i64 t287, .int .i64 t288, .int .i64 t289, .int .i64 t290] 28 (0, 0)) (bl_ BK292.out) hb); have n7_ := Aside0.mk (below_step (be_ HB.out) hb); clear HO_276000 HO_284000 HO_293000 BK258 BK275 BK283 BK292 HB; have HO_276000 := n0_; have HO_284000 := n1_; have HO_293000 := n2_; have BK258 := n3_; have BK275 := n4_; have BK283 := n5_; have BK292 := n6_; have HB := n7_; clear n0_ n1_ n2_ n3_ n4_ n5_ n6_ n7_; (try clear hb); (try clear hb2); (try clear hk); (try clear hi)))
                      go_ret
                      exact ⟨by first | rfl | (simp [errW_none, errW_some] <;> rfl) | (simp [*, errW_none, errW_some] <;> rfl), be_ HB.out⟩
          · replace c59 := Bool.eq_false_iff.mpr c59
            subst c59
            have H1 : (some false) = some r := by rw [if_neg (show ¬ (false = true) by decide)] at H; exact H
            clear H
            have H := H1
            clear H1
            obtain rfl := Option.some.inj H
            try go_wp2
            have n0_ := Aside0.mk (Kd.R_drew HO_276000.out)
            have n1_ := Aside0.mk (Kd.R_drew HO_284000.out)
            have n2_ := Aside0.mk (Kd.R_drew HO_293000.out)
            have n3_ := Aside0.mk (blk_drew BK258.out)
            have n4_ := Aside0.mk (blk_drew BK275.out)
            have n5_ := Aside0.mk (blk_drew BK283.out)
            have n6_ := Aside0.mk (blk_drew BK292.out)
            have n7_ := Aside0.mk (below_drew1 HB.out)
            clear HO_276000
            clear HO_284000
            clear HO_293000
            clear BK258
            clear BK275
            clear BK283
            clear BK292
            clear HB
            have HO_276000 := n0_
            have HO_284000 := n1_
            have HO_293000 := n2_
            have BK258 := n3_
            have BK275 := n4_
            have BK283 := n5_
            have BK292 := n6_
            have HB := n7_
            clear n0_ n1_ n2_ n3_ n4_ n5_ n6_ n7_
            refine start_ (n := 5) (S := fun w' => w'.cell? ⟨gb283, 0, none⟩ = some (.slice Ao27 t276.length co27) ∧ w'.cell? ⟨gb283, 1, none⟩ = some (.int .i64 t279) ∧ w'.cell? ⟨gb283, 2, none⟩ = some (.int .i64 t280) ∧ w'.cell? ⟨gb283, 3, none⟩ = some (.int .i64 t281) ∧ w'.cell? ⟨gb283, 4, none⟩ = some (.int .i64 t282) ∧ w'.cell? ⟨gb258, 0, none⟩ = some (.slice A0_0 l0_0.length c0_0) ∧ w'.cell? ⟨gb258, 1, none⟩ = some (.int .i64 a0_1) ∧ w'.cell? ⟨gb258, 2, none⟩ = some (.int .i64 a0_2) ∧ w'.cell? ⟨gb258, 3, none⟩ = some (.int .i64 a0_3) ∧ w'.cell? ⟨gb258, 4, none⟩ = some (.int .i64 a0_4)) (ds := []) #[false, false, false, false, false] (by kernel_rfl) rfl rfl ⟨(blk_cell BK283.out 0).trans rfl, (blk_cell BK283.out 1).trans rfl, (blk_cell BK283.out 2).trans rfl, (blk_cell BK283.out 3).trans rfl, (blk_cell BK283.out 4).trans rfl, (blk_cell BK258.out 0).trans rfl, (blk_cell BK258.out 1).trans rfl, (blk_cell BK258.out 2).trans rfl, (blk_cell BK258.out 3).trans rfl, (blk_cell BK258.out 4).trans rfl⟩ (fun hHeld => ?_)
            generalize wc.drew = w176 at HO_276000 HO_284000 HO_293000 BK258 BK275 BK283 BK292 HB hHeld ⊢
            refine take_ (i := 0) (N := some 45) (v := ?_) (a' := ?_) #[true, false, false, false, false] rfl rfl (by kernel_rfl) (fun _ _ _ h => h) (Or.inl ⟨by rfl, ?_⟩) hHeld ?_ ?_
            rotate_left
            · rintro w' ⟨s0, s1, s2, s3, s4, s5, s6, s7, s8, s9⟩
              go_simp
              with_reducible rfl
            rotate_left
            · simp only [Act.put, List.setIfInBounds_toArray, List.set_cons_zero, List.set_cons_succ, i64_w, i32_w]
              rfl
            refine take_ (i := 1) (N := some 46) (v := ?_) (a' := ?_) #[true, true, false, false, false] rfl rfl (by kernel_rfl) (fun _ _ _ h => h) (Or.inl ⟨by rfl, ?_⟩) hHeld ?_ ?_
            rotate_left
            · rintro w' ⟨s0, s1, s2, s3, s4, s5, s6, s7, s8, s9⟩
              go_simp
              with_reducible rfl
            rotate_left
            · simp only [Act.put, List.setIfInBounds_toArray, List.set_cons_zero, List.set_cons_succ, i64_w, i32_w]
              rfl
            refine one_ (i := 2) (N := some 47) #[true, true, true, false, false] rfl rfl (by kernel_rfl) (by decide) (fun K hK => ?_)
            refine goes_ Try.func15 (by kernel_rfl) rfl #[.agg #[.slice A0_0 l0_0.length c0_0, .int .i64 a0_1, .int .i64 a0_2, .int .i64 a0_3, .int .i64 a0_4]] (by rfl) rfl rfl (by (try simp only [List.map_toArray, List.map_cons, List.map_nil]); first | done | rfl | (simp only [List.length_drop, List.length_take]; rfl)) ?_
            with_reducible refine (laws_toQueue.calls kj11 _ _ l0_0 a0_1 a0_2 a0_3 a0_4 t294 t297 t298 t299 t300 _ ?side1 ?side2 A57.out).mono ?_
            (case side1 => repeat (first | exact (Kd.C_below HR0_0.out HB.out) | (with_reducible refine Kd.C_alloc ?_ _) | (with_reducible refine Kd.C_drewN ?_ _) | (with_reducible refine Kd.C_drew ?_)))
            (case side2 => exact HC0_0.out)
            rintro e w177 ⟨v295, rfl, ho0, hb⟩
            refine ⟨_, rfl, ?_⟩
            have n0_ := Aside0.mk (Kd.R_elder' (ro_ HO_276000.out) (Kd.R_base ho0) hb)
            have n1_ := Aside0.mk (Kd.R_elder' (ro_ HO_284000.out) (Kd.R_base ho0) hb)
            have n2_ := Aside0.mk (Kd.R_elder' (ro_ HO_293000.out) (Kd.R_base ho0) hb)
            have n3_ := Aside0.mk (Kd.R_lower (Kd.R_new' (Kd.R_new' (Kd.R_new' ho0 (Kd.R_lt (ro_ HO_276000.out))) (Kd.R_lt (ro_ HO_284000.out))) (Kd.R_lt (ro_ HO_293000.out))) (below_size (be_ HB.out)))
            have n4_ := Aside0.mk (blk_below (g := gb258) (o := .cells #[.slice A0_0 l0_0.length c0_0, .int .i64 a0_1, .int .i64 a0_2, .int .i64 a0_3, .int .i64 a0_4] 24 (0, 0)) (bl_ BK258.out) hb)
            have n5_ := Aside0.mk (blk_below (g := gb275) (o := .cells #[.slice Ao21 t267.length co21, .int .i64 t270, .int .i64 t271, .int .i64 t272, .int .i64 t273] 28 (0, 0)) (bl_ BK275.out) hb)
            have n6_ := Aside0.mk (blk_below (g := gb283) (o := .cells #[.slice Ao27 t276.length co27, .int .i64 t279, .int .i64 t280, .int .i64 t281, .int .i64 t282] 28 (0, 0)) (bl_ BK283.out) hb)
            have n7_ := Aside0.mk (blk_below (g := gb292) (o := .cells #[.slice Ao33 t284.length co33, .int .i64 t287, .int .i64 t288, .int .i64 t289, .int .i64 t290] 28 (0, 0)) (bl_ BK292.out) hb)
            have n8_ := Aside0.mk (below_step (be_ HB.out) hb)
            clear HO_276000
            clear HO_284000
            clear HO_293000
            clear BK258
            clear BK275
            clear BK283
            clear BK292
            clear HB
            have HO_276000 := n0_
            have HO_284000 := n1_
            have HO_293000 := n2_
            have HO296 := n3_
            have BK258 := n4_
            have BK275 := n5_
            have BK283 := n6_
            have BK292 := n7_
            have HB := n8_
            clear n0_ n1_ n2_ n3_ n4_ n5_ n6_ n7_ n8_
            (try clear hb)
            (try clear hb2)
            (try clear hk)
            (try clear hi)
            (try clear ho0)
            obtain ⟨Ao178, co178, eo178⟩ := Kd.R_slice HO296.out
            (first | subst eo178 | (injection eo178 with f1_ f2_ f3_; have f4_ := f1_.symm; have f5_ := f3_.symm; clear f1_ f2_ f3_; subst f4_; subst f5_))
            refine hK.out _ _ ⟨(blk_cell BK283.out 0).trans rfl, (blk_cell BK283.out 1).trans rfl, (blk_cell BK283.out 2).trans rfl, (blk_cell BK283.out 3).trans rfl, (blk_cell BK283.out 4).trans rfl, (blk_cell BK258.out 0).trans rfl, (blk_cell BK258.out 1).trans rfl, (blk_cell BK258.out 2).trans rfl, (blk_cell BK258.out 3).trans rfl, (blk_cell BK258.out 4).trans rfl⟩ (fun hHeld => ?_)
            clear hK K
            refine norm_ (a' := ?_) ?_ ?_
            rotate_left
            · show Act.put _ (some 47) _ = _
              simp only [Act.put, List.setIfInBounds_toArray, List.set_cons_zero, List.set_cons_succ, i64_w, i32_w]
              rfl
            refine one_ (i := 3) (N := some 48) #[true, true, true, true, false] rfl rfl (by kernel_rfl) (by decide) (fun K hK => ?_)
            refine goes_ Try.func17 (by kernel_rfl) rfl #[.agg #[.slice Ao27 t276.length co27, .int .i64 t279, .int .i64 t280, .int .i64 t281, .int .i64 t282], .agg #[.slice Ao178 t294.length co178, .int .i64 t297, .int .i64 t298, .int .i64 t299, .int .i64 t300]] (by rfl) rfl rfl (by (try simp only [List.map_toArray, List.map_cons, List.map_nil]); first | done | rfl | (simp only [List.length_drop, List.length_take]; rfl)) ?_
            with_reducible refine (laws_eqQueue.calls kj11 _ _ t276 t279 t280 t281 t282 _ _ t294 t297 t298 t299 t300 false _ ?side1 ?side2 ?side3 ?side4 A58.out).mono ?_
            (case side1 => repeat (first | exact (Kd.R_reads' HO_284000.out).2.2 | (with_reducible refine Kd.C_alloc ?_ _) | (with_reducible refine Kd.C_drewN ?_ _) | (with_reducible refine Kd.C_drew ?_)))
            (case side2 => exact (Kd.R_reads' HO_284000.out).2.1)
            (case side3 => repeat (first | exact (Kd.R_reads' HO296.out).2.2 | (with_reducible refine Kd.C_alloc ?_ _) | (with_reducible refine Kd.C_drewN ?_ _) | (with_reducible refine Kd.C_drew ?_)))
            (case side4 => exact (Kd.R_reads' HO296.out).2.1)
            rintro e w179 ⟨rfl, hb⟩
            refine ⟨_, rfl, ?_⟩
            have n0_ := Aside0.mk (Kd.R_below (ro_ HO_276000.out) hb)
            have n1_ := Aside0.mk (Kd.R_below (ro_ HO_284000.out) hb)
            have n2_ := Aside0.mk (Kd.R_below (ro_ HO_293000.out) hb)
            have n3_ := Aside0.mk (Kd.R_below (ro_ HO296.out) hb)
            have n4_ := Aside0.mk (blk_below (g := gb258) (o := .cells #[.slice A0_0 l0_0.length c0_0, .int .i64 a0_1, .int .i64 a0_2, .int .i64 a0_3, .int .i64 a0_4] 24 (0, 0)) (bl_ BK258.out) hb)
            have n5_ := Aside0.mk (blk_below (g := gb275) (o := .cells #[.slice Ao21 t267.length co21, .int .i64 t270, .int .i64 t271, .int .i64 t272, .int .i64 t273] 28 (0, 0)) (bl_ BK275.out) hb)
            have n6_ := Aside0.mk (blk_below (g := gb283) (o := .cells #[.slice Ao27 t276.length co27, .int .i64 t279, .int .i64 t280, .int .i64 t281, .int .i64 t282] 28 (0, 0)) (bl_ BK283.out) hb)
            have n7_ := Aside0.mk (blk_below (g := gb292) (o := .cells #[.slice Ao33 t284.length co33, .int .i64 t287, .int .i64 t288, .int .i64 t289, .int .i64 t290] 28 (0, 0)) (bl_ BK292.out) hb)
            have n8_ := Aside0.mk (below_step (be_ HB.out) hb)
            clear HO_276000
            clear HO_284000
            clear HO_293000
            clear HO296
            clear BK258
            clear BK275
            clear BK283
            clear BK292
            clear HB
            have HO_276000 := n0_
            have HO_284000 := n1_
            have HO_293000 := n2_
            have HO296 := n3_
            have BK258 := n4_
            have BK275 := n5_
            have BK283 := n6_
            have BK292 := n7_
            have HB := n8_
            clear n0_ n1_ n2_ n3_ n4_ n5_ n6_ n7_ n8_
            (try clear hb)
            (try clear hb2)
            (try clear hk)
            (try clear hi)
            refine hK.out _ _ ⟨(blk_cell BK283.out 0).trans rfl, (blk_cell BK283.out 1).trans rfl, (blk_cell BK283.out 2).trans rfl, (blk_cell BK283.out 3).trans rfl, (blk_cell BK283.out 4).trans rfl, (blk_cell BK258.out 0).trans rfl, (blk_cell BK258.out 1).trans rfl, (blk_cell BK258.out 2).trans rfl, (blk_cell BK258.out 3).trans rfl, (blk_cell BK258.out 4).trans rfl⟩ (fun hHeld => ?_)
            clear hK K
            refine norm_ (a' := ?_) ?_ ?_
            rotate_left
            · show Act.put _ (some 48) _ = _
              simp only [Act.put, List.setIfInBounds_toArray, List.set_cons_zero, List.set_cons_succ, i64_w, i32_w]
              rfl
            refine pure_ (i := 4) (N := some 49) (v := ?_) (a' := ?_) #[true, true, true, true, true] rfl rfl (by kernel_rfl) (fun _ _ _ h => h) (Or.inl ⟨by rfl, ?_⟩) ?_ ?_
            rotate_left
            · intro w'
              go_simp
              with_reducible rfl
            rotate_left
            · simp only [Act.put, List.setIfInBounds_toArray, List.set_cons_zero, List.set_cons_succ, i64_w, i32_w]
              rfl
            refine done_ (by kernel_rfl) ?_
            try go_wp2
            go_ret
            exact ⟨by first | rfl | (simp [errW_none, errW_some] <;> rfl) | (simp [*, errW_none, errW_some] <;> rfl), be_ HB.out⟩

end Go.Proofs.Ytgpgkedbanmheaa.MFnExactRemoveAt
