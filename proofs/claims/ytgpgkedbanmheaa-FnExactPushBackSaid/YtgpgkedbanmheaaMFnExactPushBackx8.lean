-- Written by a program of this session over the kit's print, with stand-ins for the functions that the print leaves; Lean checks it.
import Derived.Test.YtgpgkedbanmheaaMFnExactPushBackx0
import Derived.Test.YtgpgkedbanmheaaMFnExactPushBackx1
import Derived.Test.YtgpgkedbanmheaaMFnExactPushBackx2
import Derived.Test.YtgpgkedbanmheaaMFnExactPushBackx5
import Derived.Test.YtgpgkedbanmheaaMFnExactPushBackx7
namespace Go.Proofs.Ytgpgkedbanmheaa.MFnExactPushBack
open Go.RowKit Go.Proofs.YtgpgkedbanmheaaW.PrintWords Go.Proofs.YtgpgkedbanmheaaW.PrintLast Go.Proofs.YtgpgkedbanmheaaW.PrintMore
attribute [local go_sem] max2_int min2_int max_two min_two max_three min_three max_four min_four   -- for this text's walks alone
set_option linter.unusedVariables false
set_option linter.unusedSimpArgs false

/-! ### laws_FnExactPushBack: function 4 -/
mutual
def laws_FnExactPushBack.j0 : Nat → Int → Int → Int → Bool → List (S75) → Int → Int → Int → Int → List (S65) → Int → Int → Int → Int → List (S65) → Int → Int → Int → Int → List (S65) → Int → Int → Int → Int → Option (Bool)
  | 0, _, _, _, _, _, _, _, _, _, _, _, _, _, _, _, _, _, _, _, _, _, _, _, _ => none
  | k + 1, x1, x7, x10, x44, x257000, x257001, x257002, x257003, x257004, x274000, x274001, x274002, x274003, x274004, x282000, x282001, x282002, x282003, x282004, x291000, x291001, x291002, x291003, x291004 => if x44 = true then (some false) else ((laws_toQueue.f k x257000 x257001 x257002 x257003 x257004).bind fun bt292 => ((laws_eqQueue.f k x282000 x282001 x282002 x282003 x282004 bt292.1 bt292.2.1 bt292.2.2.1 bt292.2.2.2.1 bt292.2.2.2.2).bind fun t299 => (if t299 = true then ((laws_markQueue.f k x282000 x282001 x282002 x282003 x282004 1).bind fun bt300 => (if bt300.1 < 0 then (laws_FnExactPushBack.j1 k x1 x7 true x257000 x257001 x257002 x257003 x257004 x274000 x274001 x274002 x274003 x274004 x291000 x291001 x291002 x291003 x291004) else ((laws_eqQueue.f k x291000 x291001 x291002 x291003 x291004 x274000 x274001 x274002 x274003 x274004).bind fun t302 => (if t302 = true then (laws_FnExactPushBack.j1 k x1 x7 (x10 != x7) x257000 x257001 x257002 x257003 x257004 x274000 x274001 x274002 x274003 x274004 x291000 x291001 x291002 x291003 x291004) else (laws_FnExactPushBack.j1 k x1 x7 true x257000 x257001 x257002 x257003 x257004 x274000 x274001 x274002 x274003 x274004 x291000 x291001 x291002 x291003 x291004))))) else (some false))))
def laws_FnExactPushBack.j1 : Nat → Int → Int → Bool → List (S75) → Int → Int → Int → Int → List (S65) → Int → Int → Int → Int → List (S65) → Int → Int → Int → Int → Option (Bool)
  | 0, _, _, _, _, _, _, _, _, _, _, _, _, _, _, _, _, _, _ => none
  | k + 1, x1, x7, x65, x257000, x257001, x257002, x257003, x257004, x274000, x274001, x274002, x274003, x274004, x291000, x291001, x291002, x291003, x291004 => if x65 = true then (some false) else ((laws_markQueue.f k x291000 x291001 x291002 x291003 x291004 1).bind fun bt303 => ((laws_heldQueue.f k bt303.2 x291001 x291002 x291003 x291004 1).bind fun t305 => (if t305 < 0 then (some false) else (if t305 = bt303.1 then ((laws_toQueue.f k x257000 x257001 x257002 x257003 x257004).bind fun bt306 => ((impl_PushBack.f k bt306.1 bt306.2.1 bt306.2.2.1 bt306.2.2.2.1 bt306.2.2.2.2 x1).bind fun bt313 => ((laws_eqQueue.f k bt313.1 bt313.2.1 bt313.2.2.1 bt313.2.2.2.1 bt313.2.2.2.2.1 x274000 x274001 x274002 x274003 x274004).bind fun t322 => (if t322 = true then (laws_FnExactPushBack.j2 k bt303.1 (bt313.2.2.2.2.2 != x7) bt303.2 x291001 x291002 x291003 x291004) else (laws_FnExactPushBack.j2 k bt303.1 true bt303.2 x291001 x291002 x291003 x291004))))) else (some false)))))
def laws_FnExactPushBack.j2 : Nat → Int → Bool → List (S65) → Int → Int → Int → Int → Option (Bool)
  | 0, _, _, _, _, _, _, _ => none
  | k + 1, x12, x92, x291000, x291001, x291002, x291003, x291004 => if x92 = true then (some false) else ((laws_heldQueue.f k x291000 x291001 x291002 x291003 x291004 1).bind fun t323 => (if t323 < 0 then (some false) else (if t323 = x12 then (some true) else (some false))))
end
def laws_FnExactPushBack.f (k : Nat) (l0_0 : List (S75)) (a0_1 : Int) (a0_2 : Int) (a0_3 : Int) (a0_4 : Int) (a1 : Int) : Option (Bool) := (laws_szQueue.f l0_0 a0_1 a0_2 a0_3 a0_4 1048576).bind fun t257 => (if t257 < 0 then (some true) else ((laws_toQueue.f k l0_0 a0_1 a0_2 a0_3 a0_4).bind fun bt258 => ((spec_PushBack.f k bt258.1 bt258.2.1 bt258.2.2.1 bt258.2.2.2.1 bt258.2.2.2.2 a1).bind fun bt265 => ((laws_toQueue.f k l0_0 a0_1 a0_2 a0_3 a0_4).bind fun bt274 => ((impl_PushBack.f k bt274.1 bt274.2.1 bt274.2.2.1 bt274.2.2.2.1 bt274.2.2.2.2 a1).bind fun bt282 => ((laws_eqQueue.f k bt282.1 bt282.2.1 bt282.2.2.1 bt282.2.2.2.1 bt282.2.2.2.2.1 bt265.1 bt265.2.1 bt265.2.2.1 bt265.2.2.2.1 bt265.2.2.2.2.1).bind fun t291 => (if t291 = true then (laws_FnExactPushBack.j0 k a1 bt265.2.2.2.2.2 bt282.2.2.2.2.2 (bt282.2.2.2.2.2 != bt265.2.2.2.2.2) l0_0 a0_1 a0_2 a0_3 a0_4 bt265.1 bt265.2.1 bt265.2.2.1 bt265.2.2.2.1 bt265.2.2.2.2.1 bt274.1 bt274.2.1 bt274.2.2.1 bt274.2.2.2.1 bt274.2.2.2.2 bt282.1 bt282.2.1 bt282.2.2.1 bt282.2.2.2.1 bt282.2.2.2.2.1) else (laws_FnExactPushBack.j0 k a1 bt265.2.2.2.2.2 bt282.2.2.2.2.2 true l0_0 a0_1 a0_2 a0_3 a0_4 bt265.1 bt265.2.1 bt265.2.2.1 bt265.2.2.2.1 bt265.2.2.2.2.1 bt274.1 bt274.2.1 bt274.2.2.1 bt274.2.2.2.1 bt274.2.2.2.2 bt282.1 bt282.2.1 bt282.2.2.1 bt282.2.2.2.1 bt282.2.2.2.2.1))))))))
theorem laws_FnExactPushBack.mono_l : ∀ k, (∀ y0 y1 y2 y3 y4 y5 y6 y7 y8 y9 y10 y11 y12 y13 y14 y15 y16 y17 y18 y19 y20 y21 y22 y23, LeO (laws_FnExactPushBack.j0 k y0 y1 y2 y3 y4 y5 y6 y7 y8 y9 y10 y11 y12 y13 y14 y15 y16 y17 y18 y19 y20 y21 y22 y23) (laws_FnExactPushBack.j0 (k + 1) y0 y1 y2 y3 y4 y5 y6 y7 y8 y9 y10 y11 y12 y13 y14 y15 y16 y17 y18 y19 y20 y21 y22 y23)) ∧ (∀ y0 y1 y2 y3 y4 y5 y6 y7 y8 y9 y10 y11 y12 y13 y14 y15 y16 y17, LeO (laws_FnExactPushBack.j1 k y0 y1 y2 y3 y4 y5 y6 y7 y8 y9 y10 y11 y12 y13 y14 y15 y16 y17) (laws_FnExactPushBack.j1 (k + 1) y0 y1 y2 y3 y4 y5 y6 y7 y8 y9 y10 y11 y12 y13 y14 y15 y16 y17)) ∧ (∀ y0 y1 y2 y3 y4 y5 y6, LeO (laws_FnExactPushBack.j2 k y0 y1 y2 y3 y4 y5 y6) (laws_FnExactPushBack.j2 (k + 1) y0 y1 y2 y3 y4 y5 y6))
  | 0 => ⟨fun _ _ _ _ _ _ _ _ _ _ _ _ _ _ _ _ _ _ _ _ _ _ _ _ r h => by simp [laws_FnExactPushBack.j0] at h, fun _ _ _ _ _ _ _ _ _ _ _ _ _ _ _ _ _ _ r h => by simp [laws_FnExactPushBack.j1] at h, fun _ _ _ _ _ _ _ r h => by simp [laws_FnExactPushBack.j2] at h⟩
  | k + 1 => by
    obtain ⟨ih0, ih1, ih2⟩ := laws_FnExactPushBack.mono_l k
    refine ⟨?_, ?_, ?_⟩
    · intro y0 y1 y2 y3 y4 y5 y6 y7 y8 y9 y10 y11 y12 y13 y14 y15 y16 y17 y18 y19 y20 y21 y22 y23
      unfold laws_FnExactPushBack.j0
      repeat' first
      | (with_reducible exact ih0 _ _ _ _ _ _ _ _ _ _ _ _ _ _ _ _ _ _ _ _ _ _ _ _)
      | (with_reducible exact ih1 _ _ _ _ _ _ _ _ _ _ _ _ _ _ _ _ _ _)
      | (with_reducible exact ih2 _ _ _ _ _ _ _)
      | (with_reducible exact impl_PushBack.mono _ _ _ _ _ _ _)
      | (with_reducible exact laws_eqQueue.mono _ _ _ _ _ _ _ _ _ _ _)
      | (with_reducible exact laws_heldQueue.mono _ _ _ _ _ _ _)
      | (with_reducible exact laws_markQueue.mono _ _ _ _ _ _ _)
      | (with_reducible exact laws_toQueue.mono _ _ _ _ _ _)
      | (with_reducible exact spec_PushBack.mono _ _ _ _ _ _ _)
      | (with_reducible exact LeO.refl _)
      | (with_reducible exact LeO.none _)
      | (with_reducible refine LeO.ite ?_ ?_)
      | (with_reducible refine LeO.bind ?_ (fun _ => ?_))
      | exact ih0 _ _ _ _ _ _ _ _ _ _ _ _ _ _ _ _ _ _ _ _ _ _ _ _
      | exact ih1 _ _ _ _ _ _ _ _ _ _ _ _ _ _ _ _ _ _
      | exact ih2 _ _ _ _ _ _ _
      | exact impl_PushBack.mono _ _ _ _ _ _ _
      | exact laws_eqQueue.mono _ _ _ _ _ _ _ _ _ _ _
      | exact laws_heldQueue.mono _ _ _ _ _ _ _
      | exact laws_markQueue.mono _ _ _ _ _ _ _
      | exact laws_toQueue.mono _ _ _ _ _ _
      | exact spec_PushBack.mono _ _ _ _ _ _ _
      | exact LeO.none _
      | refine LeO.ite ?_ ?_
      | refine LeO.bind ?_ (fun _ => ?_)
    · intro y0 y1 y2 y3 y4 y5 y6 y7 y8 y9 y10 y11 y12 y13 y14 y15 y16 y17
      unfold laws_FnExactPushBack.j1
      repeat' first
      | (with_reducible exact ih0 _ _ _ _ _ _ _ _ _ _ _ _ _ _ _ _ _ _ _ _ _ _ _ _)
      | (with_reducible exact ih1 _ _ _ _ _ _ _ _ _ _ _ _ _ _ _ _ _ _)
      | (with_reducible exact ih2 _ _ _ _ _ _ _)
      | (with_reducible exact impl_PushBack.mono _ _ _ _ _ _ _)
      | (with_reducible exact laws_eqQueue.mono _ _ _ _ _ _ _ _ _ _ _)
      | (with_reducible exact laws_heldQueue.mono _ _ _ _ _ _ _)
      | (with_reducible exact laws_markQueue.mono _ _ _ _ _ _ _)
      | (with_reducible exact laws_toQueue.mono _ _ _ _ _ _)
      | (with_reducible exact spec_PushBack.mono _ _ _ _ _ _ _)
      | (with_reducible exact LeO.refl _)
      | (with_reducible exact LeO.none _)
      | (with_reducible refine LeO.ite ?_ ?_)
      | (with_reducible refine LeO.bind ?_ (fun _ => ?_))
      | exact ih0 _ _ _ _ _ _ _ _ _ _ _ _ _ _ _ _ _ _ _ _ _ _ _ _
      | exact ih1 _ _ _ _ _ _ _ _ _ _ _ _ _ _ _ _ _ _
      | exact ih2 _ _ _ _ _ _ _
      | exact impl_PushBack.mono _ _ _ _ _ _ _
      | exact laws_eqQueue.mono _ _ _ _ _ _ _ _ _ _ _
      | exact laws_heldQueue.mono _ _ _ _ _ _ _
      | exact laws_markQueue.mono _ _ _ _ _ _ _
      | exact laws_toQueue.mono _ _ _ _ _ _
      | exact spec_PushBack.mono _ _ _ _ _ _ _
      | exact LeO.none _
      | refine LeO.ite ?_ ?_
      | refine LeO.bind ?_ (fun _ => ?_)
    · intro y0 y1 y2 y3 y4 y5 y6
      unfold laws_FnExactPushBack.j2
      repeat' first
      | (with_reducible exact ih0 _ _ _ _ _ _ _ _ _ _ _ _ _ _ _ _ _ _ _ _ _ _ _ _)
      | (with_reducible exact ih1 _ _ _ _ _ _ _ _ _ _ _ _ _ _ _ _ _ _)
      | (with_reducible exact ih2 _ _ _ _ _ _ _)
      | (with_reducible exact impl_PushBack.mono _ _ _ _ _ _ _)
      | (with_reducible exact laws_eqQueue.mono _ _ _ _ _ _ _ _ _ _ _)
      | (with_reducible exact laws_heldQueue.mono _ _ _ _ _ _ _)
      | (with_reducible exact laws_markQueue.mono _ _ _ _ _ _ _)
      | (with_reducible exact laws_toQueue.mono _ _ _ _ _ _)
      | (with_reducible exact spec_PushBack.mono _ _ _ _ _ _ _)
      | (with_reducible exact LeO.refl _)
      | (with_reducible exact LeO.none _)
      | (with_reducible refine LeO.ite ?_ ?_)
      | (with_reducible refine LeO.bind ?_ (fun _ => ?_))
      | exact ih0 _ _ _ _ _ _ _ _ _ _ _ _ _ _ _ _ _ _ _ _ _ _ _ _
      | exact ih1 _ _ _ _ _ _ _ _ _ _ _ _ _ _ _ _ _ _
      | exact ih2 _ _ _ _ _ _ _
      | exact impl_PushBack.mono _ _ _ _ _ _ _
      | exact laws_eqQueue.mono _ _ _ _ _ _ _ _ _ _ _
      | exact laws_heldQueue.mono _ _ _ _ _ _ _
      | exact laws_markQueue.mono _ _ _ _ _ _ _
      | exact laws_toQueue.mono _ _ _ _ _ _
      | exact spec_PushBack.mono _ _ _ _ _ _ _
      | exact LeO.none _
      | refine LeO.ite ?_ ?_
      | refine LeO.bind ?_ (fun _ => ?_)
theorem laws_FnExactPushBack.mono : ∀ a0 a1 a2 a3 a4 a5 k, LeO (laws_FnExactPushBack.f k a0 a1 a2 a3 a4 a5) (laws_FnExactPushBack.f (k + 1) a0 a1 a2 a3 a4 a5) := by
  intro a0 a1 a2 a3 a4 a5 k
  obtain ⟨ih0, ih1, ih2⟩ := laws_FnExactPushBack.mono_l k
  unfold laws_FnExactPushBack.f
  repeat' first
      | (with_reducible exact ih0 _ _ _ _ _ _ _ _ _ _ _ _ _ _ _ _ _ _ _ _ _ _ _ _)
      | (with_reducible exact ih1 _ _ _ _ _ _ _ _ _ _ _ _ _ _ _ _ _ _)
      | (with_reducible exact ih2 _ _ _ _ _ _ _)
      | (with_reducible exact impl_PushBack.mono _ _ _ _ _ _ _)
      | (with_reducible exact laws_eqQueue.mono _ _ _ _ _ _ _ _ _ _ _)
      | (with_reducible exact laws_heldQueue.mono _ _ _ _ _ _ _)
      | (with_reducible exact laws_markQueue.mono _ _ _ _ _ _ _)
      | (with_reducible exact laws_toQueue.mono _ _ _ _ _ _)
      | (with_reducible exact spec_PushBack.mono _ _ _ _ _ _ _)
      | (with_reducible exact LeO.refl _)
      | (with_reducible exact LeO.none _)
      | (with_reducible refine LeO.ite ?_ ?_)
      | (with_reducible refine LeO.bind ?_ (fun _ => ?_))
      | exact ih0 _ _ _ _ _ _ _ _ _ _ _ _ _ _ _ _ _ _ _ _ _ _ _ _
      | exact ih1 _ _ _ _ _ _ _ _ _ _ _ _ _ _ _ _ _ _
      | exact ih2 _ _ _ _ _ _ _
      | exact impl_PushBack.mono _ _ _ _ _ _ _
      | exact laws_eqQueue.mono _ _ _ _ _ _ _ _ _ _ _
      | exact laws_heldQueue.mono _ _ _ _ _ _ _
      | exact laws_markQueue.mono _ _ _ _ _ _ _
      | exact laws_toQueue.mono _ _ _ _ _ _
      | exact spec_PushBack.mono _ _ _ _ _ _ _
      | exact LeO.none _
      | refine LeO.ite ?_ ?_
      | refine LeO.bind ?_ (fun _ => ?_)
set_option maxHeartbeats 40000000 in
set_option maxRecDepth 100000 in
theorem laws_FnExactPushBack.calls (k : Nat) (A0_0 : Option Addr) (c0_0 : Nat) (l0_0 : List (S75)) (a0_1 : Int) (a0_2 : Int) (a0_3 : Int) (a0_4 : Int) (a1 : Int) (r : Bool) (w : World) (hr0_0 : Kd.C k75 w A0_0 l0_0.length l0_0) (hc0_0 : l0_0.length ≤ c0_0) (h : laws_FnExactPushBack.f k l0_0 a0_1 a0_2 a0_3 a0_4 a1 = some r) :
    Calls Try.prog 4 #[.agg #[.slice A0_0 l0_0.length c0_0, .int .i64 a0_1, .int .i64 a0_2, .int .i64 a0_3, .int .i64 a0_4], .int .i64 a1] w fun e w' => e = .returned (.bool r) ∧ Below w.heap.size w w' := by
  have hu24 := Try.underlying24
  have hu28 := Try.underlying28
  have HR0_0 := Aside0.mk hr0_0
  have HC0_0 := Aside0.mk hc0_0
  clear hr0_0 hc0_0
  have HB := Aside0.mk (Below.refl w.heap.size w)
  have H : ((laws_szQueue.f l0_0 a0_1 a0_2 a0_3 a0_4 1048576).bind fun t257 => (if t257 < 0 then (some true) else ((laws_toQueue.f k l0_0 a0_1 a0_2 a0_3 a0_4).bind fun bt258 => ((spec_PushBack.f k bt258.1 bt258.2.1 bt258.2.2.1 bt258.2.2.2.1 bt258.2.2.2.2 a1).bind fun bt265 => ((laws_toQueue.f k l0_0 a0_1 a0_2 a0_3 a0_4).bind fun bt274 => ((impl_PushBack.f k bt274.1 bt274.2.1 bt274.2.2.1 bt274.2.2.2.1 bt274.2.2.2.2 a1).bind fun bt282 => ((laws_eqQueue.f k bt282.1 bt282.2.1 bt282.2.2.1 bt282.2.2.2.1 bt282.2.2.2.2.1 bt265.1 bt265.2.1 bt265.2.2.1 bt265.2.2.2.1 bt265.2.2.2.2.1).bind fun t291 => (if t291 = true then (laws_FnExactPushBack.j0 k a1 bt265.2.2.2.2.2 bt282.2.2.2.2.2 (bt282.2.2.2.2.2 != bt265.2.2.2.2.2) l0_0 a0_1 a0_2 a0_3 a0_4 bt265.1 bt265.2.1 bt265.2.2.1 bt265.2.2.2.1 bt265.2.2.2.2.1 bt274.1 bt274.2.1 bt274.2.2.1 bt274.2.2.2.1 bt274.2.2.2.2 bt282.1 bt282.2.1 bt282.2.2.1 bt282.2.2.2.1 bt282.2.2.2.2.1) else (laws_FnExactPushBack.j0 k a1 bt265.2.2.2.2.2 bt282.2.2.2.2.2 true l0_0 a0_1 a0_2 a0_3 a0_4 bt265.1 bt265.2.1 bt265.2.2.1 bt265.2.2.2.1 bt265.2.2.2.2.1 bt274.1 bt274.2.1 bt274.2.2.1 bt274.2.2.2.1 bt274.2.2.2.2 bt282.1 bt282.2.1 bt282.2.2.1 bt282.2.2.2.1 bt282.2.2.2.2.1))))))))) = some r := h
  clear h
  replace H := Option.bind_eq_some_iff.mp H
  obtain ⟨t257, A30, H⟩ := H
  replace H : (if t257 < 0 then (some true) else ((laws_toQueue.f k l0_0 a0_1 a0_2 a0_3 a0_4).bind fun bt258 => ((spec_PushBack.f k bt258.1 bt258.2.1 bt258.2.2.1 bt258.2.2.2.1 bt258.2.2.2.2 a1).bind fun bt265 => ((laws_toQueue.f k l0_0 a0_1 a0_2 a0_3 a0_4).bind fun bt274 => ((impl_PushBack.f k bt274.1 bt274.2.1 bt274.2.2.1 bt274.2.2.2.1 bt274.2.2.2.2 a1).bind fun bt282 => ((laws_eqQueue.f k bt282.1 bt282.2.1 bt282.2.2.1 bt282.2.2.2.1 bt282.2.2.2.2.1 bt265.1 bt265.2.1 bt265.2.2.1 bt265.2.2.2.1 bt265.2.2.2.2.1).bind fun t291 => (if t291 = true then (laws_FnExactPushBack.j0 k a1 bt265.2.2.2.2.2 bt282.2.2.2.2.2 (bt282.2.2.2.2.2 != bt265.2.2.2.2.2) l0_0 a0_1 a0_2 a0_3 a0_4 bt265.1 bt265.2.1 bt265.2.2.1 bt265.2.2.2.1 bt265.2.2.2.2.1 bt274.1 bt274.2.1 bt274.2.2.1 bt274.2.2.2.1 bt274.2.2.2.2 bt282.1 bt282.2.1 bt282.2.2.1 bt282.2.2.2.1 bt282.2.2.2.2.1) else (laws_FnExactPushBack.j0 k a1 bt265.2.2.2.2.2 bt282.2.2.2.2.2 true l0_0 a0_1 a0_2 a0_3 a0_4 bt265.1 bt265.2.1 bt265.2.2.1 bt265.2.2.2.1 bt265.2.2.2.2.1 bt274.1 bt274.2.1 bt274.2.2.1 bt274.2.2.2.1 bt274.2.2.2.2 bt282.1 bt282.2.1 bt282.2.2.1 bt282.2.2.2.1 bt282.2.2.2.2.1)))))))) = some r := H
  have A3 := Aside0.mk A30
  clear A30
  by_cases c4 : t257 < 0
  · rw [if_pos c4] at H
    have c4b0 : decide (t257 < 0) = true := decide_eq_true c4
    clear c4
    obtain rfl := Option.some.inj H
    go_enter Try.func4, Try.ntmps4
    go_wp2_with (first | ((with_reducible refine gate_dst (N := 2) rfl ?_); refine box_event ?hg (N := 2) ?hd (cs := #[.slice A0_0 l0_0.length c0_0, .int .i64 a0_1, .int .i64 a0_2, .int .i64 a0_3, .int .i64 a0_4]) (t := 24) ?hr ?_; (case hd => rfl); (case hg => rfl); (case hr => first | (go_simp; done) | (go_simp; rfl)); intro gb256 hg w5 hbox hb; have n0_ := Aside0.mk (below_step (be_ HB.out) hb); have n1_ := Aside0.mk (hbox); have n2_ := Aside0.mk ((by rw [hg]; exact (below_size (be_ HB.out)) : w.heap.size ≤ gb256)); have n3_ := Aside0.mk ((by rw [hg]; exact (below_size (be_ HB.out)) : w.heap.size ≤ gb256)); clear HB; have HB := n0_; have BK256 := n1_; have GW256 := n2_; have GE256 := n3_; clear n0_ n1_ n2_ n3_; clear hb hbox hg; obtain ⟨hcz6_0, hcz6_1, hcz6_2, hcz6_3, hcz6_4, hfz6_0, hfz6_1, hfz6_2, hfz6_3, hfz6_4⟩ := cz5_ BK256.out) | ((with_reducible refine gate_callee (f := 13) rfl ?_); refine goesL_ (some 18) rfl rfl Try.func13 (by kernel_rfl) rfl #[.agg #[.slice A0_0 l0_0.length c0_0, .int .i64 a0_1, .int .i64 a0_2, .int .i64 a0_3, .int .i64 a0_4], .int .i64 1048576] rfl (by (try simp only [List.map_toArray, List.map_cons, List.map_nil]); first | done | rfl | (simp only [List.length_drop, List.length_take]; rfl)) ?_; (with_reducible refine (laws_szQueue.calls _ _ l0_0 a0_1 a0_2 a0_3 a0_4 1048576 t257 _ ?side1 ?side2 A3.out).mono ?_); (case side1 => repeat (first | exact (Kd.C_below HR0_0.out HB.out) | (with_reducible refine Kd.C_alloc ?_ _) | (with_reducible refine Kd.C_drewN ?_ _) | (with_reducible refine Kd.C_drew ?_))); (case side2 => exact HC0_0.out); rintro e w7 ⟨rfl, hb⟩; refine ⟨_, rfl, ?_⟩; have n0_ := Aside0.mk (blk_below (g := gb256) (o := .cells #[.slice A0_0 l0_0.length c0_0, .int .i64 a0_1, .int .i64 a0_2, .int .i64 a0_3, .int .i64 a0_4] 24 (0, 0)) (bl_ BK256.out) hb); have n1_ := Aside0.mk (below_step (be_ HB.out) hb); clear BK256 HB; have BK256 := n0_; have HB := n1_; clear n0_ n1_; (try clear hb); (try clear hb2); (try clear hk); (try clear hi)))
    go_ret
    exact ⟨by first | rfl | (simp [errW_none, errW_some] <;> rfl) | (simp [*, errW_none, errW_some] <;> rfl), be_ HB.out⟩
  · rw [if_neg c4] at H
    have c4b0 : decide (t257 < 0) = false := decide_eq_false c4
    clear c4
    replace H := Option.bind_eq_some_iff.mp H
    obtain ⟨⟨t258, t261, t262, t263, t264⟩, A80, H⟩ := H
    replace H : ((spec_PushBack.f k t258 t261 t262 t263 t264 a1).bind fun bt265 => ((laws_toQueue.f k l0_0 a0_1 a0_2 a0_3 a0_4).bind fun bt274 => ((impl_PushBack.f k bt274.1 bt274.2.1 bt274.2.2.1 bt274.2.2.2.1 bt274.2.2.2.2 a1).bind fun bt282 => ((laws_eqQueue.f k bt282.1 bt282.2.1 bt282.2.2.1 bt282.2.2.2.1 bt282.2.2.2.2.1 bt265.1 bt265.2.1 bt265.2.2.1 bt265.2.2.2.1 bt265.2.2.2.2.1).bind fun t291 => (if t291 = true then (laws_FnExactPushBack.j0 k a1 bt265.2.2.2.2.2 bt282.2.2.2.2.2 (bt282.2.2.2.2.2 != bt265.2.2.2.2.2) l0_0 a0_1 a0_2 a0_3 a0_4 bt265.1 bt265.2.1 bt265.2.2.1 bt265.2.2.2.1 bt265.2.2.2.2.1 bt274.1 bt274.2.1 bt274.2.2.1 bt274.2.2.2.1 bt274.2.2.2.2 bt282.1 bt282.2.1 bt282.2.2.1 bt282.2.2.2.1 bt282.2.2.2.2.1) else (laws_FnExactPushBack.j0 k a1 bt265.2.2.2.2.2 bt282.2.2.2.2.2 true l0_0 a0_1 a0_2 a0_3 a0_4 bt265.1 bt265.2.1 bt265.2.2.1 bt265.2.2.2.1 bt265.2.2.2.2.1 bt274.1 bt274.2.1 bt274.2.2.1 bt274.2.2.2.1 bt274.2.2.2.2 bt282.1 bt282.2.1 bt282.2.2.1 bt282.2.2.2.1 bt282.2.2.2.2.1)))))) = some r := H
    have A8 := Aside0.mk A80
    clear A80
    replace H := Option.bind_eq_some_iff.mp H
    obtain ⟨⟨t265, t268, t269, t270, t271, t272⟩, A90, H⟩ := H
    replace H : ((laws_toQueue.f k l0_0 a0_1 a0_2 a0_3 a0_4).bind fun bt274 => ((impl_PushBack.f k bt274.1 bt274.2.1 bt274.2.2.1 bt274.2.2.2.1 bt274.2.2.2.2 a1).bind fun bt282 => ((laws_eqQueue.f k bt282.1 bt282.2.1 bt282.2.2.1 bt282.2.2.2.1 bt282.2.2.2.2.1 t265 t268 t269 t270 t271).bind fun t291 => (if t291 = true then (laws_FnExactPushBack.j0 k a1 t272 bt282.2.2.2.2.2 (bt282.2.2.2.2.2 != t272) l0_0 a0_1 a0_2 a0_3 a0_4 t265 t268 t269 t270 t271 bt274.1 bt274.2.1 bt274.2.2.1 bt274.2.2.2.1 bt274.2.2.2.2 bt282.1 bt282.2.1 bt282.2.2.1 bt282.2.2.2.1 bt282.2.2.2.2.1) else (laws_FnExactPushBack.j0 k a1 t272 bt282.2.2.2.2.2 true l0_0 a0_1 a0_2 a0_3 a0_4 t265 t268 t269 t270 t271 bt274.1 bt274.2.1 bt274.2.2.1 bt274.2.2.2.1 bt274.2.2.2.2 bt282.1 bt282.2.1 bt282.2.2.1 bt282.2.2.2.1 bt282.2.2.2.2.1))))) = some r := H
    have A9 := Aside0.mk A90
    clear A90
    replace H := Option.bind_eq_some_iff.mp H
    obtain ⟨⟨t274, t277, t278, t279, t280⟩, A100, H⟩ := H
    replace H : ((impl_PushBack.f k t274 t277 t278 t279 t280 a1).bind fun bt282 => ((laws_eqQueue.f k bt282.1 bt282.2.1 bt282.2.2.1 bt282.2.2.2.1 bt282.2.2.2.2.1 t265 t268 t269 t270 t271).bind fun t291 => (if t291 = true then (laws_FnExactPushBack.j0 k a1 t272 bt282.2.2.2.2.2 (bt282.2.2.2.2.2 != t272) l0_0 a0_1 a0_2 a0_3 a0_4 t265 t268 t269 t270 t271 t274 t277 t278 t279 t280 bt282.1 bt282.2.1 bt282.2.2.1 bt282.2.2.2.1 bt282.2.2.2.2.1) else (laws_FnExactPushBack.j0 k a1 t272 bt282.2.2.2.2.2 true l0_0 a0_1 a0_2 a0_3 a0_4 t265 t268 t269 t270 t271 t274 t277 t278 t279 t280 bt282.1 bt282.2.1 bt282.2.2.1 bt282.2.2.2.1 bt282.2.2.2.2.1)))) = some r := H
    have A10 := Aside0.mk A100
    clear A100
    replace H := Option.bind_eq_some_iff.mp H
    obtain ⟨⟨t282, t285, t286, t287, t288, t289⟩, A110, H⟩ := H
    replace H : ((laws_eqQueue.f k t282 t285 t286 t287 t288 t265 t268 t269 t270 t271).bind fun t291 => (if t291 = true then (laws_FnExactPushBack.j0 k a1 t272 t289 (t289 != t272) l0_0 a0_1 a0_2 a0_3 a0_4 t265 t268 t269 t270 t271 t274 t277 t278 t279 t280 t282 t285 t286 t287 t288) else (laws_FnExactPushBack.j0 k a1 t272 t289 true l0_0 a0_1 a0_2 a0_3 a0_4 t265 t268 t269 t270 t271 t274 t277 t278 t279 t280 t282 t285 t286 t287 t288))) = some r := H
    have A11 := Aside0.mk A110
    clear A110
    have HC12 := Aside0.mk H
    clear H
    go_enter Try.func4, Try.ntmps4
    go_upto_region 8 with (first | ((with_reducible refine gate_dst (N := 2) rfl ?_); refine box_event ?hg (N := 2) ?hd (cs := #[.slice A0_0 l0_0.length c0_0, .int .i64 a0_1, .int .i64 a0_2, .int .i64 a0_3, .int .i64 a0_4]) (t := 24) ?hr ?_; (case hd => rfl); (case hg => rfl); (case hr => first | (go_simp; done) | (go_simp; rfl)); intro gb256 hg w13 hbox hb; have n0_ := Aside0.mk (below_step (be_ HB.out) hb); have n1_ := Aside0.mk (hbox); have n2_ := Aside0.mk ((by rw [hg]; exact (below_size (be_ HB.out)) : w.heap.size ≤ gb256)); have n3_ := Aside0.mk ((by rw [hg]; exact (below_size (be_ HB.out)) : w.heap.size ≤ gb256)); clear HB; have HB := n0_; have BK256 := n1_; have GW256 := n2_; have GE256 := n3_; clear n0_ n1_ n2_ n3_; clear hb hbox hg; obtain ⟨hcz14_0, hcz14_1, hcz14_2, hcz14_3, hcz14_4, hfz14_0, hfz14_1, hfz14_2, hfz14_3, hfz14_4⟩ := cz5_ BK256.out) | ((with_reducible refine gate_callee (f := 13) rfl ?_); refine goesL_ (some 18) rfl rfl Try.func13 (by kernel_rfl) rfl #[.agg #[.slice A0_0 l0_0.length c0_0, .int .i64 a0_1, .int .i64 a0_2, .int .i64 a0_3, .int .i64 a0_4], .int .i64 1048576] rfl (by (try simp only [List.map_toArray, List.map_cons, List.map_nil]); first | done | rfl | (simp only [List.length_drop, List.length_take]; rfl)) ?_; (with_reducible refine (laws_szQueue.calls _ _ l0_0 a0_1 a0_2 a0_3 a0_4 1048576 t257 _ ?side1 ?side2 A3.out).mono ?_); (case side1 => repeat (first | exact (Kd.C_below HR0_0.out HB.out) | (with_reducible refine Kd.C_alloc ?_ _) | (with_reducible refine Kd.C_drewN ?_ _) | (with_reducible refine Kd.C_drew ?_))); (case side2 => exact HC0_0.out); rintro e w15 ⟨rfl, hb⟩; refine ⟨_, rfl, ?_⟩; have n0_ := Aside0.mk (blk_below (g := gb256) (o := .cells #[.slice A0_0 l0_0.length c0_0, .int .i64 a0_1, .int .i64 a0_2, .int .i64 a0_3, .int .i64 a0_4] 24 (0, 0)) (bl_ BK256.out) hb); have n1_ := Aside0.mk (below_step (be_ HB.out) hb); clear BK256 HB; have BK256 := n0_; have HB := n1_; clear n0_ n1_; (try clear hb); (try clear hb2); (try clear hk); (try clear hi); obtain ⟨hcz16_0, hcz16_1, hcz16_2, hcz16_3, hcz16_4, hfz16_0, hfz16_1, hfz16_2, hfz16_3, hfz16_4⟩ := cz5_ BK256.out) | ((with_reducible refine gate_callee (f := 15) rfl ?_); refine goesL_ (some 23) rfl rfl Try.func15 (by kernel_rfl) rfl #[.agg #[.slice A0_0 l0_0.length c0_0, .int .i64 a0_1, .int .i64 a0_2, .int .i64 a0_3, .int .i64 a0_4]] rfl (by (try simp only [List.map_toArray, List.map_cons, List.map_nil]); first | done | rfl | (simp only [List.length_drop, List.length_take]; rfl)) ?_; (with_reducible refine (laws_toQueue.calls k _ _ l0_0 a0_1 a0_2 a0_3 a0_4 t258 t261 t262 t263 t264 _ ?side1 ?side2 A8.out).mono ?_); (case side1 => repeat (first | exact (Kd.C_below HR0_0.out HB.out) | (with_reducible refine Kd.C_alloc ?_ _) | (with_reducible refine Kd.C_drewN ?_ _) | (with_reducible refine Kd.C_drew ?_))); (case side2 => exact HC0_0.out); rintro e w17 ⟨v259, rfl, ho0, hb⟩; refine ⟨_, rfl, ?_⟩; have n0_ := Aside0.mk (Kd.R_lower ho0 (below_size (be_ HB.out))); have n1_ := Aside0.mk (blk_below (g := gb256) (o := .cells #[.slice A0_0 l0_0.length c0_0, .int .i64 a0_1, .int .i64 a0_2, .int .i64 a0_3, .int .i64 a0_4] 24 (0, 0)) (bl_ BK256.out) hb); have n2_ := Aside0.mk (below_step (be_ HB.out) hb); clear BK256 HB; have HO260 := n0_; have BK256 := n1_; have HB := n2_; clear n0_ n1_ n2_; (try clear hb); (try clear hb2); (try clear hk); (try clear hi); (try clear ho0); obtain ⟨Ao18, co18, eo18⟩ := Kd.R_slice HO260.out; subst eo18) | ((with_reducible refine gate_callee (f := 20) rfl ?_); refine goesL_ (some 25) rfl rfl Try.func20 (by kernel_rfl) rfl #[.agg #[.slice Ao18 t258.length co18, .int .i64 t261, .int .i64 t262, .int .i64 t263, .int .i64 t264], .int .i64 a1] rfl (by (try simp only [List.map_toArray, List.map_cons, List.map_nil]); first | done | rfl | (simp only [List.length_drop, List.length_take]; rfl)) ?_; (with_reducible refine (spec_PushBack.calls k _ _ t258 t261 t262 t263 t264 a1 t265 t268 t269 t270 t271 t272 _ ?side1 ?side2 A9.out).mono ?_); (case side1 => repeat (first | exact (Kd.R_reads' HO260.out).2.2 | (with_reducible refine Kd.C_alloc ?_ _) | (with_reducible refine Kd.C_drewN ?_ _) | (with_reducible refine Kd.C_drew ?_))); (case side2 => exact (Kd.R_reads' HO260.out).2.1); rintro e w19 ⟨v266, rfl, ho0, hb⟩; refine ⟨_, rfl, ?_⟩; have n0_ := Aside0.mk (Kd.R_elder' (ro_ HO260.out) (Kd.R_base ho0) hb); have n1_ := Aside0.mk (Kd.R_lower (Kd.R_new' ho0 (Kd.R_lt (ro_ HO260.out))) (below_size (be_ HB.out))); have n2_ := Aside0.mk (blk_below (g := gb256) (o := .cells #[.slice A0_0 l0_0.length c0_0, .int .i64 a0_1, .int .i64 a0_2, .int .i64 a0_3, .int .i64 a0_4] 24 (0, 0)) (bl_ BK256.out) hb); have n3_ := Aside0.mk (below_step (be_ HB.out) hb); clear HO260 BK256 HB; have HO260 := n0_; have HO267 := n1_; have BK256 := n2_; have HB := n3_; clear n0_ n1_ n2_ n3_; (try clear hb); (try clear hb2); (try clear hk); (try clear hi); (try clear ho0)) | ((with_reducible refine gate_dst (N := 6) rfl ?_); refine box_event ?hg (N := 6) ?hd (cs := #[.slice none 0 0, .int .i64 0, .int .i64 0, .int .i64 0, .int .i64 0]) (t := 28) ?hr ?_; (case hd => rfl); (case hg => rfl); (case hr => first | (go_simp; done) | (go_simp; rfl)); intro gb273 hg w20 hbox hb; have n0_ := Aside0.mk (Kd.R_below (ro_ HO260.out) hb); have n1_ := Aside0.mk (Kd.R_below (ro_ HO267.out) hb); have n2_ := Aside0.mk (blk_below (g := gb256) (o := .cells #[.slice A0_0 l0_0.length c0_0, .int .i64 a0_1, .int .i64 a0_2, .int .i64 a0_3, .int .i64 a0_4] 24 (0, 0)) (bl_ BK256.out) hb); have n3_ := Aside0.mk (below_step (be_ HB.out) hb); have n4_ := Aside0.mk (hbox); have n5_ := Aside0.mk ((by rw [hg]; exact (below_size (be_ HB.out)) : w.heap.size ≤ gb273)); have n6_ := Aside0.mk ((by rw [hg]; exact (below_size (be_ HB.out)) : w.heap.size ≤ gb273)); have n7_ := Aside0.mk ((by rw [hg]; exact Nat.ne_of_lt (blk_lt (g := gb256) (o := .cells #[.slice A0_0 l0_0.length c0_0, .int .i64 a0_1, .int .i64 a0_2, .int .i64 a0_3, .int .i64 a0_4] 24 (0, 0)) (bl_ BK256.out)) : gb256 ≠ gb273)); have n8_ := Aside0.mk ((by rw [hg]; exact Nat.ne_of_gt (blk_lt (g := gb256) (o := .cells #[.slice A0_0 l0_0.length c0_0, .int .i64 a0_1, .int .i64 a0_2, .int .i64 a0_3, .int .i64 a0_4] 24 (0, 0)) (bl_ BK256.out)) : gb273 ≠ gb256)); clear HO260 HO267 BK256 HB; have HO260 := n0_; have HO267 := n1_; have BK256 := n2_; have HB := n3_; have BK273 := n4_; have GW273 := n5_; have GE273 := n6_; have NB256_273 := n7_; have NB273_256 := n8_; clear n0_ n1_ n2_ n3_ n4_ n5_ n6_ n7_ n8_; clear hb hbox hg; obtain ⟨Ao21, co21, eo21⟩ := Kd.R_slice HO267.out; subst eo21; have hnb22 := NB273_256.out; have hnc22 := NB256_273.out; obtain ⟨hcz23_0, hcz23_1, hcz23_2, hcz23_3, hcz23_4, hfz23_0, hfz23_1, hfz23_2, hfz23_3, hfz23_4⟩ := cz5_ BK273.out; obtain ⟨hcz24_0, hcz24_1, hcz24_2, hcz24_3, hcz24_4, hfz24_0, hfz24_1, hfz24_2, hfz24_3, hfz24_4⟩ := cz5_ BK256.out) | ((with_reducible refine gate_callee (f := 15) rfl ?_); refine goesL_ (some 29) rfl rfl Try.func15 (by kernel_rfl) rfl #[.agg #[.slice A0_0 l0_0.length c0_0, .int .i64 a0_1, .int .i64 a0_2, .int .i64 a0_3, .int .i64 a0_4]] rfl (by (try simp only [List.map_toArray, List.map_cons, List.map_nil]); first | done | rfl | (simp only [List.length_drop, List.length_take]; rfl)) ?_; (with_reducible refine (laws_toQueue.calls k _ _ l0_0 a0_1 a0_2 a0_3 a0_4 t274 t277 t278 t279 t280 _ ?side1 ?side2 A10.out).mono ?_); (case side1 => exact Kd.C_below HR0_0.out (be_ HB.out)); (case side2 => exact HC0_0.out); rintro e w25 ⟨v275, rfl, ho0, hb⟩; refine ⟨_, rfl, ?_⟩; have n0_ := Aside0.mk (Kd.R_elder' (by (with_reducible repeat (first | apply Kd.R_alloc | apply Kd.R_drewN | apply Kd.R_drew)); exact (Kd.R_mono (Kd.R_far (p := ⟨gb273, 4, none⟩) (Kd.R_far (p := ⟨gb273, 3, none⟩) (Kd.R_far (p := ⟨gb273, 2, none⟩) (Kd.R_far (p := ⟨gb273, 1, none⟩) (Kd.R_far (p := ⟨gb273, 0, none⟩) (Kd.R_types HO260.out BK273.out (by decide)) (fun _ hk => hk.2) (.slice Ao21 t265.length co21)) (fun _ hk => hk.2) (.int .i64 t268)) (fun _ hk => hk.2) (.int .i64 t269)) (fun _ hk => hk.2) (.int .i64 t270)) (fun _ hk => hk.2) (.int .i64 t271)) (fun _ h_ => h_.1))) (Kd.R_base ho0) hb); have n1_ := Aside0.mk (Kd.R_elder' (by (with_reducible repeat (first | apply Kd.R_alloc | apply Kd.R_drewN | apply Kd.R_drew)); exact (Kd.R_mono (Kd.R_far (p := ⟨gb273, 4, none⟩) (Kd.R_far (p := ⟨gb273, 3, none⟩) (Kd.R_far (p := ⟨gb273, 2, none⟩) (Kd.R_far (p := ⟨gb273, 1, none⟩) (Kd.R_far (p := ⟨gb273, 0, none⟩) (Kd.R_types HO267.out BK273.out (by decide)) (fun _ hk => hk.2) (.slice Ao21 t265.length co21)) (fun _ hk => hk.2) (.int .i64 t268)) (fun _ hk => hk.2) (.int .i64 t269)) (fun _ hk => hk.2) (.int .i64 t270)) (fun _ hk => hk.2) (.int .i64 t271)) (fun _ h_ => h_.1))) (Kd.R_base ho0) hb); have n2_ := Aside0.mk (Kd.R_lower (Kd.R_new' (Kd.R_new' ho0 (Kd.R_lt (by (with_reducible repeat (first | apply Kd.R_alloc | apply Kd.R_drewN | apply Kd.R_drew)); exact (Kd.R_mono (Kd.R_far (p := ⟨gb273, 4, none⟩) (Kd.R_far (p := ⟨gb273, 3, none⟩) (Kd.R_far (p := ⟨gb273, 2, none⟩) (Kd.R_far (p := ⟨gb273, 1, none⟩) (Kd.R_far (p := ⟨gb273, 0, none⟩) (Kd.R_types HO260.out BK273.out (by decide)) (fun _ hk => hk.2) (.slice Ao21 t265.length co21)) (fun _ hk => hk.2) (.int .i64 t268)) (fun _ hk => hk.2) (.int .i64 t269)) (fun _ hk => hk.2) (.int .i64 t270)) (fun _ hk => hk.2) (.int .i64 t271)) (fun _ h_ => h_.1))))) (Kd.R_lt (by (with_reducible repeat (first | apply Kd.R_alloc | apply Kd.R_drewN | apply Kd.R_drew)); exact (Kd.R_mono (Kd.R_far (p := ⟨gb273, 4, none⟩) (Kd.R_far (p := ⟨gb273, 3, none⟩) (Kd.R_far (p := ⟨gb273, 2, none⟩) (Kd.R_far (p := ⟨gb273, 1, none⟩) (Kd.R_far (p := ⟨gb273, 0, none⟩) (Kd.R_types HO267.out BK273.out (by decide)) (fun _ hk => hk.2) (.slice Ao21 t265.length co21)) (fun _ hk => hk.2) (.int .i64 t268)) (fun _ hk => hk.2) (.int .i64 t269)) (fun _ hk => hk.2) (.int .i64 t270)) (fun _ hk => hk.2) (.int .i64 t271)) (fun _ h_ => h_.1))))) (below_size (be_ HB.out))); have n3_ := Aside0.mk (blk_below (g := gb256) (o := .cells #[.slice A0_0 l0_0.length c0_0, .int .i64 a0_1, .int .i64 a0_2, .int .i64 a0_3, .int .i64 a0_4] 24 (0, 0)) (by refine bl_ ?_; refine blk_far ?_ NB256_273.out _; refine bl_ ?_; refine blk_far ?_ NB256_273.out _; refine bl_ ?_; refine blk_far ?_ NB256_273.out _; refine bl_ ?_; refine blk_far ?_ NB256_273.out _; refine bl_ ?_; refine blk_far ?_ NB256_273.out _; refine bl_ ?_; exact BK256.out) hb); have n4_ := Aside0.mk (blk_below (g := gb273) (o := .cells #[.slice Ao21 t265.length co21, .int .i64 t268, .int .i64 t269, .int .i64 t270, .int .i64 t271] 28 (0, 0)) (by refine bl_ ?_; refine blk_put (cs := #[.slice Ao21 t265.length co21, .int .i64 t268, .int .i64 t269, .int .i64 t270, .int .i64 0]) ?_ 4 _ rfl; refine bl_ ?_; refine blk_put (cs := #[.slice Ao21 t265.length co21, .int .i64 t268, .int .i64 t269, .int .i64 0, .int .i64 0]) ?_ 3 _ rfl; refine bl_ ?_; refine blk_put (cs := #[.slice Ao21 t265.length co21, .int .i64 t268, .int .i64 0, .int .i64 0, .int .i64 0]) ?_ 2 _ rfl; refine bl_ ?_; refine blk_put (cs := #[.slice Ao21 t265.length co21, .int .i64 0, .int .i64 0, .int .i64 0, .int .i64 0]) ?_ 1 _ rfl; refine bl_ ?_; refine blk_put (cs := #[.slice none 0 0, .int .i64 0, .int .i64 0, .int .i64 0, .int .i64 0]) ?_ 0 _ rfl; refine bl_ ?_; exact BK273.out) hb); have n5_ := Aside0.mk (below_step (be_ HB.out) hb); clear HO260 HO267 BK256 BK273 HB; have HO260 := n0_; have HO267 := n1_; have HO276 := n2_; have BK256 := n3_; have BK273 := n4_; have HB := n5_; clear n0_ n1_ n2_ n3_ n4_ n5_; (try clear hb); (try clear hb2); (try clear hk); (try clear hi); (try clear ho0)) | ((with_reducible refine gate_dst (N := 8) rfl ?_); refine box_event ?hg (N := 8) ?hd (cs := #[.slice none 0 0, .int .i64 0, .int .i64 0, .int .i64 0, .int .i64 0]) (t := 28) ?hr ?_; (case hd => rfl); (case hg => rfl); (case hr => first | (go_simp; done) | (go_simp; rfl)); intro gb281 hg w26 hbox hb; have n0_ := Aside0.mk (Kd.R_below (ro_ HO260.out) hb); have n1_ := Aside0.mk (Kd.R_below (ro_ HO267.out) hb); have n2_ := Aside0.mk (Kd.R_below (ro_ HO276.out) hb); have n3_ := Aside0.mk (blk_below (g := gb256) (o := .cells #[.slice A0_0 l0_0.length c0_0, .int .i64 a0_1, .int .i64 a0_2, .int .i64 a0_3, .int .i64 a0_4] 24 (0, 0)) (bl_ BK256.out) hb); have n4_ := Aside0.mk (blk_below (g := gb273) (o := .cells #[.slice Ao21 t265.length co21, .int .i64 t268, .int .i64 t269, .int .i64 t270, .int .i64 t271] 28 (0, 0)) (bl_ BK273.out) hb); have n5_ := Aside0.mk (below_step (be_ HB.out) hb); have n6_ := Aside0.mk (hbox); have n7_ := Aside0.mk ((by rw [hg]; exact (below_size (be_ HB.out)) : w.heap.size ≤ gb281)); have n8_ := Aside0.mk ((by rw [hg]; exact (below_size (be_ HB.out)) : w.heap.size ≤ gb281)); have n9_ := Aside0.mk ((by rw [hg]; exact Nat.ne_of_lt (blk_lt (g := gb256) (o := .cells #[.slice A0_0 l0_0.length c0_0, .int .i64 a0_1, .int .i64 a0_2, .int .i64 a0_3, .int .i64 a0_4] 24 (0, 0)) (bl_ BK256.out)) : gb256 ≠ gb281)); have n10_ := Aside0.mk ((by rw [hg]; exact Nat.ne_of_gt (blk_lt (g := gb256) (o := .cells #[.slice A0_0 l0_0.length c0_0, .int .i64 a0_1, .int .i64 a0_2, .int .i64 a0_3, .int .i64 a0_4] 24 (0, 0)) (bl_ BK256.out)) : gb281 ≠ gb256)); have n11_ := Aside0.mk ((by rw [hg]; exact Nat.ne_of_lt (blk_lt (g := gb273) (o := .cells #[.slice Ao21 t265.length co21, .int .i64 t268, .int .i64 t269, .int .i64 t270, .int .i64 t271] 28 (0, 0)) (bl_ BK273.out)) : gb273 ≠ gb281)); have n12_ := Aside0.mk ((by rw [hg]; exact Nat.ne_of_gt (blk_lt (g := gb273) (o := .cells #[.slice Ao21 t265.length co21, .int .i64 t268, .int .i64 t269, .int .i64 t270, .int .i64 t271] 28 (0, 0)) (bl_ BK273.out)) : gb281 ≠ gb273)); clear HO260 HO267 HO276 BK256 BK273 HB; have HO260 := n0_; have HO267 := n1_; have HO276 := n2_; have BK256 := n3_; have BK273 := n4_; have HB := n5_; have BK281 := n6_; have GW281 := n7_; have GE281 := n8_; have NB256_281 := n9_; have NB281_256 := n10_; have NB273_281 := n11_; have NB281_273 := n12_; clear n0_ n1_ n2_ n3_ n4_ n5_ n6_ n7_ n8_ n9_ n10_ n11_ n12_; clear hb hbox hg; obtain ⟨Ao27, co27, eo27⟩ := Kd.R_slice HO276.out; subst eo27; have hnb28 := NB281_256.out; have hnc28 := NB256_281.out; have hnb29 := NB281_273.out; have hnc29 := NB273_281.out; obtain ⟨hcz30_0, hcz30_1, hcz30_2, hcz30_3, hcz30_4, hfz30_0, hfz30_1, hfz30_2, hfz30_3, hfz30_4⟩ := cz5_ BK281.out) | ((with_reducible refine gate_callee (f := 21) rfl ?_); refine goesL_ (some 33) rfl rfl Try.func21 (by kernel_rfl) rfl #[.agg #[.slice Ao27 t274.length co27, .int .i64 t277, .int .i64 t278, .int .i64 t279, .int .i64 t280], .int .i64 a1] rfl (by (try simp only [List.map_toArray, List.map_cons, List.map_nil]); first | done | rfl | (simp only [List.length_drop, List.length_take]; rfl)) ?_; (with_reducible refine (impl_PushBack.calls k _ _ t274 t277 t278 t279 t280 a1 t282 t285 t286 t287 t288 t289 _ ?side1 ?side2 A11.out).mono ?_); (case side1 => refine (Kd.R_reads' (e := 65) (base := w.heap.size) (ok := fun k_ => ((True ∧ some k_ ≠ (.slice Ao18 t258.length co18 : Value).ownBlock) ∧ some k_ ≠ (.slice Ao21 t265.length co21 : Value).ownBlock)) (n := t274.length) (c := co27) ?_).2.2; exact (by (with_reducible repeat (first | apply Kd.R_alloc | apply Kd.R_drewN | apply Kd.R_drew)); exact (Kd.R_mono (Kd.R_far (p := ⟨gb281, 4, none⟩) (Kd.R_far (p := ⟨gb281, 3, none⟩) (Kd.R_far (p := ⟨gb281, 2, none⟩) (Kd.R_far (p := ⟨gb281, 1, none⟩) (Kd.R_far (p := ⟨gb281, 0, none⟩) (Kd.R_types HO276.out BK281.out (by decide)) (fun _ hk => hk.2) (.slice Ao27 t274.length co27)) (fun _ hk => hk.2) (.int .i64 t277)) (fun _ hk => hk.2) (.int .i64 t278)) (fun _ hk => hk.2) (.int .i64 t279)) (fun _ hk => hk.2) (.int .i64 t280)) (fun _ h_ => h_.1)))); (case side2 => exact (Kd.R_reads' HO276.out).2.1); rintro e w31 ⟨v283, rfl, ho0, hb⟩; refine ⟨_, rfl, ?_⟩; have n0_ := Aside0.mk (Kd.R_elder' (by (with_reducible repeat (first | apply Kd.R_alloc | apply Kd.R_drewN | apply Kd.R_drew)); exact (Kd.R_mono (Kd.R_far (p := ⟨gb281, 4, none⟩) (Kd.R_far (p := ⟨gb281, 3, none⟩) (Kd.R_far (p := ⟨gb281, 2, none⟩) (Kd.R_far (p := ⟨gb281, 1, none⟩) (Kd.R_far (p := ⟨gb281, 0, none⟩) (Kd.R_types HO260.out BK281.out (by decide)) (fun _ hk => hk.2) (.slice Ao27 t274.length co27)) (fun _ hk => hk.2) (.int .i64 t277)) (fun _ hk => hk.2) (.int .i64 t278)) (fun _ hk => hk.2) (.int .i64 t279)) (fun _ hk => hk.2) (.int .i64 t280)) (fun _ h_ => h_.1))) (Kd.R_base ho0) hb); have n1_ := Aside0.mk (Kd.R_elder' (by (with_reducible repeat (first | apply Kd.R_alloc | apply Kd.R_drewN | apply Kd.R_drew)); exact (Kd.R_mono (Kd.R_far (p := ⟨gb281, 4, none⟩) (Kd.R_far (p := ⟨gb281, 3, none⟩) (Kd.R_far (p := ⟨gb281, 2, none⟩) (Kd.R_far (p := ⟨gb281, 1, none⟩) (Kd.R_far (p := ⟨gb281, 0, none⟩) (Kd.R_types HO267.out BK281.out (by decide)) (fun _ hk => hk.2) (.slice Ao27 t274.length co27)) (fun _ hk => hk.2) (.int .i64 t277)) (fun _ hk => hk.2) (.int .i64 t278)) (fun _ hk => hk.2) (.int .i64 t279)) (fun _ hk => hk.2) (.int .i64 t280)) (fun _ h_ => h_.1))) (Kd.R_base ho0) hb); have n2_ := Aside0.mk (Kd.R_elder' (by (with_reducible repeat (first | apply Kd.R_alloc | apply Kd.R_drewN | apply Kd.R_drew)); exact (Kd.R_mono (Kd.R_far (p := ⟨gb281, 4, none⟩) (Kd.R_far (p := ⟨gb281, 3, none⟩) (Kd.R_far (p := ⟨gb281, 2, none⟩) (Kd.R_far (p := ⟨gb281, 1, none⟩) (Kd.R_far (p := ⟨gb281, 0, none⟩) (Kd.R_types HO276.out BK281.out (by decide)) (fun _ hk => hk.2) (.slice Ao27 t274.length co27)) (fun _ hk => hk.2) (.int .i64 t277)) (fun _ hk => hk.2) (.int .i64 t278)) (fun _ hk => hk.2) (.int .i64 t279)) (fun _ hk => hk.2) (.int .i64 t280)) (fun _ h_ => h_.1))) (Kd.R_base ho0) hb); have n3_ := Aside0.mk (Kd.R_lower (Kd.R_new' (Kd.R_new' (Kd.R_new' ho0 (Kd.R_lt (by (with_reducible repeat (first | apply Kd.R_alloc | apply Kd.R_drewN | apply Kd.R_drew)); exact (Kd.R_mono (Kd.R_far (p := ⟨gb281, 4, none⟩) (Kd.R_far (p := ⟨gb281, 3, none⟩) (Kd.R_far (p := ⟨gb281, 2, none⟩) (Kd.R_far (p := ⟨gb281, 1, none⟩) (Kd.R_far (p := ⟨gb281, 0, none⟩) (Kd.R_types HO260.out BK281.out (by decide)) (fun _ hk => hk.2) (.slice Ao27 t274.length co27)) (fun _ hk => hk.2) (.int .i64 t277)) (fun _ hk => hk.2) (.int .i64 t278)) (fun _ hk => hk.2) (.int .i64 t279)) (fun _ hk => hk.2) (.int .i64 t280)) (fun _ h_ => h_.1))))) (Kd.R_lt (by (with_reducible repeat (first | apply Kd.R_alloc | apply Kd.R_drewN | apply Kd.R_drew)); exact (Kd.R_mono (Kd.R_far (p := ⟨gb281, 4, none⟩) (Kd.R_far (p := ⟨gb281, 3, none⟩) (Kd.R_far (p := ⟨gb281, 2, none⟩) (Kd.R_far (p := ⟨gb281, 1, none⟩) (Kd.R_far (p := ⟨gb281, 0, none⟩) (Kd.R_types HO267.out BK281.out (by decide)) (fun _ hk => hk.2) (.slice Ao27 t274.length co27)) (fun _ hk => hk.2) (.int .i64 t277)) (fun _ hk => hk.2) (.int .i64 t278)) (fun _ hk => hk.2) (.int .i64 t279)) (fun _ hk => hk.2) (.int .i64 t280)) (fun _ h_ => h_.1))))) (Kd.R_lt (by (with_reducible repeat (first | apply Kd.R_alloc | apply Kd.R_drewN | apply Kd.R_drew)); exact (Kd.R_mono (Kd.R_far (p := ⟨gb281, 4, none⟩) (Kd.R_far (p := ⟨gb281, 3, none⟩) (Kd.R_far (p := ⟨gb281, 2, none⟩) (Kd.R_far (p := ⟨gb281, 1, none⟩) (Kd.R_far (p := ⟨gb281, 0, none⟩) (Kd.R_types HO276.out BK281.out (by decide)) (fun _ hk => hk.2) (.slice Ao27 t274.length co27)) (fun _ hk => hk.2) (.int .i64 t277)) (fun _ hk => hk.2) (.int .i64 t278)) (fun _ hk => hk.2) (.int .i64 t279)) (fun _ hk => hk.2) (.int .i64 t280)) (fun _ h_ => h_.1))))) (below_size (be_ HB.out))); have n4_ := Aside0.mk (blk_below (g := gb256) (o := .cells #[.slice A0_0 l0_0.length c0_0, .int .i64 a0_1, .int .i64 a0_2, .int .i64 a0_3, .int .i64 a0_4] 24 (0, 0)) (by refine bl_ ?_; refine blk_far ?_ NB256_281.out _; refine bl_ ?_; refine blk_far ?_ NB256_281.out _; refine bl_ ?_; refine blk_far ?_ NB256_281.out _; refine bl_ ?_; refine blk_far ?_ NB256_281.out _; refine bl_ ?_; refine blk_far ?_ NB256_281.out _; refine bl_ ?_; exact BK256.out) hb); have n5_ := Aside0.mk (blk_below (g := gb273) (o := .cells #[.slice Ao21 t265.length co21, .int .i64 t268, .int .i64 t269, .int .i64 t270, .int .i64 t271] 28 (0, 0)) (by refine bl_ ?_; refine blk_far ?_ NB273_281.out _; refine bl_ ?_; refine blk_far ?_ NB273_281.out _; refine bl_ ?_; refine blk_far ?_ NB273_281.out _; refine bl_ ?_; refine blk_far ?_ NB273_281.out _; refine bl_ ?_; refine blk_far ?_ NB273_281.out _; refine bl_ ?_; exact BK273.out) hb); have n6_ := Aside0.mk (blk_below (g := gb281) (o := .cells #[.slice Ao27 t274.length co27, .int .i64 t277, .int .i64 t278, .int .i64 t279, .int .i64 t280] 28 (0, 0)) (by refine bl_ ?_; refine blk_put (cs := #[.slice Ao27 t274.length co27, .int .i64 t277, .int .i64 t278, .int .i64 t279, .int .i64 0]) ?_ 4 _ rfl; refine bl_ ?_; refine blk_put (cs := #[.slice Ao27 t274.length co27, .int .i64 t277, .int .i64 t278, .int .i64 0, .int .i64 0]) ?_ 3 _ rfl; refine bl_ ?_; refine blk_put (cs := #[.slice Ao27 t274.length co27, .int .i64 t277, .int .i64 0, .int .i64 0, .int .i64 0]) ?_ 2 _ rfl; refine bl_ ?_; refine blk_put (cs := #[.slice Ao27 t274.length co27, .int .i64 0, .int .i64 0, .int .i64 0, .int .i64 0]) ?_ 1 _ rfl; refine bl_ ?_; refine blk_put (cs := #[.slice none 0 0, .int .i64 0, .int .i64 0, .int .i64 0, .int .i64 0]) ?_ 0 _ rfl; refine bl_ ?_; exact BK281.out) hb); have n7_ := Aside0.mk (below_step (be_ HB.out) hb); clear HO260 HO267 HO276 BK256 BK273 BK281 HB; have HO260 := n0_; have HO267 := n1_; have HO276 := n2_; have HO284 := n3_; have BK256 := n4_; have BK273 := n5_; have BK281 := n6_; have HB := n7_; clear n0_ n1_ n2_ n3_ n4_ n5_ n6_ n7_; (try clear hb); (try clear hb2); (try clear hk); (try clear hi); (try clear ho0)) | ((with_reducible refine gate_dst (N := 9) rfl ?_); refine box_event ?hg (N := 9) ?hd (cs := #[.slice none 0 0, .int .i64 0, .int .i64 0, .int .i64 0, .int .i64 0]) (t := 28) ?hr ?_; (case hd => rfl); (case hg => rfl); (case hr => first | (go_simp; done) | (go_simp; rfl)); intro gb290 hg w32 hbox hb; have n0_ := Aside0.mk (Kd.R_below (ro_ HO260.out) hb); have n1_ := Aside0.mk (Kd.R_below (ro_ HO267.out) hb); have n2_ := Aside0.mk (Kd.R_below (ro_ HO276.out) hb); have n3_ := Aside0.mk (Kd.R_below (ro_ HO284.out) hb); have n4_ := Aside0.mk (blk_below (g := gb256) (o := .cells #[.slice A0_0 l0_0.length c0_0, .int .i64 a0_1, .int .i64 a0_2, .int .i64 a0_3, .int .i64 a0_4] 24 (0, 0)) (bl_ BK256.out) hb); have n5_ := Aside0.mk (blk_below (g := gb273) (o := .cells #[.slice Ao21 t265.length co21, .int .i64 t268, .int .i64 t269, .int .i64 t270, .int .i64 t271] 28 (0, 0)) (bl_ BK273.out) hb); have n6_ := Aside0.mk (blk_below (g := gb281) (o := .cells #[.slice Ao27 t274.length co27, .int .i64 t277, .int .i64 t278, .int .i64 t279, .int .i64 t280] 28 (0, 0)) (bl_ BK281.out) hb); have n7_ := Aside0.mk (below_step (be_ HB.out) hb); have n8_ := Aside0.mk (hbox); have n9_ := Aside0.mk ((by rw [hg]; exact (below_size (be_ HB.out)) : w.heap.size ≤ gb290)); have n10_ := Aside0.mk ((by rw [hg]; exact (below_size (be_ HB.out)) : w.heap.size ≤ gb290)); have n11_ := Aside0.mk ((by rw [hg]; exact Nat.ne_of_lt (blk_lt (g := gb256) (o := .cells #[.slice A0_0 l0_0.length c0_0, .int .i64 a0_1, .int .i64 a0_2, .int .i64 a0_3, .int .i64 a0_4] 24 (0, 0)) (bl_ BK256.out)) : gb256 ≠ gb290)); have n12_ := Aside0.mk ((by rw [hg]; exact Nat.ne_of_gt (blk_lt (g := gb256) (o := .cells #[.slice A0_0 l0_0.length c0_0, .int .i64 a0_1, .int .i64 a0_2, .int .i64 a0_3, .int .i64 a0_4] 24 (0, 0)) (bl_ BK256.out)) : gb290 ≠ gb256)); have n13_ := Aside0.mk ((by rw [hg]; exact Nat.ne_of_lt (blk_lt (g := gb273) (o := .cells #[.slice Ao21 t265.length co21, .int .i64 t268, .int .i64 t269, .int .i64 t270, .int .i64 t271] 28 (0, 0)) (bl_ BK273.out)) : gb273 ≠ gb290)); have n14_ := Aside0.mk ((by rw [hg]; exact Nat.ne_of_gt (blk_lt (g := gb273) (o := .cells #[.slice Ao21 t265.length co21, .int .i64 t268, .int .i64 t269, .int .i64 t270, .int .i64 t271] 28 (0, 0)) (bl_ BK273.out)) : gb290 ≠ gb273)); have n15_ := Aside0.mk ((by rw [hg]; exact Nat.ne_of_lt (blk_lt (g := gb281) (o := .cells #[.slice Ao27 t274.length co27, .int .i64 t277, .int .i64 t278, .int .i64 t279, .int .i64 t280] 28 (0, 0)) (bl_ BK281.out)) : gb281 ≠ gb290)); have n16_ := Aside0.mk ((by rw [hg]; exact Nat.ne_of_gt (blk_lt (g := gb281) (o := .cells #[.slice Ao27 t274.length co27, .int .i64 t277, .int .i64 t278, .int .i64 t279, .int .i64 t280] 28 (0, 0)) (bl_ BK281.out)) : gb290 ≠ gb281)); clear HO260 HO267 HO276 HO284 BK256 BK273 BK281 HB; have HO260 := n0_; have HO267 := n1_; have HO276 := n2_; have HO284 := n3_; have BK256 := n4_; have BK273 := n5_; have BK281 := n6_; have HB := n7_; have BK290 := n8_; have GW290 := n9_; have GE290 := n10_; have NB256_290 := n11_; have NB290_256 := n12_; have NB273_290 := n13_; have NB290_273 := n14_; have NB281_290 := n15_; have NB290_281 := n16_; clear n0_ n1_ n2_ n3_ n4_ n5_ n6_ n7_ n8_ n9_ n10_ n11_ n12_ n13_ n14_ n15_ n16_; clear hb hbox hg; obtain ⟨Ao33, co33, eo33⟩ := Kd.R_slice HO284.out; subst eo33; have hnb34 := NB290_256.out; have hnc34 := NB256_290.out; have hnb35 := NB290_273.out; have hnc35 := NB273_290.out; have hnb36 := NB290_281.out; have hnc36 := NB281_290.out; obtain ⟨hcz37_0, hcz37_1, hcz37_2, hcz37_3, hcz37_4, hfz37_0, hfz37_1, hfz37_2, hfz37_3, hfz37_4⟩ := cz5_ BK290.out))
    (try simp only [Act.put, List.setIfInBounds_toArray, List.set_cons_zero, List.set_cons_succ])
    go_cut [44] (fun zv44 wc => ∃ (kq : Nat) (x44_11 : Bool), zv44 = .bool x44_11 ∧ Aside0 (laws_FnExactPushBack.j0 kq a1 t272 t289 x44_11 l0_0 a0_1 a0_2 a0_3 a0_4 t265 t268 t269 t270 t271 t274 t277 t278 t279 t280 t282 t285 t286 t287 t288 = some r) ∧ Aside0 (kq ≤ k) ∧ Aside0 (Kd.R k65 65 wc w.heap.size (fun k_ => some k_ ≠ ((.slice Ao27 t274.length co27) : Value).ownBlock ∧ some k_ ≠ ((.slice Ao33 t282.length co33) : Value).ownBlock) (.slice Ao21 t265.length co21) t265) ∧ Aside0 (Kd.R k65 65 wc w.heap.size (fun k_ => some k_ ≠ ((.slice Ao21 t265.length co21) : Value).ownBlock ∧ some k_ ≠ ((.slice Ao33 t282.length co33) : Value).ownBlock) (.slice Ao27 t274.length co27) t274) ∧ Aside0 (Kd.R k65 65 wc w.heap.size (fun k_ => some k_ ≠ ((.slice Ao21 t265.length co21) : Value).ownBlock ∧ some k_ ≠ ((.slice Ao27 t274.length co27) : Value).ownBlock) (.slice Ao33 t282.length co33) t282) ∧ Aside0 (wc.heap[gb256]? = some (.cells #[(.slice A0_0 l0_0.length c0_0), .int .i64 a0_1, .int .i64 a0_2, .int .i64 a0_3, .int .i64 a0_4] 24 (0, 0))) ∧ Aside0 (wc.heap[gb273]? = some (.cells #[(.slice Ao21 t265.length co21), .int .i64 t268, .int .i64 t269, .int .i64 t270, .int .i64 t271] 28 (0, 0))) ∧ Aside0 (wc.heap[gb281]? = some (.cells #[(.slice Ao27 t274.length co27), .int .i64 t277, .int .i64 t278, .int .i64 t279, .int .i64 t280] 28 (0, 0))) ∧ Aside0 (wc.heap[gb290]? = some (.cells #[(.slice Ao33 t282.length co33), .int .i64 t285, .int .i64 t286, .int .i64 t287, .int .i64 t288] 28 (0, 0))) ∧ Aside0 (Below w.heap.size w wc))
    case first =>
      have H := HC12.out
      clear HC12
      replace H := Option.bind_eq_some_iff.mp H
      obtain ⟨t291, A380, H⟩ := H
      replace H : (if t291 = true then (laws_FnExactPushBack.j0 k a1 t272 t289 (t289 != t272) l0_0 a0_1 a0_2 a0_3 a0_4 t265 t268 t269 t270 t271 t274 t277 t278 t279 t280 t282 t285 t286 t287 t288) else (laws_FnExactPushBack.j0 k a1 t272 t289 true l0_0 a0_1 a0_2 a0_3 a0_4 t265 t268 t269 t270 t271 t274 t277 t278 t279 t280 t282 t285 t286 t287 t288)) = some r := H
      have A38 := Aside0.mk A380
      clear A380
      by_cases c39 : t291 = true
      · subst c39
        have H1 : (laws_FnExactPushBack.j0 k a1 t272 t289 (t289 != t272) l0_0 a0_1 a0_2 a0_3 a0_4 t265 t268 t269 t270 t271 t274 t277 t278 t279 t280 t282 t285 t286 t287 t288) = some r := by rw [if_pos rfl] at H; exact H
        clear H
        have H := H1
        clear H1
        have H' := Aside0.mk H
        clear H
        have hnb40 := NB290_256.out
        have hnc40 := NB256_290.out
        have hnb41 := NB290_273.out
        have hnc41 := NB273_290.out
        have hnb42 := NB290_281.out
        have hnc42 := NB281_290.out
        have hcz43_0 : w32.cell? ⟨gb290, 0, none⟩ = some (.slice none 0 0) := (blk_cell BK290.out 0).trans rfl
        have hcz43_1 : w32.cell? ⟨gb290, 1, none⟩ = some (.int .i64 0) := (blk_cell BK290.out 1).trans rfl
        have hcz43_2 : w32.cell? ⟨gb290, 2, none⟩ = some (.int .i64 0) := (blk_cell BK290.out 2).trans rfl
        have hcz43_3 : w32.cell? ⟨gb290, 3, none⟩ = some (.int .i64 0) := (blk_cell BK290.out 3).trans rfl
        have hcz43_4 : w32.cell? ⟨gb290, 4, none⟩ = some (.int .i64 0) := (blk_cell BK290.out 4).trans rfl
        have hfz43_0 := blk_frozen BK290.out 0
        have hfz43_1 := blk_frozen BK290.out 1
        have hfz43_2 := blk_frozen BK290.out 2
        have hfz43_3 := blk_frozen BK290.out 3
        have hfz43_4 := blk_frozen BK290.out 4
        have hnb44 := NB273_256.out
        have hnc44 := NB256_273.out
        have hnb45 := NB273_281.out
        have hnc45 := NB281_273.out
        have hcz46_0 : w32.cell? ⟨gb273, 0, none⟩ = some (.slice Ao21 t265.length co21) := (blk_cell BK273.out 0).trans rfl
        have hcz46_1 : w32.cell? ⟨gb273, 1, none⟩ = some (.int .i64 t268) := (blk_cell BK273.out 1).trans rfl
        have hcz46_2 : w32.cell? ⟨gb273, 2, none⟩ = some (.int .i64 t269) := (blk_cell BK273.out 2).trans rfl
        have hcz46_3 : w32.cell? ⟨gb273, 3, none⟩ = some (.int .i64 t270) := (blk_cell BK273.out 3).trans rfl
        have hcz46_4 : w32.cell? ⟨gb273, 4, none⟩ = some (.int .i64 t271) := (blk_cell BK273.out 4).trans rfl
        have hfz46_0 := blk_frozen BK273.out 0
        have hfz46_1 := blk_frozen BK273.out 1
        have hfz46_2 := blk_frozen BK273.out 2
        have hfz46_3 := blk_frozen BK273.out 3
        have hfz46_4 := blk_frozen BK273.out 4
        go_wp2_with (first | ((with_reducible refine gate_callee (f := 17) rfl ?_); refine goesL_ (some 38) rfl rfl Try.func17 (by kernel_rfl) rfl #[.agg #[.slice Ao33 t282.length co33, .int .i64 t285, .int .i64 t286, .int .i64 t287, .int .i64 t288], .agg #[.slice Ao21 t265.length co21, .int .i64 t268, .int .i64 t269, .int .i64 t270, .int .i64 t271]] rfl (by (try simp only [List.map_toArray, List.map_cons, List.map_nil]); first | done | rfl | (simp only [List.length_drop, List.length_take]; rfl)) ?_; (with_reducible refine (laws_eqQueue.calls k _ _ t282 t285 t286 t287 t288 _ _ t265 t268 t269 t270 t271 true _ ?side1 ?side2 ?side3 ?side4 A38.out).mono ?_); (case side1 => refine (Kd.R_reads' (e := 65) (base := w.heap.size) (ok := fun k_ => (((True ∧ some k_ ≠ (.slice Ao18 t258.length co18 : Value).ownBlock) ∧ some k_ ≠ (.slice Ao21 t265.length co21 : Value).ownBlock) ∧ some k_ ≠ (.slice Ao27 t274.length co27 : Value).ownBlock)) (n := t282.length) (c := co33) ?_).2.2; exact (by (with_reducible repeat (first | apply Kd.R_alloc | apply Kd.R_drewN | apply Kd.R_drew)); exact (Kd.R_mono (Kd.R_far (p := ⟨gb290, 4, none⟩) (Kd.R_far (p := ⟨gb290, 3, none⟩) (Kd.R_far (p := ⟨gb290, 2, none⟩) (Kd.R_far (p := ⟨gb290, 1, none⟩) (Kd.R_far (p := ⟨gb290, 0, none⟩) (Kd.R_types HO284.out BK290.out (by decide)) (fun _ hk => hk.2) (.slice Ao33 t282.length co33)) (fun _ hk => hk.2) (.int .i64 t285)) (fun _ hk => hk.2) (.int .i64 t286)) (fun _ hk => hk.2) (.int .i64 t287)) (fun _ hk => hk.2) (.int .i64 t288)) (fun _ h_ => h_.1)))); (case side2 => exact (Kd.R_reads' HO284.out).2.1); (case side3 => refine (Kd.R_reads' (e := 65) (base := w.heap.size) (ok := fun k_ => (((True ∧ some k_ ≠ (.slice Ao18 t258.length co18 : Value).ownBlock) ∧ some k_ ≠ (.slice Ao27 t274.length co27 : Value).ownBlock) ∧ some k_ ≠ (.slice Ao33 t282.length co33 : Value).ownBlock)) (n := t265.length) (c := co21) ?_).2.2; exact (by (with_reducible repeat (first | apply Kd.R_alloc | apply Kd.R_drewN | apply Kd.R_drew)); exact (Kd.R_mono (Kd.R_far (p := ⟨gb290, 4, none⟩) (Kd.R_far (p := ⟨gb290, 3, none⟩) (Kd.R_far (p := ⟨gb290, 2, none⟩) (Kd.R_far (p := ⟨gb290, 1, none⟩) (Kd.R_far (p := ⟨gb290, 0, none⟩) (Kd.R_types HO267.out BK290.out (by decide)) (fun _ hk => hk.2) (.slice Ao33 t282.length co33)) (fun _ hk => hk.2) (.int .i64 t285)) (fun _ hk => hk.2) (.int .i64 t286)) (fun _ hk => hk.2) (.int .i64 t287)) (fun _ hk => hk.2) (.int .i64 t288)) (fun _ h_ => h_.1)))); (case side4 => exact (Kd.R_reads' HO267.out).2.1); rintro e w47 ⟨rfl, hb⟩; refine ⟨_, rfl, ?_⟩; have n0_ := Aside0.mk (Kd.R_below (by (with_reducible repeat (first | apply Kd.R_alloc | apply Kd.R_drewN | apply Kd.R_drew)); exact (Kd.R_mono (Kd.R_far (p := ⟨gb290, 4, none⟩) (Kd.R_far (p := ⟨gb290, 3, none⟩) (Kd.R_far (p := ⟨gb290, 2, none⟩) (Kd.R_far (p := ⟨gb290, 1, none⟩) (Kd.R_far (p := ⟨gb290, 0, none⟩) (Kd.R_types HO260.out BK290.out (by decide)) (fun _ hk => hk.2) (.slice Ao33 t282.length co33)) (fun _ hk => hk.2) (.int .i64 t285)) (fun _ hk => hk.2) (.int .i64 t286)) (fun _ hk => hk.2) (.int .i64 t287)) (fun _ hk => hk.2) (.int .i64 t288)) (fun _ h_ => h_.1))) hb); have n1_ := Aside0.mk (Kd.R_below (by (with_reducible repeat (first | apply Kd.R_alloc | apply Kd.R_drewN | apply Kd.R_drew)); exact (Kd.R_mono (Kd.R_far (p := ⟨gb290, 4, none⟩) (Kd.R_far (p := ⟨gb290, 3, none⟩) (Kd.R_far (p := ⟨gb290, 2, none⟩) (Kd.R_far (p := ⟨gb290, 1, none⟩) (Kd.R_far (p := ⟨gb290, 0, none⟩) (Kd.R_types HO267.out BK290.out (by decide)) (fun _ hk => hk.2) (.slice Ao33 t282.length co33)) (fun _ hk => hk.2) (.int .i64 t285)) (fun _ hk => hk.2) (.int .i64 t286)) (fun _ hk => hk.2) (.int .i64 t287)) (fun _ hk => hk.2) (.int .i64 t288)) (fun _ h_ => h_.1))) hb); have n2_ := Aside0.mk (Kd.R_below (by (with_reducible repeat (first | apply Kd.R_alloc | apply Kd.R_drewN | apply Kd.R_drew)); exact (Kd.R_mono (Kd.R_far (p := ⟨gb290, 4, none⟩) (Kd.R_far (p := ⟨gb290, 3, none⟩) (Kd.R_far (p := ⟨gb290, 2, none⟩) (Kd.R_far (p := ⟨gb290, 1, none⟩) (Kd.R_far (p := ⟨gb290, 0, none⟩) (Kd.R_types HO276.out BK290.out (by decide)) (fun _ hk => hk.2) (.slice Ao33 t282.length co33)) (fun _ hk => hk.2) (.int .i64 t285)) (fun _ hk => hk.2) (.int .i64 t286)) (fun _ hk => hk.2) (.int .i64 t287)) (fun _ hk => hk.2) (.int .i64 t288)) (fun _ h_ => h_.1))) hb); have n3_ := Aside0.mk (Kd.R_below (by (with_reducible repeat (first | apply Kd.R_alloc | apply Kd.R_drewN | apply Kd.R_drew)); exact (Kd.R_mono (Kd.R_far (p := ⟨gb290, 4, none⟩) (Kd.R_far (p := ⟨gb290, 3, none⟩) (Kd.R_far (p := ⟨gb290, 2, none⟩) (Kd.R_far (p := ⟨gb290, 1, none⟩) (Kd.R_far (p := ⟨gb290, 0, none⟩) (Kd.R_types HO284.out BK290.out (by decide)) (fun _ hk => hk.2) (.slice Ao33 t282.length co33)) (fun _ hk => hk.2) (.int .i64 t285)) (fun _ hk => hk.2) (.int .i64 t286)) (fun _ hk => hk.2) (.int .i64 t287)) (fun _ hk => hk.2) (.int .i64 t288)) (fun _ h_ => h_.1))) hb); have n4_ := Aside0.mk (blk_below (g := gb256) (o := .cells #[.slice A0_0 l0_0.length c0_0, .int .i64 a0_1, .int .i64 a0_2, .int .i64 a0_3, .int .i64 a0_4] 24 (0, 0)) (by refine bl_ ?_; refine blk_far ?_ NB256_290.out _; refine bl_ ?_; refine blk_far ?_ NB256_290.out _; refine bl_ ?_; refine blk_far ?_ NB256_290.out _; refine bl_ ?_; refine blk_far ?_ NB256_290.out _; refine bl_ ?_; refine blk_far ?_ NB256_290.out _; refine bl_ ?_; exact BK256.out) hb); have n5_ := Aside0.mk (blk_below (g := gb273) (o := .cells #[.slice Ao21 t265.length co21, .int .i64 t268, .int .i64 t269, .int .i64 t270, .int .i64 t271] 28 (0, 0)) (by refine bl_ ?_; refine blk_far ?_ NB273_290.out _; refine bl_ ?_; refine blk_far ?_ NB273_290.out _; refine bl_ ?_; refine blk_far ?_ NB273_290.out _; refine bl_ ?_; refine blk_far ?_ NB273_290.out _; refine bl_ ?_; refine blk_far ?_ NB273_290.out _; refine bl_ ?_; exact BK273.out) hb); have n6_ := Aside0.mk (blk_below (g := gb281) (o := .cells #[.slice Ao27 t274.length co27, .int .i64 t277, .int .i64 t278, .int .i64 t279, .int .i64 t280] 28 (0, 0)) (by refine bl_ ?_; refine blk_far ?_ NB281_290.out _; refine bl_ ?_; refine blk_far ?_ NB281_290.out _; refine bl_ ?_; refine blk_far ?_ NB281_290.out _; refine bl_ ?_; refine blk_far ?_ NB281_290.out _; refine bl_ ?_; refine blk_far ?_ NB281_290.out _; refine bl_ ?_; exact BK281.out) hb); have n7_ := Aside0.mk (blk_below (g := gb290) (o := .cells #[.slice Ao33 t282.length co33, .int .i64 t285, .int .i64 t286, .int .i64 t287, .int .i64 t288] 28 (0, 0)) (by refine bl_ ?_; refine blk_put (cs := #[.slice Ao33 t282.length co33, .int .i64 t285, .int .i64 t286, .int .i64 t287, .int .i64 0]) ?_ 4 _ rfl; refine bl_ ?_; refine blk_put (cs := #[.slice Ao33 t282.length co33, .int .i64 t285, .int .i64 t286, .int .i64 0, .int .i64 0]) ?_ 3 _ rfl; refine bl_ ?_; refine blk_put (cs := #[.slice Ao33 t282.length co33, .int .i64 t285, .int .i64 0, .int .i64 0, .int .i64 0]) ?_ 2 _ rfl; refine bl_ ?_; refine blk_put (cs := #[.slice Ao33 t282.length co33, .int .i64 0, .int .i64 0, .int .i64 0, .int .i64 0]) ?_ 1 _ rfl; refine bl_ ?_; refine blk_put (cs := #[.slice none 0 0, .int .i64 0, .int .i64 0, .int .i64 0, .int .i64 0]) ?_ 0 _ rfl; refine bl_ ?_; exact BK290.out) hb); have n8_ := Aside0.mk (below_step (be_ HB.out) hb); clear HO260 HO267 HO276 HO284 BK256 BK273 BK281 BK290 HB; have HO260 := n0_; have HO267 := n1_; have HO276 := n2_; have HO284 := n3_; have BK256 := n4_; have BK273 := n5_; have BK281 := n6_; have BK290 := n7_; have HB := n8_; clear n0_ n1_ n2_ n3_ n4_ n5_ n6_ n7_ n8_; (try clear hb); (try clear hb2); (try clear hk); (try clear hi)))
        go_meet
        case rel => exact ⟨_, ((t289 != t272)), (by first | rfl | (simp; done) | (simp [*]; done)), H', ⟨by first | omega | exact Nat.le_refl _⟩, ⟨by (with_reducible repeat (first | apply Kd.R_alloc | apply Kd.R_drewN | apply Kd.R_drew)); exact Kd.R_mono HO267.out (fun _ hk => ⟨hk.1.2, hk.2⟩)⟩, ⟨by (with_reducible repeat (first | apply Kd.R_alloc | apply Kd.R_drewN | apply Kd.R_drew)); exact Kd.R_mono HO276.out (fun _ hk => ⟨hk.1.2, hk.2⟩)⟩, ⟨by (with_reducible repeat (first | apply Kd.R_alloc | apply Kd.R_drewN | apply Kd.R_drew)); exact Kd.R_mono HO284.out (fun _ hk => ⟨hk.1.2, hk.2⟩)⟩, ⟨by refine bl_ ?_; exact BK256.out⟩, ⟨by refine bl_ ?_; exact BK273.out⟩, ⟨by refine bl_ ?_; exact BK281.out⟩, ⟨by refine bl_ ?_; exact BK290.out⟩, ⟨be_ HB.out⟩⟩
      · replace c39 := Bool.eq_false_iff.mpr c39
        subst c39
        have H1 : (laws_FnExactPushBack.j0 k a1 t272 t289 true l0_0 a0_1 a0_2 a0_3 a0_4 t265 t268 t269 t270 t271 t274 t277 t278 t279 t280 t282 t285 t286 t287 t288) = some r := by rw [if_neg (show ¬ (false = true) by decide)] at H; exact H
        clear H
        have H := H1
        clear H1
        have H' := Aside0.mk H
        clear H
        have hnb48 := NB290_256.out
        have hnc48 := NB256_290.out
        have hnb49 := NB290_273.out
        have hnc49 := NB273_290.out
        have hnb50 := NB290_281.out
        have hnc50 := NB281_290.out
        have hcz51_0 : w32.cell? ⟨gb290, 0, none⟩ = some (.slice none 0 0) := (blk_cell BK290.out 0).trans rfl
        have hcz51_1 : w32.cell? ⟨gb290, 1, none⟩ = some (.int .i64 0) := (blk_cell BK290.out 1).trans rfl
        have hcz51_2 : w32.cell? ⟨gb290, 2, none⟩ = some (.int .i64 0) := (blk_cell BK290.out 2).trans rfl
        have hcz51_3 : w32.cell? ⟨gb290, 3, none⟩ = some (.int .i64 0) := (blk_cell BK290.out 3).trans rfl
        have hcz51_4 : w32.cell? ⟨gb290, 4, none⟩ = some (.int .i64 0) := (blk_cell BK290.out 4).trans rfl
        have hfz51_0 := blk_frozen BK290.out 0
        have hfz51_1 := blk_frozen BK290.out 1
        have hfz51_2 := blk_frozen BK290.out 2
        have hfz51_3 := blk_frozen BK290.out 3
        have hfz51_4 := blk_frozen BK290.out 4
        have hnb52 := NB273_256.out
        have hnc52 := NB256_273.out
        have hnb53 := NB273_281.out
        have hnc53 := NB281_273.out
        have hcz54_0 : w32.cell? ⟨gb273, 0, none⟩ = some (.slice Ao21 t265.length co21) := (blk_cell BK273.out 0).trans rfl
        have hcz54_1 : w32.cell? ⟨gb273, 1, none⟩ = some (.int .i64 t268) := (blk_cell BK273.out 1).trans rfl
        have hcz54_2 : w32.cell? ⟨gb273, 2, none⟩ = some (.int .i64 t269) := (blk_cell BK273.out 2).trans rfl
        have hcz54_3 : w32.cell? ⟨gb273, 3, none⟩ = some (.int .i64 t270) := (blk_cell BK273.out 3).trans rfl
        have hcz54_4 : w32.cell? ⟨gb273, 4, none⟩ = some (.int .i64 t271) := (blk_cell BK273.out 4).trans rfl
        have hfz54_0 := blk_frozen BK273.out 0
        have hfz54_1 := blk_frozen BK273.out 1
        have hfz54_2 := blk_frozen BK273.out 2
        have hfz54_3 := blk_frozen BK273.out 3
        have hfz54_4 := blk_frozen BK273.out 4
        go_wp2_with (first | ((with_reducible refine gate_callee (f := 17) rfl ?_); refine goesL_ (some 38) rfl rfl Try.func17 (by kernel_rfl) rfl #[.agg #[.slice Ao33 t282.length co33, .int .i64 t285, .int .i64 t286, .int .i64 t287, .int .i64 t288], .agg #[.slice Ao21 t265.length co21, .int .i64 t268, .int .i64 t269, .int .i64 t270, .int .i64 t271]] rfl (by (try simp only [List.map_toArray, List.map_cons, List.map_nil]); first | done | rfl | (simp only [List.length_drop, List.length_take]; rfl)) ?_; (with_reducible refine (laws_eqQueue.calls k _ _ t282 t285 t286 t287 t288 _ _ t265 t268 t269 t270 t271 false _ ?side1 ?side2 ?side3 ?side4 A38.out).mono ?_); (case side1 => refine (Kd.R_reads' (e := 65) (base := w.heap.size) (ok := fun k_ => (((True ∧ some k_ ≠ (.slice Ao18 t258.length co18 : Value).ownBlock) ∧ some k_ ≠ (.slice Ao21 t265.length co21 : Value).ownBlock) ∧ some k_ ≠ (.slice Ao27 t274.length co27 : Value).ownBlock)) (n := t282.length) (c := co33) ?_).2.2; exact (by (with_reducible repeat (first | apply Kd.R_alloc | apply Kd.R_drewN | apply Kd.R_drew)); exact (Kd.R_mono (Kd.R_far (p := ⟨gb290, 4, none⟩) (Kd.R_far (p := ⟨gb290, 3, none⟩) (Kd.R_far (p := ⟨gb290, 2, none⟩) (Kd.R_far (p := ⟨gb290, 1, none⟩) (Kd.R_far (p := ⟨gb290, 0, none⟩) (Kd.R_types HO284.out BK290.out (by decide)) (fun _ hk => hk.2) (.slice Ao33 t282.length co33)) (fun _ hk => hk.2) (.int .i64 t285)) (fun _ hk => hk.2) (.int .i64 t286)) (fun _ hk => hk.2) (.int .i64 t287)) (fun _ hk => hk.2) (.int .i64 t288)) (fun _ h_ => h_.1)))); (case side2 => exact (Kd.R_reads' HO284.out).2.1); (case side3 => refine (Kd.R_reads' (e := 65) (base := w.heap.size) (ok := fun k_ => (((True ∧ some k_ ≠ (.slice Ao18 t258.length co18 : Value).ownBlock) ∧ some k_ ≠ (.slice Ao27 t274.length co27 : Value).ownBlock) ∧ some k_ ≠ (.slice Ao33 t282.length co33 : Value).ownBlock)) (n := t265.length) (c := co21) ?_).2.2; exact (by (with_reducible repeat (first | apply Kd.R_alloc | apply Kd.R_drewN | apply Kd.R_drew)); exact (Kd.R_mono (Kd.R_far (p := ⟨gb290, 4, none⟩) (Kd.R_far (p := ⟨gb290, 3, none⟩) (Kd.R_far (p := ⟨gb290, 2, none⟩) (Kd.R_far (p := ⟨gb290, 1, none⟩) (Kd.R_far (p := ⟨gb290, 0, none⟩) (Kd.R_types HO267.out BK290.out (by decide)) (fun _ hk => hk.2) (.slice Ao33 t282.length co33)) (fun _ hk => hk.2) (.int .i64 t285)) (fun _ hk => hk.2) (.int .i64 t286)) (fun _ hk => hk.2) (.int .i64 t287)) (fun _ hk => hk.2) (.int .i64 t288)) (fun _ h_ => h_.1)))); (case side4 => exact (Kd.R_reads' HO267.out).2.1); rintro e w55 ⟨rfl, hb⟩; refine ⟨_, rfl, ?_⟩; have n0_ := Aside0.mk (Kd.R_below (by (with_reducible repeat (first | apply Kd.R_alloc | apply Kd.R_drewN | apply Kd.R_drew)); exact (Kd.R_mono (Kd.R_far (p := ⟨gb290, 4, none⟩) (Kd.R_far (p := ⟨gb290, 3, none⟩) (Kd.R_far (p := ⟨gb290, 2, none⟩) (Kd.R_far (p := ⟨gb290, 1, none⟩) (Kd.R_far (p := ⟨gb290, 0, none⟩) (Kd.R_types HO260.out BK290.out (by decide)) (fun _ hk => hk.2) (.slice Ao33 t282.length co33)) (fun _ hk => hk.2) (.int .i64 t285)) (fun _ hk => hk.2) (.int .i64 t286)) (fun _ hk => hk.2) (.int .i64 t287)) (fun _ hk => hk.2) (.int .i64 t288)) (fun _ h_ => h_.1))) hb); have n1_ := Aside0.mk (Kd.R_below (by (with_reducible repeat (first | apply Kd.R_alloc | apply Kd.R_drewN | apply Kd.R_drew)); exact (Kd.R_mono (Kd.R_far (p := ⟨gb290, 4, none⟩) (Kd.R_far (p := ⟨gb290, 3, none⟩) (Kd.R_far (p := ⟨gb290, 2, none⟩) (Kd.R_far (p := ⟨gb290, 1, none⟩) (Kd.R_far (p := ⟨gb290, 0, none⟩) (Kd.R_types HO267.out BK290.out (by decide)) (fun _ hk => hk.2) (.slice Ao33 t282.length co33)) (fun _ hk => hk.2) (.int .i64 t285)) (fun _ hk => hk.2) (.int .i64 t286)) (fun _ hk => hk.2) (.int .i64 t287)) (fun _ hk => hk.2) (.int .i64 t288)) (fun _ h_ => h_.1))) hb); have n2_ := Aside0.mk (Kd.R_below (by (with_reducible repeat (first | apply Kd.R_alloc | apply Kd.R_drewN | apply Kd.R_drew)); exact (Kd.R_mono (Kd.R_far (p := ⟨gb290, 4, none⟩) (Kd.R_far (p := ⟨gb290, 3, none⟩) (Kd.R_far (p := ⟨gb290, 2, none⟩) (Kd.R_far (p := ⟨gb290, 1, none⟩) (Kd.R_far (p := ⟨gb290, 0, none⟩) (Kd.R_types HO276.out BK290.out (by decide)) (fun _ hk => hk.2) (.slice Ao33 t282.length co33)) (fun _ hk => hk.2) (.int .i64 t285)) (fun _ hk => hk.2) (.int .i64 t286)) (fun _ hk => hk.2) (.int .i64 t287)) (fun _ hk => hk.2) (.int .i64 t288)) (fun _ h_ => h_.1))) hb); have n3_ := Aside0.mk (Kd.R_below (by (with_reducible repeat (first | apply Kd.R_alloc | apply Kd.R_drewN | apply Kd.R_drew)); exact (Kd.R_mono (Kd.R_far (p := ⟨gb290, 4, none⟩) (Kd.R_far (p := ⟨gb290, 3, none⟩) (Kd.R_far (p := ⟨gb290, 2, none⟩) (Kd.R_far (p := ⟨gb290, 1, none⟩) (Kd.R_far (p := ⟨gb290, 0, none⟩) (Kd.R_types HO284.out BK290.out (by decide)) (fun _ hk => hk.2) (.slice Ao33 t282.length co33)) (fun _ hk => hk.2) (.int .i64 t285)) (fun _ hk => hk.2) (.int .i64 t286)) (fun _ hk => hk.2) (.int .i64 t287)) (fun _ hk => hk.2) (.int .i64 t288)) (fun _ h_ => h_.1))) hb); have n4_ := Aside0.mk (blk_below (g := gb256) (o := .cells #[.slice A0_0 l0_0.length c0_0, .int .i64 a0_1, .int .i64 a0_2, .int .i64 a0_3, .int .i64 a0_4] 24 (0, 0)) (by refine bl_ ?_; refine blk_far ?_ NB256_290.out _; refine bl_ ?_; refine blk_far ?_ NB256_290.out _; refine bl_ ?_; refine blk_far ?_ NB256_290.out _; refine bl_ ?_; refine blk_far ?_ NB256_290.out _; refine bl_ ?_; refine blk_far ?_ NB256_290.out _; refine bl_ ?_; exact BK256.out) hb); have n5_ := Aside0.mk (blk_below (g := gb273) (o := .cells #[.slice Ao21 t265.length co21, .int .i64 t268, .int .i64 t269, .int .i64 t270, .int .i64 t271] 28 (0, 0)) (by refine bl_ ?_; refine blk_far ?_ NB273_290.out _; refine bl_ ?_; refine blk_far ?_ NB273_290.out _; refine bl_ ?_; refine blk_far ?_ NB273_290.out _; refine bl_ ?_; refine blk_far ?_ NB273_290.out _; refine bl_ ?_; refine blk_far ?_ NB273_290.out _; refine bl_ ?_; exact BK273.out) hb); have n6_ := Aside0.mk (blk_below (g := gb281) (o := .cells #[.slice Ao27 t274.length co27, .int .i64 t277, .int .i64 t278, .int .i64 t279, .int .i64 t280] 28 (0, 0)) (by refine bl_ ?_; refine blk_far ?_ NB281_290.out _; refine bl_ ?_; refine blk_far ?_ NB281_290.out _; refine bl_ ?_; refine blk_far ?_ NB281_290.out _; refine bl_ ?_; refine blk_far ?_ NB281_290.out _; refine bl_ ?_; refine blk_far ?_ NB281_290.out _; refine bl_ ?_; exact BK281.out) hb); have n7_ := Aside0.mk (blk_below (g := gb290) (o := .cells #[.slice Ao33 t282.length co33, .int .i64 t285, .int .i64 t286, .int .i64 t287, .int .i64 t288] 28 (0, 0)) (by refine bl_ ?_; refine blk_put (cs := #[.slice Ao33 t282.length co33, .int .i64 t285, .int .i64 t286, .int .i64 t287, .int .i64 0]) ?_ 4 _ rfl; refine bl_ ?_; refine blk_put (cs := #[.slice Ao33 t282.length co33, .int .i64 t285, .int .i64 t286, .int .i64 0, .int .i64 0]) ?_ 3 _ rfl; refine bl_ ?_; refine blk_put (cs := #[.slice Ao33 t282.length co33, .int .i64 t285, .int .i64 0, .int .i64 0, .int .i64 0]) ?_ 2 _ rfl; refine bl_ ?_; refine blk_put (cs := #[.slice Ao33 t282.length co33, .int .i64 0, .int .i64 0, .int .i64 0, .int .i64 0]) ?_ 1 _ rfl; refine bl_ ?_; refine blk_put (cs := #[.slice none 0 0, .int .i64 0, .int .i64 0, .int .i64 0, .int .i64 0]) ?_ 0 _ rfl; refine bl_ ?_; exact BK290.out) hb); have n8_ := Aside0.mk (below_step (be_ HB.out) hb); clear HO260 HO267 HO276 HO284 BK256 BK273 BK281 BK290 HB; have HO260 := n0_; have HO267 := n1_; have HO276 := n2_; have HO284 := n3_; have BK256 := n4_; have BK273 := n5_; have BK281 := n6_; have BK290 := n7_; have HB := n8_; clear n0_ n1_ n2_ n3_ n4_ n5_ n6_ n7_ n8_; (try clear hb); (try clear hb2); (try clear hk); (try clear hi)))
        go_meet
        case rel => exact ⟨_, (true), (by first | rfl | (simp; done) | (simp [*]; done)), H', ⟨by first | omega | exact Nat.le_refl _⟩, ⟨by (with_reducible repeat (first | apply Kd.R_alloc | apply Kd.R_drewN | apply Kd.R_drew)); exact Kd.R_mono HO267.out (fun _ hk => ⟨hk.1.2, hk.2⟩)⟩, ⟨by (with_reducible repeat (first | apply Kd.R_alloc | apply Kd.R_drewN | apply Kd.R_drew)); exact Kd.R_mono HO276.out (fun _ hk => ⟨hk.1.2, hk.2⟩)⟩, ⟨by (with_reducible repeat (first | apply Kd.R_alloc | apply Kd.R_drewN | apply Kd.R_drew)); exact Kd.R_mono HO284.out (fun _ hk => ⟨hk.1.2, hk.2⟩)⟩, ⟨by refine bl_ ?_; exact BK256.out⟩, ⟨by refine bl_ ?_; exact BK273.out⟩, ⟨by refine bl_ ?_; exact BK281.out⟩, ⟨by refine bl_ ?_; exact BK290.out⟩, ⟨be_ HB.out⟩⟩
    case rest =>
      clear HC12
      try clear c1
      try clear c2
      try clear p2
      try clear c3
      try clear c4
      try clear c4b0
      try clear c5
      try clear c13
      try clear c15
      try clear c17
      try clear c20
      try clear c21
      try clear c22
      try clear c28
      try clear c29
      try clear c34
      try clear c35
      try clear c36
      try clear c39
      try clear c40
      try clear c41
      try clear c42
      try clear c44
      try clear c45
      try clear c48
      try clear c49
      try clear c50
      try clear c52
      try clear c53
      try clear hcz14_0
      try clear hcz14_1
      try clear hcz14_2
      try clear hcz14_3
      try clear hcz14_4
      try clear hcz16_0
      try clear hcz16_1
      try clear hcz16_2
      try clear hcz16_3
      try clear hcz16_4
      try clear hcz23_0
      try clear hcz23_1
      try clear hcz23_2
      try clear hcz23_3
      try clear hcz23_4
      try clear hcz24_0
      try clear hcz24_1
      try clear hcz24_2
      try clear hcz24_3
      try clear hcz24_4
      try clear hcz30_0
      try clear hcz30_1
      try clear hcz30_2
      try clear hcz30_3
      try clear hcz30_4
      try clear hcz37_0
      try clear hcz37_1
      try clear hcz37_2
      try clear hcz37_3
      try clear hcz37_4
      try clear hcz43_0
      try clear hcz43_1
      try clear hcz43_2
      try clear hcz43_3
      try clear hcz43_4
      try clear hcz46_0
      try clear hcz46_1
      try clear hcz46_2
      try clear hcz46_3
      try clear hcz46_4
      try clear hcz51_0
      try clear hcz51_1
      try clear hcz51_2
      try clear hcz51_3
      try clear hcz51_4
      try clear hcz54_0
      try clear hcz54_1
      try clear hcz54_2
      try clear hcz54_3
      try clear hcz54_4
      try clear hcz6_0
      try clear hcz6_1
      try clear hcz6_2
      try clear hcz6_3
      try clear hcz6_4
      try clear hfz14_0
      try clear hfz14_1
      try clear hfz14_2
      try clear hfz14_3
      try clear hfz14_4
      try clear hfz16_0
      try clear hfz16_1
      try clear hfz16_2
      try clear hfz16_3
      try clear hfz16_4
      try clear hfz23_0
      try clear hfz23_1
      try clear hfz23_2
      try clear hfz23_3
      try clear hfz23_4
      try clear hfz24_0
      try clear hfz24_1
      try clear hfz24_2
      try clear hfz24_3
      try clear hfz24_4
      try clear hfz30_0
      try clear hfz30_1
      try clear hfz30_2
      try clear hfz30_3
      try clear hfz30_4
      try clear hfz37_0
      try clear hfz37_1
      try clear hfz37_2
      try clear hfz37_3
      try clear hfz37_4
      try clear hfz43_0
      try clear hfz43_1
      try clear hfz43_2
      try clear hfz43_3
      try clear hfz43_4
      try clear hfz46_0
      try clear hfz46_1
      try clear hfz46_2
      try clear hfz46_3
      try clear hfz46_4
      try clear hfz51_0
      try clear hfz51_1
      try clear hfz51_2
      try clear hfz51_3
      try clear hfz51_4
      try clear hfz54_0
      try clear hfz54_1
      try clear hfz54_2
      try clear hfz54_3
      try clear hfz54_4
      try clear hfz6_0
      try clear hfz6_1
      try clear hfz6_2
      try clear hfz6_3
      try clear hfz6_4
      obtain ⟨kq, x44_11, rfl, HA, HJ11, HO_274000, HO_282000, HO_291000, BK256, BK273, BK281, BK290, HB⟩ := hcut
      cases kq with
      | zero => exact absurd HA.out (by simp [laws_FnExactPushBack.j0])
      | succ kj11 =>
        have H := HA.out
        clear HA
        simp only [laws_FnExactPushBack.j0] at H
        by_cases c56 : x44_11 = true
        · subst c56
          have H1 : (some false) = some r := by rw [if_pos rfl] at H; exact H
          clear H
          have H := H1
          clear H1
          obtain rfl := Option.some.inj H
          go_wp2
          go_ret
          exact ⟨by first | rfl | (simp [errW_none, errW_some] <;> rfl) | (simp [*, errW_none, errW_some] <;> rfl), be_ HB.out⟩
        · replace c56 := Bool.eq_false_iff.mpr c56
          subst c56
          have H1 : ((laws_toQueue.f kj11 l0_0 a0_1 a0_2 a0_3 a0_4).bind fun bt292 => ((laws_eqQueue.f kj11 t274 t277 t278 t279 t280 bt292.1 bt292.2.1 bt292.2.2.1 bt292.2.2.2.1 bt292.2.2.2.2).bind fun t299 => (if t299 = true then ((laws_markQueue.f kj11 t274 t277 t278 t279 t280 1).bind fun bt300 => (if bt300.1 < 0 then (laws_FnExactPushBack.j1 kj11 a1 t272 true l0_0 a0_1 a0_2 a0_3 a0_4 t265 t268 t269 t270 t271 t282 t285 t286 t287 t288) else ((laws_eqQueue.f kj11 t282 t285 t286 t287 t288 t265 t268 t269 t270 t271).bind fun t302 => (if t302 = true then (laws_FnExactPushBack.j1 kj11 a1 t272 (t289 != t272) l0_0 a0_1 a0_2 a0_3 a0_4 t265 t268 t269 t270 t271 t282 t285 t286 t287 t288) else (laws_FnExactPushBack.j1 kj11 a1 t272 true l0_0 a0_1 a0_2 a0_3 a0_4 t265 t268 t269 t270 t271 t282 t285 t286 t287 t288))))) else (some false)))) = some r := by rw [if_neg (show ¬ (false = true) by decide)] at H; exact H
          clear H
          have H := H1
          clear H1
          replace H := Option.bind_eq_some_iff.mp H
          obtain ⟨⟨t292, t295, t296, t297, t298⟩, A570, H⟩ := H
          replace H : ((laws_eqQueue.f kj11 t274 t277 t278 t279 t280 t292 t295 t296 t297 t298).bind fun t299 => (if t299 = true then ((laws_markQueue.f kj11 t274 t277 t278 t279 t280 1).bind fun bt300 => (if bt300.1 < 0 then (laws_FnExactPushBack.j1 kj11 a1 t272 true l0_0 a0_1 a0_2 a0_3 a0_4 t265 t268 t269 t270 t271 t282 t285 t286 t287 t288) else ((laws_eqQueue.f kj11 t282 t285 t286 t287 t288 t265 t268 t269 t270 t271).bind fun t302 => (if t302 = true then (laws_FnExactPushBack.j1 kj11 a1 t272 (t289 != t272) l0_0 a0_1 a0_2 a0_3 a0_4 t265 t268 t269 t270 t271 t282 t285 t286 t287 t288) else (laws_FnExactPushBack.j1 kj11 a1 t272 true l0_0 a0_1 a0_2 a0_3 a0_4 t265 t268 t269 t270 t271 t282 t285 t286 t287 t288))))) else (some false))) = some r := H
          have A57 := Aside0.mk A570
          clear A570
          replace H := Option.bind_eq_some_iff.mp H
          obtain ⟨t299, A580, H⟩ := H
          replace H : (if t299 = true then ((laws_markQueue.f kj11 t274 t277 t278 t279 t280 1).bind fun bt300 => (if bt300.1 < 0 then (laws_FnExactPushBack.j1 kj11 a1 t272 true l0_0 a0_1 a0_2 a0_3 a0_4 t265 t268 t269 t270 t271 t282 t285 t286 t287 t288) else ((laws_eqQueue.f kj11 t282 t285 t286 t287 t288 t265 t268 t269 t270 t271).bind fun t302 => (if t302 = true then (laws_FnExactPushBack.j1 kj11 a1 t272 (t289 != t272) l0_0 a0_1 a0_2 a0_3 a0_4 t265 t268 t269 t270 t271 t282 t285 t286 t287 t288) else (laws_FnExactPushBack.j1 kj11 a1 t272 true l0_0 a0_1 a0_2 a0_3 a0_4 t265 t268 t269 t270 t271 t282 t285 t286 t287 t288))))) else (some false)) = some r := H
          have A58 := Aside0.mk A580
          clear A580
          by_cases c59 : t299 = true
          · subst c59
            have H1 : ((laws_markQueue.f kj11 t274 t277 t278 t279 t280 1).bind fun bt300 => (if bt300.1 < 0 then (laws_FnExactPushBack.j1 kj11 a1 t272 true l0_0 a0_1 a0_2 a0_3 a0_4 t265 t268 t269 t270 t271 t282 t285 t286 t287 t288) else ((laws_eqQueue.f kj11 t282 t285 t286 t287 t288 t265 t268 t269 t270 t271).bind fun t302 => (if t302 = true then (laws_FnExactPushBack.j1 kj11 a1 t272 (t289 != t272) l0_0 a0_1 a0_2 a0_3 a0_4 t265 t268 t269 t270 t271 t282 t285 t286 t287 t288) else (laws_FnExactPushBack.j1 kj11 a1 t272 true l0_0 a0_1 a0_2 a0_3 a0_4 t265 t268 t269 t270 t271 t282 t285 t286 t287 t288))))) = some r := by rw [if_pos rfl] at H; exact H
            clear H
            have H := H1
            clear H1
            replace H := Option.bind_eq_some_iff.mp H
            obtain ⟨⟨t300, t301⟩, A600, H⟩ := H
            replace H : (if t300 < 0 then (laws_FnExactPushBack.j1 kj11 a1 t272 true l0_0 a0_1 a0_2 a0_3 a0_4 t265 t268 t269 t270 t271 t282 t285 t286 t287 t288) else ((laws_eqQueue.f kj11 t282 t285 t286 t287 t288 t265 t268 t269 t270 t271).bind fun t302 => (if t302 = true then (laws_FnExactPushBack.j1 kj11 a1 t272 (t289 != t272) l0_0 a0_1 a0_2 a0_3 a0_4 t265 t268 t269 t270 t271 t282 t285 t286 t287 t288) else (laws_FnExactPushBack.j1 kj11 a1 t272 true l0_0 a0_1 a0_2 a0_3 a0_4 t265 t268 t269 t270 t271 t282 t285 t286 t287 t288)))) = some r := H
            have A60 := Aside0.mk A600
            clear A600
            have HC61 := Aside0.mk H
            clear H
            try go_wp2
            have n0_ := Aside0.mk (Kd.R_drew HO_274000.out)
            have n1_ := Aside0.mk (Kd.R_drew HO_282000.out)
            have n2_ := Aside0.mk (Kd.R_drew HO_291000.out)
            have n3_ := Aside0.mk (blk_drew BK256.out)
            have n4_ := Aside0.mk (blk_drew BK273.out)
            have n5_ := Aside0.mk (blk_drew BK281.out)
            have n6_ := Aside0.mk (blk_drew BK290.out)
            have n7_ := Aside0.mk (below_drew1 HB.out)
            clear HO_274000
            clear HO_282000
            clear HO_291000
            clear BK256
            clear BK273
            clear BK281
            clear BK290
            clear HB
            have HO_274000 := n0_
            have HO_282000 := n1_
            have HO_291000 := n2_
            have BK256 := n3_
            have BK273 := n4_
            have BK281 := n5_
            have BK290 := n6_
            have HB := n7_
            clear n0_ n1_ n2_ n3_ n4_ n5_ n6_ n7_
            refine start_ (n := 5) (S := fun w' => w'.cell? ⟨gb281, 0, none⟩ = some (.slice Ao27 t274.length co27) ∧ w'.cell? ⟨gb281, 1, none⟩ = some (.int .i64 t277) ∧ w'.cell? ⟨gb281, 2, none⟩ = some (.int .i64 t278) ∧ w'.cell? ⟨gb281, 3, none⟩ = some (.int .i64 t279) ∧ w'.cell? ⟨gb281, 4, none⟩ = some (.int .i64 t280) ∧ w'.cell? ⟨gb256, 0, none⟩ = some (.slice A0_0 l0_0.length c0_0) ∧ w'.cell? ⟨gb256, 1, none⟩ = some (.int .i64 a0_1) ∧ w'.cell? ⟨gb256, 2, none⟩ = some (.int .i64 a0_2) ∧ w'.cell? ⟨gb256, 3, none⟩ = some (.int .i64 a0_3) ∧ w'.cell? ⟨gb256, 4, none⟩ = some (.int .i64 a0_4)) (ds := []) #[false, false, false, false, false] (by kernel_rfl) rfl rfl ⟨(blk_cell BK281.out 0).trans rfl, (blk_cell BK281.out 1).trans rfl, (blk_cell BK281.out 2).trans rfl, (blk_cell BK281.out 3).trans rfl, (blk_cell BK281.out 4).trans rfl, (blk_cell BK256.out 0).trans rfl, (blk_cell BK256.out 1).trans rfl, (blk_cell BK256.out 2).trans rfl, (blk_cell BK256.out 3).trans rfl, (blk_cell BK256.out 4).trans rfl⟩ (fun hHeld => ?_)
            generalize wc.drew = w62 at HO_274000 HO_282000 HO_291000 BK256 BK273 BK281 BK290 HB hHeld ⊢
            refine take_ (i := 0) (N := some 45) (v := ?_) (a' := ?_) #[true, false, false, false, false] rfl rfl (by kernel_rfl) (fun _ _ _ h => h) (Or.inl ⟨by rfl, ?_⟩) hHeld ?_ ?_
            rotate_left
            · rintro w' ⟨s0, s1, s2, s3, s4, s5, s6, s7, s8, s9⟩
              go_simp
              with_reducible rfl
            rotate_left
            · simp only [Act.put, List.setIfInBounds_toArray, List.set_cons_zero, List.set_cons_succ, i64_w, i32_w]
              rfl
            refine take_ (i := 1) (N := some 46) (v := ?_) (a' := ?_) #[true, true, false, false, false] rfl rfl (by kernel_rfl) (fun _ _ _ h => h) (Or.inl ⟨by rfl, ?_⟩) hHeld ?_ ?_
            rotate_left
            · rintro w' ⟨s0, s1, s2, s3, s4, s5, s6, s7, s8, s9⟩
              go_simp
              with_reducible rfl
            rotate_left
            · simp only [Act.put, List.setIfInBounds_toArray, List.set_cons_zero, List.set_cons_succ, i64_w, i32_w]
              rfl
            refine one_ (i := 2) (N := some 47) #[true, true, true, false, false] rfl rfl (by kernel_rfl) (by decide) (fun K hK => ?_)
            refine goes_ Try.func15 (by kernel_rfl) rfl #[.agg #[.slice A0_0 l0_0.length c0_0, .int .i64 a0_1, .int .i64 a0_2, .int .i64 a0_3, .int .i64 a0_4]] (by rfl) rfl rfl (by (try simp only [List.map_toArray, List.map_cons, List.map_nil]); first | done | rfl | (simp only [List.length_drop, List.length_take]; rfl)) ?_
            with_reducible refine (laws_toQueue.calls kj11 _ _ l0_0 a0_1 a0_2 a0_3 a0_4 t292 t295 t296 t297 t298 _ ?side1 ?side2 A57.out).mono ?_
            (case side1 => repeat (first | exact (Kd.C_below HR0_0.out HB.out) | (with_reducible refine Kd.C_alloc ?_ _) | (with_reducible refine Kd.C_drewN ?_ _) | (with_reducible refine Kd.C_drew ?_)))
            (case side2 => exact HC0_0.out)
            rintro e w63 ⟨v293, rfl, ho0, hb⟩
            refine ⟨_, rfl, ?_⟩
            have n0_ := Aside0.mk (Kd.R_elder' (ro_ HO_274000.out) (Kd.R_base ho0) hb)
            have n1_ := Aside0.mk (Kd.R_elder' (ro_ HO_282000.out) (Kd.R_base ho0) hb)
            have n2_ := Aside0.mk (Kd.R_elder' (ro_ HO_291000.out) (Kd.R_base ho0) hb)
            have n3_ := Aside0.mk (Kd.R_lower (Kd.R_new' (Kd.R_new' (Kd.R_new' ho0 (Kd.R_lt (ro_ HO_274000.out))) (Kd.R_lt (ro_ HO_282000.out))) (Kd.R_lt (ro_ HO_291000.out))) (below_size (be_ HB.out)))
            have n4_ := Aside0.mk (blk_below (g := gb256) (o := .cells #[.slice A0_0 l0_0.length c0_0, .int .i64 a0_1, .int .i64 a0_2, .int .i64 a0_3, .int .i64 a0_4] 24 (0, 0)) (bl_ BK256.out) hb)
            have n5_ := Aside0.mk (blk_below (g := gb273) (o := .cells #[.slice Ao21 t265.length co21, .int .i64 t268, .int .i64 t269, .int .i64 t270, .int .i64 t271] 28 (0, 0)) (bl_ BK273.out) hb)
            have n6_ := Aside0.mk (blk_below (g := gb281) (o := .cells #[.slice Ao27 t274.length co27, .int .i64 t277, .int .i64 t278, .int .i64 t279, .int .i64 t280] 28 (0, 0)) (bl_ BK281.out) hb)
            have n7_ := Aside0.mk (blk_below (g := gb290) (o := .cells #[.slice Ao33 t282.length co33, .int .i64 t285, .int .i64 t286, .int .i64 t287, .int .i64 t288] 28 (0, 0)) (bl_ BK290.out) hb)
            have n8_ := Aside0.mk (below_step (be_ HB.out) hb)
            clear HO_274000
            clear HO_282000
            clear HO_291000
            clear BK256
            clear BK273
            clear BK281
            clear BK290
            clear HB
            have HO_274000 := n0_
            have HO_282000 := n1_
            have HO_291000 := n2_
            have HO294 := n3_
            have BK256 := n4_
            have BK273 := n5_
            have BK281 := n6_
            have BK290 := n7_
            have HB := n8_
            clear n0_ n1_ n2_ n3_ n4_ n5_ n6_ n7_ n8_
            (try clear hb)
            (try clear hb2)
            (try clear hk)
            (try clear hi)
            (try clear ho0)
            obtain ⟨Ao64, co64, eo64⟩ := Kd.R_slice HO294.out
            (first | subst eo64 | (injection eo64 with f1_ f2_ f3_; have f4_ := f1_.symm; have f5_ := f3_.symm; clear f1_ f2_ f3_; subst f4_; subst f5_))
            refine hK.out _ _ ⟨(blk_cell BK281.out 0).trans rfl, (blk_cell BK281.out 1).trans rfl, (blk_cell BK281.out 2).trans rfl, (blk_cell BK281.out 3).trans rfl, (blk_cell BK281.out 4).trans rfl, (blk_cell BK256.out 0).trans rfl, (blk_cell BK256.out 1).trans rfl, (blk_cell BK256.out 2).trans rfl, (blk_cell BK256.out 3).trans rfl, (blk_cell BK256.out 4).trans rfl⟩ (fun hHeld => ?_)
            clear hK K
            refine norm_ (a' := ?_) ?_ ?_
            rotate_left
            · show Act.put _ (some 47) _ = _
              simp only [Act.put, List.setIfInBounds_toArray, List.set_cons_zero, List.set_cons_succ, i64_w, i32_w]
              rfl
            refine one_ (i := 3) (N := some 48) #[true, true, true, true, false] rfl rfl (by kernel_rfl) (by decide) (fun K hK => ?_)
            refine goes_ Try.func17 (by kernel_rfl) rfl #[.agg #[.slice Ao27 t274.length co27, .int .i64 t277, .int .i64 t278, .int .i64 t279, .int .i64 t280], .agg #[.slice Ao64 t292.length co64, .int .i64 t295, .int .i64 t296, .int .i64 t297, .int .i64 t298]] (by rfl) rfl rfl (by (try simp only [List.map_toArray, List.map_cons, List.map_nil]); first | done | rfl | (simp only [List.length_drop, List.length_take]; rfl)) ?_
            with_reducible refine (laws_eqQueue.calls kj11 _ _ t274 t277 t278 t279 t280 _ _ t292 t295 t296 t297 t298 true _ ?side1 ?side2 ?side3 ?side4 A58.out).mono ?_
            (case side1 => repeat (first | exact (Kd.R_reads' HO_282000.out).2.2 | (with_reducible refine Kd.C_alloc ?_ _) | (with_reducible refine Kd.C_drewN ?_ _) | (with_reducible refine Kd.C_drew ?_)))
            (case side2 => exact (Kd.R_reads' HO_282000.out).2.1)
            (case side3 => repeat (first | exact (Kd.R_reads' HO294.out).2.2 | (with_reducible refine Kd.C_alloc ?_ _) | (with_reducible refine Kd.C_drewN ?_ _) | (with_reducible refine Kd.C_drew ?_)))
            (case side4 => exact (Kd.R_reads' HO294.out).2.1)
            rintro e w65 ⟨rfl, hb⟩
            refine ⟨_, rfl, ?_⟩
            have n0_ := Aside0.mk (Kd.R_below (ro_ HO_274000.out) hb)
            have n1_ := Aside0.mk (Kd.R_below (ro_ HO_282000.out) hb)
            have n2_ := Aside0.mk (Kd.R_below (ro_ HO_291000.out) hb)
            have n3_ := Aside0.mk (Kd.R_below (ro_ HO294.out) hb)
            have n4_ := Aside0.mk (blk_below (g := gb256) (o := .cells #[.slice A0_0 l0_0.length c0_0, .int .i64 a0_1, .int .i64 a0_2, .int .i64 a0_3, .int .i64 a0_4] 24 (0, 0)) (bl_ BK256.out) hb)
            have n5_ := Aside0.mk (blk_below (g := gb273) (o := .cells #[.slice Ao21 t265.length co21, .int .i64 t268, .int .i64 t269, .int .i64 t270, .int .i64 t271] 28 (0, 0)) (bl_ BK273.out) hb)
            have n6_ := Aside0.mk (blk_below (g := gb281) (o := .cells #[.slice Ao27 t274.length co27, .int .i64 t277, .int .i64 t278, .int .i64 t279, .int .i64 t280] 28 (0, 0)) (bl_ BK281.out) hb)
            have n7_ := Aside0.mk (blk_below (g := gb290) (o := .cells #[.slice Ao33 t282.length co33, .int .i64 t285, .int .i64 t286, .int .i64 t287, .int .i64 t288] 28 (0, 0)) (bl_ BK290.out) hb)
            have n8_ := Aside0.mk (below_step (be_ HB.out) hb)
            clear HO_274000
            clear HO_282000
            clear HO_291000
            clear HO294
            clear BK256
            clear BK273
            clear BK281
            clear BK290
            clear HB
            have HO_274000 := n0_
            have HO_282000 := n1_
            have HO_291000 := n2_
            have HO294 := n3_
            have BK256 := n4_
            have BK273 := n5_
            have BK281 := n6_
            have BK290 := n7_
            have HB := n8_
            clear n0_ n1_ n2_ n3_ n4_ n5_ n6_ n7_ n8_
            (try clear hb)
            (try clear hb2)
            (try clear hk)
            (try clear hi)
            refine hK.out _ _ ⟨(blk_cell BK281.out 0).trans rfl, (blk_cell BK281.out 1).trans rfl, (blk_cell BK281.out 2).trans rfl, (blk_cell BK281.out 3).trans rfl, (blk_cell BK281.out 4).trans rfl, (blk_cell BK256.out 0).trans rfl, (blk_cell BK256.out 1).trans rfl, (blk_cell BK256.out 2).trans rfl, (blk_cell BK256.out 3).trans rfl, (blk_cell BK256.out 4).trans rfl⟩ (fun hHeld => ?_)
            clear hK K
            refine norm_ (a' := ?_) ?_ ?_
            rotate_left
            · show Act.put _ (some 48) _ = _
              simp only [Act.put, List.setIfInBounds_toArray, List.set_cons_zero, List.set_cons_succ, i64_w, i32_w]
              rfl
            refine pure_ (i := 4) (N := some 49) (v := ?_) (a' := ?_) #[true, true, true, true, true] rfl rfl (by kernel_rfl) (fun _ _ _ h => h) (Or.inl ⟨by rfl, ?_⟩) ?_ ?_
            rotate_left
            · intro w'
              go_simp
              with_reducible rfl
            rotate_left
            · simp only [Act.put, List.setIfInBounds_toArray, List.set_cons_zero, List.set_cons_succ, i64_w, i32_w]
              rfl
            refine done_ (by kernel_rfl) ?_
            have hnb66 := NB281_256.out
            have hnc66 := NB256_281.out
            have hnb67 := NB281_273.out
            have hnc67 := NB273_281.out
            have hnb68 := NB281_290.out
            have hnc68 := NB290_281.out
            have hcz69_0 : w65.cell? ⟨gb281, 0, none⟩ = some (.slice Ao27 t274.length co27) := (blk_cell BK281.out 0).trans rfl
            have hcz69_1 : w65.cell? ⟨gb281, 1, none⟩ = some (.int .i64 t277) := (blk_cell BK281.out 1).trans rfl
            have hcz69_2 : w65.cell? ⟨gb281, 2, none⟩ = some (.int .i64 t278) := (blk_cell BK281.out 2).trans rfl
            have hcz69_3 : w65.cell? ⟨gb281, 3, none⟩ = some (.int .i64 t279) := (blk_cell BK281.out 3).trans rfl
            have hcz69_4 : w65.cell? ⟨gb281, 4, none⟩ = some (.int .i64 t280) := (blk_cell BK281.out 4).trans rfl
            have hfz69_0 := blk_frozen BK281.out 0
            have hfz69_1 := blk_frozen BK281.out 1
            have hfz69_2 := blk_frozen BK281.out 2
            have hfz69_3 := blk_frozen BK281.out 3
            have hfz69_4 := blk_frozen BK281.out 4
            go_upto_region 14 with (first | ((with_reducible refine gate_callee (f := 18) rfl ?_); refine goesL_ (some 52) rfl rfl Try.func18 (by kernel_rfl) rfl #[.agg #[.slice Ao27 t274.length co27, .int .i64 t277, .int .i64 t278, .int .i64 t279, .int .i64 t280], .int .i64 1] rfl (by (try simp only [List.map_toArray, List.map_cons, List.map_nil]); first | done | rfl | (simp only [List.length_drop, List.length_take]; rfl)) ?_; (with_reducible refine (laws_markQueue.calls kj11 (fun k_ => some k_ = (.slice Ao27 t274.length co27 : Value).ownBlock) (.slice Ao27 t274.length co27) t274 t277 t278 t279 t280 1 t300 t301 w _ ?side1 ?side2 A60.out).mono ?_); (case side1 => exact be_ HB.out); (case side2 => exact Kd.R_tight rfl HO_282000.out); rintro e w70 ⟨rfl, hy0, hb, hkp⟩; refine ⟨_, rfl, ?_⟩; have n0_ := Aside0.mk (Kd.R_mono (ok' := fun k_ => some k_ ≠ (.slice Ao27 t274.length co27 : Value).ownBlock ∧ some k_ ≠ (.slice Ao33 t282.length co33 : Value).ownBlock ∧ some k_ ≠ (.slice Ao64 t292.length co64 : Value).ownBlock) (Kd.R_keptB (HO_274000.out) hkp rn_) rm_); have n1_ := Aside0.mk (Kd.R_reok rfl hy0 (fun k_ e_ => HO_282000.out.1 k_ e_)); have n2_ := Aside0.mk (Kd.R_mono (ok' := fun k_ => some k_ ≠ (.slice Ao21 t265.length co21 : Value).ownBlock ∧ some k_ ≠ (.slice Ao27 t274.length co27 : Value).ownBlock ∧ some k_ ≠ (.slice Ao64 t292.length co64 : Value).ownBlock) (Kd.R_keptB (HO_291000.out) hkp rn_) rm_); have n3_ := Aside0.mk (blk_kept (bl_ BK256.out) hkp (fun hs_ => (fun e_ => (Kd.R_ne HO_282000.out BK256.out (by decide)) e_) hs_)); have n4_ := Aside0.mk (blk_kept (bl_ BK273.out) hkp (fun hs_ => (fun e_ => (Kd.R_ne HO_282000.out BK273.out (by decide)) e_) hs_)); have n5_ := Aside0.mk (blk_kept (bl_ BK281.out) hkp (fun hs_ => (fun e_ => (Kd.R_ne HO_282000.out BK281.out (by decide)) e_) hs_)); have n6_ := Aside0.mk (blk_kept (bl_ BK290.out) hkp (fun hs_ => (fun e_ => (Kd.R_ne HO_282000.out BK290.out (by decide)) e_) hs_)); have n7_ := Aside0.mk (Kd.R_mono (ok' := fun k_ => some k_ ≠ (.slice Ao21 t265.length co21 : Value).ownBlock ∧ some k_ ≠ (.slice Ao27 t274.length co27 : Value).ownBlock ∧ some k_ ≠ (.slice Ao33 t282.length co33 : Value).ownBlock) (Kd.R_keptB (HO294.out) hkp rn_) rm_); have n8_ := Aside0.mk (hb); clear HO_274000 HO_282000 HO_291000 BK256 BK273 BK281 BK290 HO294 HB; have HO_274000 := n0_; have HO_282000 := n1_; have HO_291000 := n2_; have BK256 := n3_; have BK273 := n4_; have BK281 := n5_; have BK290 := n6_; have HO294 := n7_; have HB := n8_; clear n0_ n1_ n2_ n3_ n4_ n5_ n6_ n7_ n8_; (try clear hb); (try clear hkp); (try clear hy0)))
            (try simp only [Act.put, List.setIfInBounds_toArray, List.set_cons_zero, List.set_cons_succ])
            go_cut [65] (fun zv65 wc => ∃ (kq : Nat) (x65_60 : Bool), zv65 = .bool x65_60 ∧ Aside0 (laws_FnExactPushBack.j1 kq a1 t272 x65_60 l0_0 a0_1 a0_2 a0_3 a0_4 t265 t268 t269 t270 t271 t282 t285 t286 t287 t288 = some r) ∧ Aside0 (kq ≤ kj11) ∧ Aside0 (Kd.R k65 65 wc w.heap.size (fun k_ => some k_ ≠ ((.slice Ao27 t274.length co27) : Value).ownBlock ∧ some k_ ≠ ((.slice Ao33 t282.length co33) : Value).ownBlock) (.slice Ao21 t265.length co21) t265) ∧ Aside0 (Kd.R k65 65 wc w.heap.size (fun k_ => some k_ ≠ ((.slice Ao21 t265.length co21) : Value).ownBlock ∧ some k_ ≠ ((.slice Ao33 t282.length co33) : Value).ownBlock) (.slice Ao27 t274.length co27) t301) ∧ Aside0 (Kd.R k65 65 wc w.heap.size (fun k_ => some k_ ≠ ((.slice Ao21 t265.length co21) : Value).ownBlock ∧ some k_ ≠ ((.slice Ao27 t274.length co27) : Value).ownBlock) (.slice Ao33 t282.length co33) t282) ∧ Aside0 (wc.heap[gb256]? = some (.cells #[(.slice A0_0 l0_0.length c0_0), .int .i64 a0_1, .int .i64 a0_2, .int .i64 a0_3, .int .i64 a0_4] 24 (0, 0))) ∧ Aside0 (wc.heap[gb273]? = some (.cells #[(.slice Ao21 t265.length co21), .int .i64 t268, .int .i64 t269, .int .i64 t270, .int .i64 t271] 28 (0, 0))) ∧ Aside0 (wc.heap[gb281]? = some (.cells #[(.slice Ao27 t274.length co27), .int .i64 t277, .int .i64 t278, .int .i64 t279, .int .i64 t280] 28 (0, 0))) ∧ Aside0 (wc.heap[gb290]? = some (.cells #[(.slice Ao33 t282.length co33), .int .i64 t285, .int .i64 t286, .int .i64 t287, .int .i64 t288] 28 (0, 0))) ∧ Aside0 (Below w.heap.size w wc))
            case first =>
              have H := HC61.out
              clear HC61
              by_cases c71 : t300 < 0
              · rw [if_pos c71] at H
                have c71b0 : decide (t300 < 0) = true := decide_eq_true c71
                clear c71
                (first | rw [c71b0] | (simp only [i64_w, i32_w]; rw [c71b0]) | skip)
                have H' := Aside0.mk H
                clear H
                go_wp2
                go_meet
                case rel => exact ⟨_, (true), (by first | rfl | (simp; done) | (simp [*]; done)), H', ⟨by have := HJ11.out; first | omega | exact Nat.le_refl _⟩, ⟨by (with_reducible repeat (first | apply Kd.R_alloc | apply Kd.R_drewN | apply Kd.R_drew)); exact Kd.R_mono HO_274000.out (fun _ hk => ⟨hk.1, hk.2.1⟩)⟩, ⟨by (with_reducible repeat (first | apply Kd.R_alloc | apply Kd.R_drewN | apply Kd.R_drew)); exact Kd.R_mono HO_282000.out (fun _ hk => ⟨hk.1.1, hk.1.2⟩)⟩, ⟨by (with_reducible repeat (first | apply Kd.R_alloc | apply Kd.R_drewN | apply Kd.R_drew)); exact Kd.R_mono HO_291000.out (fun _ hk => ⟨hk.1, hk.2.1⟩)⟩, ⟨by refine bl_ ?_; exact BK256.out⟩, ⟨by refine bl_ ?_; exact BK273.out⟩, ⟨by refine bl_ ?_; exact BK281.out⟩, ⟨by refine bl_ ?_; exact BK290.out⟩, ⟨be_ HB.out⟩⟩
              · rw [if_neg c71] at H
                have c71b0 : decide (t300 < 0) = false := decide_eq_false c71
                clear c71
                (first | rw [c71b0] | (simp only [i64_w, i32_w]; rw [c71b0]) | skip)
                replace H := Option.bind_eq_some_iff.mp H
                obtain ⟨t302, A720, H⟩ := H
                replace H : (if t302 = true then (laws_FnExactPushBack.j1 kj11 a1 t272 (t289 != t272) l0_0 a0_1 a0_2 a0_3 a0_4 t265 t268 t269 t270 t271 t282 t285 t286 t287 t288) else (laws_FnExactPushBack.j1 kj11 a1 t272 true l0_0 a0_1 a0_2 a0_3 a0_4 t265 t268 t269 t270 t271 t282 t285 t286 t287 t288)) = some r := H
                have A72 := Aside0.mk A720
                clear A720
                by_cases c73 : t302 = true
                · subst c73
                  have H1 : (laws_FnExactPushBack.j1 kj11 a1 t272 (t289 != t272) l0_0 a0_1 a0_2 a0_3 a0_4 t265 t268 t269 t270 t271 t282 t285 t286 t287 t288) = some r := by rw [if_pos rfl] at H; exact H
                  clear H
                  have H := H1
                  clear H1
                  have H' := Aside0.mk H
                  clear H
                  have hnb74 := NB290_256.out
                  have hnc74 := NB256_290.out
                  have hnb75 := NB290_273.out
                  have hnc75 := NB273_290.out
                  have hnb76 := NB290_281.out
                  have hnc76 := NB281_290.out
                  have hcz77_0 : w70.cell? ⟨gb290, 0, none⟩ = some (.slice Ao33 t282.length co33) := (blk_cell BK290.out 0).trans rfl
                  have hcz77_1 : w70.cell? ⟨gb290, 1, none⟩ = some (.int .i64 t285) := (blk_cell BK290.out 1).trans rfl
                  have hcz77_2 : w70.cell? ⟨gb290, 2, none⟩ = some (.int .i64 t286) := (blk_cell BK290.out 2).trans rfl
                  have hcz77_3 : w70.cell? ⟨gb290, 3, none⟩ = some (.int .i64 t287) := (blk_cell BK290.out 3).trans rfl
                  have hcz77_4 : w70.cell? ⟨gb290, 4, none⟩ = some (.int .i64 t288) := (blk_cell BK290.out 4).trans rfl
                  have hfz77_0 := blk_frozen BK290.out 0
                  have hfz77_1 := blk_frozen BK290.out 1
                  have hfz77_2 := blk_frozen BK290.out 2
                  have hfz77_3 := blk_frozen BK290.out 3
                  have hfz77_4 := blk_frozen BK290.out 4
                  have hnb78 := NB273_256.out
                  have hnc78 := NB256_273.out
                  have hnb79 := NB273_281.out
                  have hnc79 := NB281_273.out
                  have hcz80_0 : w70.cell? ⟨gb273, 0, none⟩ = some (.slice Ao21 t265.length co21) := (blk_cell BK273.out 0).trans rfl
                  have hcz80_1 : w70.cell? ⟨gb273, 1, none⟩ = some (.int .i64 t268) := (blk_cell BK273.out 1).trans rfl
                  have hcz80_2 : w70.cell? ⟨gb273, 2, none⟩ = some (.int .i64 t269) := (blk_cell BK273.out 2).trans rfl
                  have hcz80_3 : w70.cell? ⟨gb273, 3, none⟩ = some (.int .i64 t270) := (blk_cell BK273.out 3).trans rfl
                  have hcz80_4 : w70.cell? ⟨gb273, 4, none⟩ = some (.int .i64 t271) := (blk_cell BK273.out 4).trans rfl
                  have hfz80_0 := blk_frozen BK273.out 0
                  have hfz80_1 := blk_frozen BK273.out 1
                  have hfz80_2 := blk_frozen BK273.out 2
                  have hfz80_3 := blk_frozen BK273.out 3
                  have hfz80_4 := blk_frozen BK273.out 4
                  go_wp2_with (first | (go_at_call 17; (with_reducible refine (laws_eqQueue.calls kj11 _ _ t282 t285 t286 t287 t288 _ _ t265 t268 t269 t270 t271 true _ ?side1 ?side2 ?side3 ?side4 A72.out).mono ?_); (case side1 => repeat (first | exact (Kd.R_reads' HO_291000.out).2.2 | (with_reducible refine Kd.C_alloc ?_ _) | (with_reducible refine Kd.C_drewN ?_ _) | (with_reducible refine Kd.C_drew ?_))); (case side2 => exact (Kd.R_reads' HO_291000.out).2.1); (case side3 => repeat (first | exact (Kd.R_reads' HO_274000.out).2.2 | (with_reducible refine Kd.C_alloc ?_ _) | (with_reducible refine Kd.C_drewN ?_ _) | (with_reducible refine Kd.C_drew ?_))); (case side4 => exact (Kd.R_reads' HO_274000.out).2.1); rintro e w81 ⟨rfl, hb⟩; have n0_ := Aside0.mk (Kd.R_below (ro_ HO_274000.out) hb); have n1_ := Aside0.mk (Kd.R_below (ro_ HO_282000.out) hb); have n2_ := Aside0.mk (Kd.R_below (ro_ HO_291000.out) hb); have n3_ := Aside0.mk (Kd.R_below (ro_ HO294.out) hb); have n4_ := Aside0.mk (blk_below (g := gb256) (o := .cells #[.slice A0_0 l0_0.length c0_0, .int .i64 a0_1, .int .i64 a0_2, .int .i64 a0_3, .int .i64 a0_4] 24 (0, 0)) (bl_ BK256.out) hb); have n5_ := Aside0.mk (blk_below (g := gb273) (o := .cells #[.slice Ao21 t265.length co21, .int .i64 t268, .int .i64 t269, .int .i64 t270, .int .i64 t271] 28 (0, 0)) (bl_ BK273.out) hb); have n6_ := Aside0.mk (blk_below (g := gb281) (o := .cells #[.slice Ao27 t274.length co27, .int .i64 t277, .int .i64 t278, .int .i64 t279, .int .i64 t280] 28 (0, 0)) (bl_ BK281.out) hb); have n7_ := Aside0.mk (blk_below (g := gb290) (o := .cells #[.slice Ao33 t282.length co33, .int .i64 t285, .int .i64 t286, .int .i64 t287, .int .i64 t288] 28 (0, 0)) (bl_ BK290.out) hb); have n8_ := Aside0.mk (below_step (be_ HB.out) hb); clear HO_274000 HO_282000 HO_291000 HO294 BK256 BK273 BK281 BK290 HB; have HO_274000 := n0_; have HO_282000 := n1_; have HO_291000 := n2_; have HO294 := n3_; have BK256 := n4_; have BK273 := n5_; have BK281 := n6_; have BK290 := n7_; have HB := n8_; clear n0_ n1_ n2_ n3_ n4_ n5_ n6_ n7_ n8_; (try clear hb); (try clear hb2); (try clear hk); (try clear hi)))
                  go_meet
                  case rel => exact ⟨_, ((t289 != t272)), (by first | rfl | (simp; done) | (simp [*]; done)), H', ⟨by have := HJ11.out; first | omega | exact Nat.le_refl _⟩, ⟨by (with_reducible repeat (first | apply Kd.R_alloc | apply Kd.R_drewN | apply Kd.R_drew)); exact Kd.R_mono HO_274000.out (fun _ hk => ⟨hk.1, hk.2.1⟩)⟩, ⟨by (with_reducible repeat (first | apply Kd.R_alloc | apply Kd.R_drewN | apply Kd.R_drew)); exact Kd.R_mono HO_282000.out (fun _ hk => ⟨hk.1.1, hk.1.2⟩)⟩, ⟨by (with_reducible repeat (first | apply Kd.R_alloc | apply Kd.R_drewN | apply Kd.R_drew)); exact Kd.R_mono HO_291000.out (fun _ hk => ⟨hk.1, hk.2.1⟩)⟩, ⟨by refine bl_ ?_; exact BK256.out⟩, ⟨by refine bl_ ?_; exact BK273.out⟩, ⟨by refine bl_ ?_; exact BK281.out⟩, ⟨by refine bl_ ?_; exact BK290.out⟩, ⟨be_ HB.out⟩⟩
                · replace c73 := Bool.eq_false_iff.mpr c73
                  subst c73
                  have H1 : (laws_FnExactPushBack.j1 kj11 a1 t272 true l0_0 a0_1 a0_2 a0_3 a0_4 t265 t268 t269 t270 t271 t282 t285 t286 t287 t288) = some r := by rw [if_neg (show ¬ (false = true) by decide)] at H; exact H
                  clear H
                  have H := H1
                  clear H1
                  have H' := Aside0.mk H
                  clear H
                  have hnb82 := NB290_256.out
                  have hnc82 := NB256_290.out
                  have hnb83 := NB290_273.out
                  have hnc83 := NB273_290.out
                  have hnb84 := NB290_281.out
                  have hnc84 := NB281_290.out
                  have hcz85_0 : w70.cell? ⟨gb290, 0, none⟩ = some (.slice Ao33 t282.length co33) := (blk_cell BK290.out 0).trans rfl
                  have hcz85_1 : w70.cell? ⟨gb290, 1, none⟩ = some (.int .i64 t285) := (blk_cell BK290.out 1).trans rfl
                  have hcz85_2 : w70.cell? ⟨gb290, 2, none⟩ = some (.int .i64 t286) := (blk_cell BK290.out 2).trans rfl
                  have hcz85_3 : w70.cell? ⟨gb290, 3, none⟩ = some (.int .i64 t287) := (blk_cell BK290.out 3).trans rfl
                  have hcz85_4 : w70.cell? ⟨gb290, 4, none⟩ = some (.int .i64 t288) := (blk_cell BK290.out 4).trans rfl
                  have hfz85_0 := blk_frozen BK290.out 0
                  have hfz85_1 := blk_frozen BK290.out 1
                  have hfz85_2 := blk_frozen BK290.out 2
                  have hfz85_3 := blk_frozen BK290.out 3
                  have hfz85_4 := blk_frozen BK290.out 4
                  have hnb86 := NB273_256.out
                  have hnc86 := NB256_273.out
                  have hnb87 := NB273_281.out
                  have hnc87 := NB281_273.out
                  have hcz88_0 : w70.cell? ⟨gb273, 0, none⟩ = some (.slice Ao21 t265.length co21) := (blk_cell BK273.out 0).trans rfl
                  have hcz88_1 : w70.cell? ⟨gb273, 1, none⟩ = some (.int .i64 t268) := (blk_cell BK273.out 1).trans rfl
                  have hcz88_2 : w70.cell? ⟨gb273, 2, none⟩ = some (.int .i64 t269) := (blk_cell BK273.out 2).trans rfl
                  have hcz88_3 : w70.cell? ⟨gb273, 3, none⟩ = some (.int .i64 t270) := (blk_cell BK273.out 3).trans rfl
                  have hcz88_4 : w70.cell? ⟨gb273, 4, none⟩ = some (.int .i64 t271) := (blk_cell BK273.out 4).trans rfl
                  have hfz88_0 := blk_frozen BK273.out 0
                  have hfz88_1 := blk_frozen BK273.out 1
                  have hfz88_2 := blk_frozen BK273.out 2
                  have hfz88_3 := blk_frozen BK273.out 3
                  have hfz88_4 := blk_frozen BK273.out 4
                  go_wp2_with (first | (go_at_call 17; (with_reducible refine (laws_eqQueue.calls kj11 _ _ t282 t285 t286 t287 t288 _ _ t265 t268 t269 t270 t271 false _ ?side1 ?side2 ?side3 ?side4 A72.out).mono ?_); (case side1 => repeat (first | exact (Kd.R_reads' HO_291000.out).2.2 | (with_reducible refine Kd.C_alloc ?_ _) | (with_reducible refine Kd.C_drewN ?_ _) | (with_reducible refine Kd.C_drew ?_))); (case side2 => exact (Kd.R_reads' HO_291000.out).2.1); (case side3 => repeat (first | exact (Kd.R_reads' HO_274000.out).2.2 | (with_reducible refine Kd.C_alloc ?_ _) | (with_reducible refine Kd.C_drewN ?_ _) | (with_reducible refine Kd.C_drew ?_))); (case side4 => exact (Kd.R_reads' HO_274000.out).2.1); rintro e w89 ⟨rfl, hb⟩; have n0_ := Aside0.mk (Kd.R_below (ro_ HO_274000.out) hb); have n1_ := Aside0.mk (Kd.R_below (ro_ HO_282000.out) hb); have n2_ := Aside0.mk (Kd.R_below (ro_ HO_291000.out) hb); have n3_ := Aside0.mk (Kd.R_below (ro_ HO294.out) hb); have n4_ := Aside0.mk (blk_below (g := gb256) (o := .cells #[.slice A0_0 l0_0.length c0_0, .int .i64 a0_1, .int .i64 a0_2, .int .i64 a0_3, .int .i64 a0_4] 24 (0, 0)) (bl_ BK256.out) hb); have n5_ := Aside0.mk (blk_below (g := gb273) (o := .cells #[.slice Ao21 t265.length co21, .int .i64 t268, .int .i64 t269, .int .i64 t270, .int .i64 t271] 28 (0, 0)) (bl_ BK273.out) hb); have n6_ := Aside0.mk (blk_below (g := gb281) (o := .cells #[.slice Ao27 t274.length co27, .int .i64 t277, .int .i64 t278, .int .i64 t279, .int .i64 t280] 28 (0, 0)) (bl_ BK281.out) hb); have n7_ := Aside0.mk (blk_below (g := gb290) (o := .cells #[.slice Ao33 t282.length co33, .int .i64 t285, .int .i64 t286, .int .i64 t287, .int .i64 t288] 28 (0, 0)) (bl_ BK290.out) hb); have n8_ := Aside0.mk (below_step (be_ HB.out) hb); clear HO_274000 HO_282000 HO_291000 HO294 BK256 BK273 BK281 BK290 HB; have HO_274000 := n0_; have HO_282000 := n1_; have HO_291000 := n2_; have HO294 := n3_; have BK256 := n4_; have BK273 := n5_; have BK281 := n6_; have BK290 := n7_; have HB := n8_; clear n0_ n1_ n2_ n3_ n4_ n5_ n6_ n7_ n8_; (try clear hb); (try clear hb2); (try clear hk); (try clear hi)))
                  go_meet
                  case rel => exact ⟨_, (true), (by first | rfl | (simp; done) | (simp [*]; done)), H', ⟨by have := HJ11.out; first | omega | exact Nat.le_refl _⟩, ⟨by (with_reducible repeat (first | apply Kd.R_alloc | apply Kd.R_drewN | apply Kd.R_drew)); exact Kd.R_mono HO_274000.out (fun _ hk => ⟨hk.1, hk.2.1⟩)⟩, ⟨by (with_reducible repeat (first | apply Kd.R_alloc | apply Kd.R_drewN | apply Kd.R_drew)); exact Kd.R_mono HO_282000.out (fun _ hk => ⟨hk.1.1, hk.1.2⟩)⟩, ⟨by (with_reducible repeat (first | apply Kd.R_alloc | apply Kd.R_drewN | apply Kd.R_drew)); exact Kd.R_mono HO_291000.out (fun _ hk => ⟨hk.1, hk.2.1⟩)⟩, ⟨by refine bl_ ?_; exact BK256.out⟩, ⟨by refine bl_ ?_; exact BK273.out⟩, ⟨by refine bl_ ?_; exact BK281.out⟩, ⟨by refine bl_ ?_; exact BK290.out⟩, ⟨be_ HB.out⟩⟩
            case rest =>
              clear HC61
              try clear c1
              try clear c2
              try clear p2
              try clear c3
              try clear c4
              try clear c4b0
              try clear c5
              try clear c6
              try clear c7
              try clear c8
              try clear c13
              try clear c15
              try clear c17
              try clear c18
              try clear c20
              try clear c21
              try clear c22
              try clear c28
              try clear c29
              try clear c34
              try clear c35
              try clear c36
              try clear c39
              try clear c40
              try clear c41
              try clear c42
              try clear c44
              try clear c45
              try clear c48
              try clear c49
              try clear c50
              try clear c52
              try clear c53
              try clear c56
              try clear c59
              try clear c66
              try clear c67
              try clear c68
              try clear c71
              try clear c71b0
              try clear c73
              try clear c74
              try clear c75
              try clear c76
              try clear c78
              try clear c79
              try clear c82
              try clear c83
              try clear c84
              try clear c86
              try clear c87
              try clear hcz14_0
              try clear hcz14_1
              try clear hcz14_2
              try clear hcz14_3
              try clear hcz14_4
              try clear hcz16_0
              try clear hcz16_1
              try clear hcz16_2
              try clear hcz16_3
              try clear hcz16_4
              try clear hcz23_0
              try clear hcz23_1
              try clear hcz23_2
              try clear hcz23_3
              try clear hcz23_4
              try clear hcz24_0
              try clear hcz24_1
              try clear hcz24_2
              try clear hcz24_3
              try clear hcz24_4
              try clear hcz30_0
              try clear hcz30_1
              try clear hcz30_2
              try clear hcz30_3
              try clear hcz30_4
              try clear hcz37_0
              try clear hcz37_1
              try clear hcz37_2
              try clear hcz37_3
              try clear hcz37_4
              try clear hcz43_0
              try clear hcz43_1
              try clear hcz43_2
              try clear hcz43_3
              try clear hcz43_4
              try clear hcz46_0
              try clear hcz46_1
              try clear hcz46_2
              try clear hcz46_3
              try clear hcz46_4
              try clear hcz51_0
              try clear hcz51_1
              try clear hcz51_2
              try clear hcz51_3
              try clear hcz51_4
              try clear hcz54_0
              try clear hcz54_1
              try clear hcz54_2
              try clear hcz54_3
              try clear hcz54_4
              try clear hcz69_0
              try clear hcz69_1
              try clear hcz69_2
              try clear hcz69_3
              try clear hcz69_4
              try clear hcz6_0
              try clear hcz6_1
              try clear hcz6_2
              try clear hcz6_3
              try clear hcz6_4
              try clear hcz77_0
              try clear hcz77_1
              try clear hcz77_2
              try clear hcz77_3
              try clear hcz77_4
              try clear hcz80_0
              try clear hcz80_1
              try clear hcz80_2
              try clear hcz80_3
              try clear hcz80_4
              try clear hcz85_0
              try clear hcz85_1
              try clear hcz85_2
              try clear hcz85_3
              try clear hcz85_4
              try clear hcz88_0
              try clear hcz88_1
              try clear hcz88_2
              try clear hcz88_3
              try clear hcz88_4
              try clear hfz14_0
              try clear hfz14_1
              try clear hfz14_2
              try clear hfz14_3
              try clear hfz14_4
              try clear hfz16_0
              try clear hfz16_1
              try clear hfz16_2
              try clear hfz16_3
              try clear hfz16_4
              try clear hfz23_0
              try clear hfz23_1
              try clear hfz23_2
              try clear hfz23_3
              try clear hfz23_4
              try clear hfz24_0
              try clear hfz24_1
              try clear hfz24_2
              try clear hfz24_3
              try clear hfz24_4
              try clear hfz30_0
              try clear hfz30_1
              try clear hfz30_2
              try clear hfz30_3
              try clear hfz30_4
              try clear hfz37_0
              try clear hfz37_1
              try clear hfz37_2
              try clear hfz37_3
              try clear hfz37_4
              try clear hfz43_0
              try clear hfz43_1
              try clear hfz43_2
              try clear hfz43_3
              try clear hfz43_4
              try clear hfz46_0
              try clear hfz46_1
              try clear hfz46_2
              try clear hfz46_3
              try clear hfz46_4
              try clear hfz51_0
              try clear hfz51_1
              try clear hfz51_2
              try clear hfz51_3
              try clear hfz51_4
              try clear hfz54_0
              try clear hfz54_1
              try clear hfz54_2
              try clear hfz54_3
              try clear hfz54_4
              try clear hfz69_0
              try clear hfz69_1
              try clear hfz69_2
              try clear hfz69_3
              try clear hfz69_4
              try clear hfz6_0
              try clear hfz6_1
              try clear hfz6_2
              try clear hfz6_3
              try clear hfz6_4
              try clear hfz77_0
              try clear hfz77_1
              try clear hfz77_2
              try clear hfz77_3
              try clear hfz77_4
              try clear hfz80_0
              try clear hfz80_1
              try clear hfz80_2
              try clear hfz80_3
              try clear hfz80_4
              try clear hfz85_0
              try clear hfz85_1
              try clear hfz85_2
              try clear hfz85_3
              try clear hfz85_4
              try clear hfz88_0
              try clear hfz88_1
              try clear hfz88_2
              try clear hfz88_3
              try clear hfz88_4
              try clear p2
              obtain ⟨kq, x65_60, rfl, HA, HJ60, HO_274000, HO_282000, HO_291000, BK256, BK273, BK281, BK290, HB⟩ := hcut
              have hl282000_60 := (Kd.R_reads' HO_282000.out).1
              rw [hl282000_60] at HO_282000
              (try simp only [hl282000_60])
              (try simp only [hl282000_60] at BK256)
              (try simp only [hl282000_60] at BK273)
              (try simp only [hl282000_60] at BK281)
              (try simp only [hl282000_60] at BK290)
              (try simp only [hl282000_60] at HO_274000)
              (try simp only [hl282000_60] at HO_291000)
              cases kq with
              | zero => exact absurd HA.out (by simp [laws_FnExactPushBack.j1])
              | succ kj60 =>
                have H := HA.out
                clear HA
                simp only [laws_FnExactPushBack.j1] at H
                by_cases c90 : x65_60 = true
                · subst c90
                  have H1 : (some false) = some r := by rw [if_pos rfl] at H; exact H
                  clear H
                  have H := H1
                  clear H1
                  obtain rfl := Option.some.inj H
                  go_wp2
                  go_ret
                  exact ⟨by first | rfl | (simp [errW_none, errW_some] <;> rfl) | (simp [*, errW_none, errW_some] <;> rfl), be_ HB.out⟩
                · replace c90 := Bool.eq_false_iff.mpr c90
                  subst c90
                  have H1 : ((laws_markQueue.f kj60 t282 t285 t286 t287 t288 1).bind fun bt303 => ((laws_heldQueue.f kj60 bt303.2 t285 t286 t287 t288 1).bind fun t305 => (if t305 < 0 then (some false) else (if t305 = bt303.1 then ((laws_toQueue.f kj60 l0_0 a0_1 a0_2 a0_3 a0_4).bind fun bt306 => ((impl_PushBack.f kj60 bt306.1 bt306.2.1 bt306.2.2.1 bt306.2.2.2.1 bt306.2.2.2.2 a1).bind fun bt313 => ((laws_eqQueue.f kj60 bt313.1 bt313.2.1 bt313.2.2.1 bt313.2.2.2.1 bt313.2.2.2.2.1 t265 t268 t269 t270 t271).bind fun t322 => (if t322 = true then (laws_FnExactPushBack.j2 kj60 bt303.1 (bt313.2.2.2.2.2 != t272) bt303.2 t285 t286 t287 t288) else (laws_FnExactPushBack.j2 kj60 bt303.1 true bt303.2 t285 t286 t287 t288))))) else (some false))))) = some r := by rw [if_neg (show ¬ (false = true) by decide)] at H; exact H
                  clear H
                  have H := H1
                  clear H1
                  replace H := Option.bind_eq_some_iff.mp H
                  obtain ⟨⟨t303, t304⟩, A910, H⟩ := H
                  replace H : ((laws_heldQueue.f kj60 t304 t285 t286 t287 t288 1).bind fun t305 => (if t305 < 0 then (some false) else (if t305 = t303 then ((laws_toQueue.f kj60 l0_0 a0_1 a0_2 a0_3 a0_4).bind fun bt306 => ((impl_PushBack.f kj60 bt306.1 bt306.2.1 bt306.2.2.1 bt306.2.2.2.1 bt306.2.2.2.2 a1).bind fun bt313 => ((laws_eqQueue.f kj60 bt313.1 bt313.2.1 bt313.2.2.1 bt313.2.2.2.1 bt313.2.2.2.2.1 t265 t268 t269 t270 t271).bind fun t322 => (if t322 = true then (laws_FnExactPushBack.j2 kj60 t303 (bt313.2.2.2.2.2 != t272) t304 t285 t286 t287 t288) else (laws_FnExactPushBack.j2 kj60 t303 true t304 t285 t286 t287 t288))))) else (some false)))) = some r := H
                  have A91 := Aside0.mk A910
                  clear A910
                  replace H := Option.bind_eq_some_iff.mp H
                  obtain ⟨t305, A920, H⟩ := H
                  replace H : (if t305 < 0 then (some false) else (if t305 = t303 then ((laws_toQueue.f kj60 l0_0 a0_1 a0_2 a0_3 a0_4).bind fun bt306 => ((impl_PushBack.f kj60 bt306.1 bt306.2.1 bt306.2.2.1 bt306.2.2.2.1 bt306.2.2.2.2 a1).bind fun bt313 => ((laws_eqQueue.f kj60 bt313.1 bt313.2.1 bt313.2.2.1 bt313.2.2.2.1 bt313.2.2.2.2.1 t265 t268 t269 t270 t271).bind fun t322 => (if t322 = true then (laws_FnExactPushBack.j2 kj60 t303 (bt313.2.2.2.2.2 != t272) t304 t285 t286 t287 t288) else (laws_FnExactPushBack.j2 kj60 t303 true t304 t285 t286 t287 t288))))) else (some false))) = some r := H
                  have A92 := Aside0.mk A920
                  clear A920
                  by_cases c93 : t305 < 0
                  · rw [if_pos c93] at H
                    have c93b0 : decide (t305 < 0) = true := decide_eq_true c93
                    clear c93
                    obtain rfl := Option.some.inj H
                    have hnb94 := NB290_256.out
                    have hnc94 := NB256_290.out
                    have hnb95 := NB290_273.out
                    have hnc95 := NB273_290.out
                    have hnb96 := NB290_281.out
                    have hnc96 := NB281_290.out
                    have hcz97_0 : wc.cell? ⟨gb290, 0, none⟩ = some (.slice Ao33 t282.length co33) := (blk_cell BK290.out 0).trans rfl
                    have hcz97_1 : wc.cell? ⟨gb290, 1, none⟩ = some (.int .i64 t285) := (blk_cell BK290.out 1).trans rfl
                    have hcz97_2 : wc.cell? ⟨gb290, 2, none⟩ = some (.int .i64 t286) := (blk_cell BK290.out 2).trans rfl
                    have hcz97_3 : wc.cell? ⟨gb290, 3, none⟩ = some (.int .i64 t287) := (blk_cell BK290.out 3).trans rfl
                    have hcz97_4 : wc.cell? ⟨gb290, 4, none⟩ = some (.int .i64 t288) := (blk_cell BK290.out 4).trans rfl
                    have hfz97_0 := blk_frozen BK290.out 0
                    have hfz97_1 := blk_frozen BK290.out 1
                    have hfz97_2 := blk_frozen BK290.out 2
                    have hfz97_3 := blk_frozen BK290.out 3
                    have hfz97_4 := blk_frozen BK290.out 4
                    go_wp2_with (first | ((with_reducible refine gate_callee (f := 18) rfl ?_); refine goesL_ (some 68) rfl rfl Try.func18 (by kernel_rfl) rfl #[.agg #[.slice Ao33 t282.length co33, .int .i64 t285, .int .i64 t286, .int .i64 t287, .int .i64 t288], .int .i64 1] rfl (by (try simp only [List.map_toArray, List.map_cons, List.map_nil]); first | done | rfl | (simp only [List.length_drop, List.length_take]; rfl)) ?_; (with_reducible refine (laws_markQueue.calls kj60 (fun k_ => some k_ = (.slice Ao33 t282.length co33 : Value).ownBlock) (.slice Ao33 t282.length co33) t282 t285 t286 t287 t288 1 t303 t304 w _ ?side1 ?side2 A91.out).mono ?_); (case side1 => exact be_ HB.out); (case side2 => exact Kd.R_tight rfl HO_291000.out); rintro e w98 ⟨rfl, hy0, hb, hkp⟩; refine ⟨_, rfl, ?_⟩; have n0_ := Aside0.mk (Kd.R_mono (ok' := fun k_ => some k_ ≠ (.slice Ao27 t301.length co27 : Value).ownBlock ∧ some k_ ≠ (.slice Ao33 t282.length co33 : Value).ownBlock) (Kd.R_keptB (HO_274000.out) hkp rn_) rm_); have n1_ := Aside0.mk (Kd.R_mono (ok' := fun k_ => some k_ ≠ (.slice Ao21 t265.length co21 : Value).ownBlock ∧ some k_ ≠ (.slice Ao33 t282.length co33 : Value).ownBlock) (Kd.R_keptB (HO_282000.out) hkp rn_) rm_); have n2_ := Aside0.mk (Kd.R_reok rfl hy0 (fun k_ e_ => HO_291000.out.1 k_ e_)); have n3_ := Aside0.mk (blk_kept (bl_ BK256.out) hkp (fun hs_ => (fun e_ => (Kd.R_ne HO_291000.out BK256.out (by decide)) e_) hs_)); have n4_ := Aside0.mk (blk_kept (bl_ BK273.out) hkp (fun hs_ => (fun e_ => (Kd.R_ne HO_291000.out BK273.out (by decide)) e_) hs_)); have n5_ := Aside0.mk (blk_kept (bl_ BK281.out) hkp (fun hs_ => (fun e_ => (Kd.R_ne HO_291000.out BK281.out (by decide)) e_) hs_)); have n6_ := Aside0.mk (blk_kept (bl_ BK290.out) hkp (fun hs_ => (fun e_ => (Kd.R_ne HO_291000.out BK290.out (by decide)) e_) hs_)); have n7_ := Aside0.mk (hb); clear HO_274000 HO_282000 HO_291000 BK256 BK273 BK281 BK290 HB; have HO_274000 := n0_; have HO_282000 := n1_; have HO_291000 := n2_; have BK256 := n3_; have BK273 := n4_; have BK281 := n5_; have BK290 := n6_; have HB := n7_; clear n0_ n1_ n2_ n3_ n4_ n5_ n6_ n7_; (try clear hb); (try clear hkp); (try clear hy0); obtain ⟨hcz99_0, hcz99_1, hcz99_2, hcz99_3, hcz99_4, hfz99_0, hfz99_1, hfz99_2, hfz99_3, hfz99_4⟩ := cz5_ BK290.out) | ((with_reducible refine gate_callee (f := 19) rfl ?_); refine goesL_ (some 71) rfl rfl Try.func19 (by kernel_rfl) rfl #[.agg #[.slice Ao33 t304.length co33, .int .i64 t285, .int .i64 t286, .int .i64 t287, .int .i64 t288], .int .i64 1] rfl (by (try simp only [List.map_toArray, List.map_cons, List.map_nil]); first | done | (rw [show t304.length = t282.length from (Kd.R_reads' HO_291000.out).1.symm] <;> rfl) | rfl | (simp only [List.length_drop, List.length_take]; rfl)) ?_; (with_reducible refine (laws_heldQueue.calls kj60 _ _ t304 t285 t286 t287 t288 1 t305 _ ?side1 ?side2 A92.out).mono ?_); (case side1 => repeat (first | exact (Kd.R_reads' HO_291000.out).2.2 | (with_reducible refine Kd.C_alloc ?_ _) | (with_reducible refine Kd.C_drewN ?_ _) | (with_reducible refine Kd.C_drew ?_))); (case side2 => rw [show t304.length = t282.length from (Kd.R_reads' HO_291000.out).1.symm]; exact (Kd.R_reads' HO_291000.out).2.1); rintro e w100 ⟨rfl, hb⟩; refine ⟨_, rfl, ?_⟩; have n0_ := Aside0.mk (Kd.R_below (ro_ HO_274000.out) hb); have n1_ := Aside0.mk (Kd.R_below (ro_ HO_282000.out) hb); have n2_ := Aside0.mk (Kd.R_below (ro_ HO_291000.out) hb); have n3_ := Aside0.mk (blk_below (g := gb256) (o := .cells #[.slice A0_0 l0_0.length c0_0, .int .i64 a0_1, .int .i64 a0_2, .int .i64 a0_3, .int .i64 a0_4] 24 (0, 0)) (bl_ BK256.out) hb); have n4_ := Aside0.mk (blk_below (g := gb273) (o := .cells #[.slice Ao21 t265.length co21, .int .i64 t268, .int .i64 t269, .int .i64 t270, .int .i64 t271] 28 (0, 0)) (bl_ BK273.out) hb); have n5_ := Aside0.mk (blk_below (g := gb281) (o := .cells #[.slice Ao27 t301.length co27, .int .i64 t277, .int .i64 t278, .int .i64 t279, .int .i64 t280] 28 (0, 0)) (bl_ BK281.out) hb); have n6_ := Aside0.mk (blk_below (g := gb290) (o := .cells #[.slice Ao33 t282.length co33, .int .i64 t285, .int .i64 t286, .int .i64 t287, .int .i64 t288] 28 (0, 0)) (bl_ BK290.out) hb); have n7_ := Aside0.mk (below_step (be_ HB.out) hb); clear HO_274000 HO_282000 HO_291000 BK256 BK273 BK281 BK290 HB; have HO_274000 := n0_; have HO_282000 := n1_; have HO_291000 := n2_; have BK256 := n3_; have BK273 := n4_; have BK281 := n5_; have BK290 := n6_; have HB := n7_; clear n0_ n1_ n2_ n3_ n4_ n5_ n6_ n7_; (try clear hb); (try clear hb2); (try clear hk); (try clear hi)))
                    go_ret
                    exact ⟨by first | rfl | (simp [errW_none, errW_some] <;> rfl) | (simp [*, errW_none, errW_some] <;> rfl), be_ HB.out⟩
                  · rw [if_neg c93] at H
                    have c93b0 : decide (t305 < 0) = false := decide_eq_false c93
                    clear c93
                    by_cases c101 : t305 = t303
                    · rw [if_pos c101] at H
                      have c101b0 : (t305 == t303) = true := beq_iff_eq.mpr c101
                      have c101b1 : (t305 != t303) = false := bne_eq_false_iff_eq.mpr c101
                      clear c101
                      replace H := Option.bind_eq_some_iff.mp H
                      obtain ⟨⟨t306, t309, t310, t311, t312⟩, A1020, H⟩ := H
                      replace H : ((impl_PushBack.f kj60 t306 t309 t310 t311 t312 a1).bind fun bt313 => ((laws_eqQueue.f kj60 bt313.1 bt313.2.1 bt313.2.2.1 bt313.2.2.2.1 bt313.2.2.2.2.1 t265 t268 t269 t270 t271).bind fun t322 => (if t322 = true then (laws_FnExactPushBack.j2 kj60 t303 (bt313.2.2.2.2.2 != t272) t304 t285 t286 t287 t288) else (laws_FnExactPushBack.j2 kj60 t303 true t304 t285 t286 t287 t288)))) = some r := H
                      have A102 := Aside0.mk A1020
                      clear A1020
                      replace H := Option.bind_eq_some_iff.mp H
                      obtain ⟨⟨t313, t316, t317, t318, t319, t320⟩, A1030, H⟩ := H
                      replace H : ((laws_eqQueue.f kj60 t313 t316 t317 t318 t319 t265 t268 t269 t270 t271).bind fun t322 => (if t322 = true then (laws_FnExactPushBack.j2 kj60 t303 (t320 != t272) t304 t285 t286 t287 t288) else (laws_FnExactPushBack.j2 kj60 t303 true t304 t285 t286 t287 t288))) = some r := H
                      have A103 := Aside0.mk A1030
                      clear A1030
                      have HC104 := Aside0.mk H
                      clear H
                      have hnb105 := NB290_256.out
                      have hnc105 := NB256_290.out
                      have hnb106 := NB290_273.out
                      have hnc106 := NB273_290.out
                      have hnb107 := NB290_281.out
                      have hnc107 := NB281_290.out
                      have hcz108_0 : wc.cell? ⟨gb290, 0, none⟩ = some (.slice Ao33 t282.length co33) := (blk_cell BK290.out 0).trans rfl
                      have hcz108_1 : wc.cell? ⟨gb290, 1, none⟩ = some (.int .i64 t285) := (blk_cell BK290.out 1).trans rfl
                      have hcz108_2 : wc.cell? ⟨gb290, 2, none⟩ = some (.int .i64 t286) := (blk_cell BK290.out 2).trans rfl
                      have hcz108_3 : wc.cell? ⟨gb290, 3, none⟩ = some (.int .i64 t287) := (blk_cell BK290.out 3).trans rfl
                      have hcz108_4 : wc.cell? ⟨gb290, 4, none⟩ = some (.int .i64 t288) := (blk_cell BK290.out 4).trans rfl
                      have hfz108_0 := blk_frozen BK290.out 0
                      have hfz108_1 := blk_frozen BK290.out 1
                      have hfz108_2 := blk_frozen BK290.out 2
                      have hfz108_3 := blk_frozen BK290.out 3
                      have hfz108_4 := blk_frozen BK290.out 4
                      go_upto_region 25 with (first | ((with_reducible refine gate_callee (f := 18) rfl ?_); refine goesL_ (some 68) rfl rfl Try.func18 (by kernel_rfl) rfl #[.agg #[.slice Ao33 t282.length co33, .int .i64 t285, .int .i64 t286, .int .i64 t287, .int .i64 t288], .int .i64 1] rfl (by (try simp only [List.map_toArray, List.map_cons, List.map_nil]); first | done | rfl | (simp only [List.length_drop, List.length_take]; rfl)) ?_; (with_reducible refine (laws_markQueue.calls kj60 (fun k_ => some k_ = (.slice Ao33 t282.length co33 : Value).ownBlock) (.slice Ao33 t282.length co33) t282 t285 t286 t287 t288 1 t303 t304 w _ ?side1 ?side2 A91.out).mono ?_); (case side1 => exact be_ HB.out); (case side2 => exact Kd.R_tight rfl HO_291000.out); rintro e w109 ⟨rfl, hy0, hb, hkp⟩; refine ⟨_, rfl, ?_⟩; have n0_ := Aside0.mk (Kd.R_mono (ok' := fun k_ => some k_ ≠ (.slice Ao27 t301.length co27 : Value).ownBlock ∧ some k_ ≠ (.slice Ao33 t282.length co33 : Value).ownBlock) (Kd.R_keptB (HO_274000.out) hkp rn_) rm_); have n1_ := Aside0.mk (Kd.R_mono (ok' := fun k_ => some k_ ≠ (.slice Ao21 t265.length co21 : Value).ownBlock ∧ some k_ ≠ (.slice Ao33 t282.length co33 : Value).ownBlock) (Kd.R_keptB (HO_282000.out) hkp rn_) rm_); have n2_ := Aside0.mk (Kd.R_reok rfl hy0 (fun k_ e_ => HO_291000.out.1 k_ e_)); have n3_ := Aside0.mk (blk_kept (bl_ BK256.out) hkp (fun hs_ => (fun e_ => (Kd.R_ne HO_291000.out BK256.out (by decide)) e_) hs_)); have n4_ := Aside0.mk (blk_kept (bl_ BK273.out) hkp (fun hs_ => (fun e_ => (Kd.R_ne HO_291000.out BK273.out (by decide)) e_) hs_)); have n5_ := Aside0.mk (blk_kept (bl_ BK281.out) hkp (fun hs_ => (fun e_ => (Kd.R_ne HO_291000.out BK281.out (by decide)) e_) hs_)); have n6_ := Aside0.mk (blk_kept (bl_ BK290.out) hkp (fun hs_ => (fun e_ => (Kd.R_ne HO_291000.out BK290.out (by decide)) e_) hs_)); have n7_ := Aside0.mk (hb); clear HO_274000 HO_282000 HO_291000 BK256 BK273 BK281 BK290 HB; have HO_274000 := n0_; have HO_282000 := n1_; have HO_291000 := n2_; have BK256 := n3_; have BK273 := n4_; have BK281 := n5_; have BK290 := n6_; have HB := n7_; clear n0_ n1_ n2_ n3_ n4_ n5_ n6_ n7_; (try clear hb); (try clear hkp); (try clear hy0); obtain ⟨hcz110_0, hcz110_1, hcz110_2, hcz110_3, hcz110_4, hfz110_0, hfz110_1, hfz110_2, hfz110_3, hfz110_4⟩ := cz5_ BK290.out) | ((with_reducible refine gate_callee (f := 19) rfl ?_); refine goesL_ (some 71) rfl rfl Try.func19 (by kernel_rfl) rfl #[.agg #[.slice Ao33 t304.length co33, .int .i64 t285, .int .i64 t286, .int .i64 t287, .int .i64 t288], .int .i64 1] rfl (by (try simp only [List.map_toArray, List.map_cons, List.map_nil]); first | done | (rw [show t304.length = t282.length from (Kd.R_reads' HO_291000.out).1.symm] <;> rfl) | rfl | (simp only [List.length_drop, List.length_take]; rfl)) ?_; (with_reducible refine (laws_heldQueue.calls kj60 _ _ t304 t285 t286 t287 t288 1 t305 _ ?side1 ?side2 A92.out).mono ?_); (case side1 => repeat (first | exact (Kd.R_reads' HO_291000.out).2.2 | (with_reducible refine Kd.C_alloc ?_ _) | (with_reducible refine Kd.C_drewN ?_ _) | (with_reducible refine Kd.C_drew ?_))); (case side2 => rw [show t304.length = t282.length from (Kd.R_reads' HO_291000.out).1.symm]; exact (Kd.R_reads' HO_291000.out).2.1); rintro e w111 ⟨rfl, hb⟩; refine ⟨_, rfl, ?_⟩; have n0_ := Aside0.mk (Kd.R_below (ro_ HO_274000.out) hb); have n1_ := Aside0.mk (Kd.R_below (ro_ HO_282000.out) hb); have n2_ := Aside0.mk (Kd.R_below (ro_ HO_291000.out) hb); have n3_ := Aside0.mk (blk_below (g := gb256) (o := .cells #[.slice A0_0 l0_0.length c0_0, .int .i64 a0_1, .int .i64 a0_2, .int .i64 a0_3, .int .i64 a0_4] 24 (0, 0)) (bl_ BK256.out) hb); have n4_ := Aside0.mk (blk_below (g := gb273) (o := .cells #[.slice Ao21 t265.length co21, .int .i64 t268, .int .i64 t269, .int .i64 t270, .int .i64 t271] 28 (0, 0)) (bl_ BK273.out) hb); have n5_ := Aside0.mk (blk_below (g := gb281) (o := .cells #[.slice Ao27 t301.length co27, .int .i64 t277, .int .i64 t278, .int .i64 t279, .int .i64 t280] 28 (0, 0)) (bl_ BK281.out) hb); have n6_ := Aside0.mk (blk_below (g := gb290) (o := .cells #[.slice Ao33 t282.length co33, .int .i64 t285, .int .i64 t286, .int .i64 t287, .int .i64 t288] 28 (0, 0)) (bl_ BK290.out) hb); have n7_ := Aside0.mk (below_step (be_ HB.out) hb); clear HO_274000 HO_282000 HO_291000 BK256 BK273 BK281 BK290 HB; have HO_274000 := n0_; have HO_282000 := n1_; have HO_291000 := n2_; have BK256 := n3_; have BK273 := n4_; have BK281 := n5_; have BK290 := n6_; have HB := n7_; clear n0_ n1_ n2_ n3_ n4_ n5_ n6_ n7_; (try clear hb); (try clear hb2); (try clear hk); (try clear hi); have hnb112 := NB256_273.out; have hnc112 := NB273_256.out; have hnb113 := NB256_281.out; have hnc113 := NB281_256.out; obtain ⟨hcz114_0, hcz114_1, hcz114_2, hcz114_3, hcz114_4, hfz114_0, hfz114_1, hfz114_2, hfz114_3, hfz114_4⟩ := cz5_ BK256.out) | ((with_reducible refine gate_callee (f := 15) rfl ?_); refine goesL_ (some 79) rfl rfl Try.func15 (by kernel_rfl) rfl #[.agg #[.slice A0_0 l0_0.length c0_0, .int .i64 a0_1, .int .i64 a0_2, .int .i64 a0_3, .int .i64 a0_4]] rfl (by (try simp only [List.map_toArray, List.map_cons, List.map_nil]); first | done | rfl | (simp only [List.length_drop, List.length_take]; rfl)) ?_; (with_reducible refine (laws_toQueue.calls kj60 _ _ l0_0 a0_1 a0_2 a0_3 a0_4 t306 t309 t310 t311 t312 _ ?side1 ?side2 A102.out).mono ?_); (case side1 => repeat (first | exact (Kd.C_below HR0_0.out HB.out) | (with_reducible refine Kd.C_alloc ?_ _) | (with_reducible refine Kd.C_drewN ?_ _) | (with_reducible refine Kd.C_drew ?_))); (case side2 => exact HC0_0.out); rintro e w115 ⟨v307, rfl, ho0, hb⟩; refine ⟨_, rfl, ?_⟩; have n0_ := Aside0.mk (Kd.R_elder' (ro_ HO_274000.out) (Kd.R_base ho0) hb); have n1_ := Aside0.mk (Kd.R_elder' (ro_ HO_282000.out) (Kd.R_base ho0) hb); have n2_ := Aside0.mk (Kd.R_elder' (ro_ HO_291000.out) (Kd.R_base ho0) hb); have n3_ := Aside0.mk (Kd.R_lower (Kd.R_new' (Kd.R_new' (Kd.R_new' ho0 (Kd.R_lt (ro_ HO_274000.out))) (Kd.R_lt (ro_ HO_282000.out))) (Kd.R_lt (ro_ HO_291000.out))) (below_size (be_ HB.out))); have n4_ := Aside0.mk (blk_below (g := gb256) (o := .cells #[.slice A0_0 l0_0.length c0_0, .int .i64 a0_1, .int .i64 a0_2, .int .i64 a0_3, .int .i64 a0_4] 24 (0, 0)) (bl_ BK256.out) hb); have n5_ := Aside0.mk (blk_below (g := gb273) (o := .cells #[.slice Ao21 t265.length co21, .int .i64 t268, .int .i64 t269, .int .i64 t270, .int .i64 t271] 28 (0, 0)) (bl_ BK273.out) hb); have n6_ := Aside0.mk (blk_below (g := gb281) (o := .cells #[.slice Ao27 t301.length co27, .int .i64 t277, .int .i64 t278, .int .i64 t279, .int .i64 t280] 28 (0, 0)) (bl_ BK281.out) hb); have n7_ := Aside0.mk (blk_below (g := gb290) (o := .cells #[.slice Ao33 t282.length co33, .int .i64 t285, .int .i64 t286, .int .i64 t287, .int .i64 t288] 28 (0, 0)) (bl_ BK290.out) hb); have n8_ := Aside0.mk (below_step (be_ HB.out) hb); clear HO_274000 HO_282000 HO_291000 BK256 BK273 BK281 BK290 HB; have HO_274000 := n0_; have HO_282000 := n1_; have HO_291000 := n2_; have HO308 := n3_; have BK256 := n4_; have BK273 := n5_; have BK281 := n6_; have BK290 := n7_; have HB := n8_; clear n0_ n1_ n2_ n3_ n4_ n5_ n6_ n7_ n8_; (try clear hb); (try clear hb2); (try clear hk); (try clear hi); (try clear ho0); obtain ⟨Ao116, co116, eo116⟩ := Kd.R_slice HO308.out; subst eo116) | ((with_reducible refine gate_callee (f := 21) rfl ?_); refine goesL_ (some 81) rfl rfl Try.func21 (by kernel_rfl) rfl #[.agg #[.slice Ao116 t306.length co116, .int .i64 t309, .int .i64 t310, .int .i64 t311, .int .i64 t312], .int .i64 a1] rfl (by (try simp only [List.map_toArray, List.map_cons, List.map_nil]); first | done | rfl | (simp only [List.length_drop, List.length_take]; rfl)) ?_; (with_reducible refine (impl_PushBack.calls kj60 _ _ t306 t309 t310 t311 t312 a1 t313 t316 t317 t318 t319 t320 _ ?side1 ?side2 A103.out).mono ?_); (case side1 => repeat (first | exact (Kd.R_reads' HO308.out).2.2 | (with_reducible refine Kd.C_alloc ?_ _) | (with_reducible refine Kd.C_drewN ?_ _) | (with_reducible refine Kd.C_drew ?_))); (case side2 => exact (Kd.R_reads' HO308.out).2.1); rintro e w117 ⟨v314, rfl, ho0, hb⟩; refine ⟨_, rfl, ?_⟩; have n0_ := Aside0.mk (Kd.R_elder' (ro_ HO_274000.out) (Kd.R_base ho0) hb); have n1_ := Aside0.mk (Kd.R_elder' (ro_ HO_282000.out) (Kd.R_base ho0) hb); have n2_ := Aside0.mk (Kd.R_elder' (ro_ HO_291000.out) (Kd.R_base ho0) hb); have n3_ := Aside0.mk (Kd.R_elder' (ro_ HO308.out) (Kd.R_base ho0) hb); have n4_ := Aside0.mk (Kd.R_lower (Kd.R_new' (Kd.R_new' (Kd.R_new' (Kd.R_new' ho0 (Kd.R_lt (ro_ HO_274000.out))) (Kd.R_lt (ro_ HO_282000.out))) (Kd.R_lt (ro_ HO_291000.out))) (Kd.R_lt (ro_ HO308.out))) (below_size (be_ HB.out))); have n5_ := Aside0.mk (blk_below (g := gb256) (o := .cells #[.slice A0_0 l0_0.length c0_0, .int .i64 a0_1, .int .i64 a0_2, .int .i64 a0_3, .int .i64 a0_4] 24 (0, 0)) (bl_ BK256.out) hb); have n6_ := Aside0.mk (blk_below (g := gb273) (o := .cells #[.slice Ao21 t265.length co21, .int .i64 t268, .int .i64 t269, .int .i64 t270, .int .i64 t271] 28 (0, 0)) (bl_ BK273.out) hb); have n7_ := Aside0.mk (blk_below (g := gb281) (o := .cells #[.slice Ao27 t301.length co27, .int .i64 t277, .int .i64 t278, .int .i64 t279, .int .i64 t280] 28 (0, 0)) (bl_ BK281.out) hb); have n8_ := Aside0.mk (blk_below (g := gb290) (o := .cells #[.slice Ao33 t282.length co33, .int .i64 t285, .int .i64 t286, .int .i64 t287, .int .i64 t288] 28 (0, 0)) (bl_ BK290.out) hb); have n9_ := Aside0.mk (below_step (be_ HB.out) hb); clear HO_274000 HO_282000 HO_291000 HO308 BK256 BK273 BK281 BK290 HB; have HO_274000 := n0_; have HO_282000 := n1_; have HO_291000 := n2_; have HO308 := n3_; have HO315 := n4_; have BK256 := n5_; have BK273 := n6_; have BK281 := n7_; have BK290 := n8_; have HB := n9_; clear n0_ n1_ n2_ n3_ n4_ n5_ n6_ n7_ n8_ n9_; (try clear hb); (try clear hb2); (try clear hk); (try clear hi); (try clear ho0)) | ((with_reducible refine gate_dst (N := 14) rfl ?_); refine box_event ?hg (N := 14) ?hd (cs := #[.slice none 0 0, .int .i64 0, .int .i64 0, .int .i64 0, .int .i64 0]) (t := 28) ?hr ?_; (case hd => rfl); (case hg => rfl); (case hr => first | (go_simp; done) | (go_simp; rfl)); intro gb321 hg w118 hbox hb; have n0_ := Aside0.mk (Kd.R_below (ro_ HO_274000.out) hb); have n1_ := Aside0.mk (Kd.R_below (ro_ HO_282000.out) hb); have n2_ := Aside0.mk (Kd.R_below (ro_ HO_291000.out) hb); have n3_ := Aside0.mk (Kd.R_below (ro_ HO308.out) hb); have n4_ := Aside0.mk (Kd.R_below (ro_ HO315.out) hb); have n5_ := Aside0.mk (blk_below (g := gb256) (o := .cells #[.slice A0_0 l0_0.length c0_0, .int .i64 a0_1, .int .i64 a0_2, .int .i64 a0_3, .int .i64 a0_4] 24 (0, 0)) (bl_ BK256.out) hb); have n6_ := Aside0.mk (blk_below (g := gb273) (o := .cells #[.slice Ao21 t265.length co21, .int .i64 t268, .int .i64 t269, .int .i64 t270, .int .i64 t271] 28 (0, 0)) (bl_ BK273.out) hb); have n7_ := Aside0.mk (blk_below (g := gb281) (o := .cells #[.slice Ao27 t301.length co27, .int .i64 t277, .int .i64 t278, .int .i64 t279, .int .i64 t280] 28 (0, 0)) (bl_ BK281.out) hb); have n8_ := Aside0.mk (blk_below (g := gb290) (o := .cells #[.slice Ao33 t282.length co33, .int .i64 t285, .int .i64 t286, .int .i64 t287, .int .i64 t288] 28 (0, 0)) (bl_ BK290.out) hb); have n9_ := Aside0.mk (below_step (be_ HB.out) hb); have n10_ := Aside0.mk (hbox); have n11_ := Aside0.mk ((by rw [hg]; exact (below_size (be_ HB.out)) : w.heap.size ≤ gb321)); have n12_ := Aside0.mk ((by rw [hg]; exact (below_size (be_ HB.out)) : w.heap.size ≤ gb321)); have n13_ := Aside0.mk ((by rw [hg]; exact Nat.ne_of_lt (blk_lt (g := gb256) (o := .cells #[.slice A0_0 l0_0.length c0_0, .int .i64 a0_1, .int .i64 a0_2, .int .i64 a0_3, .int .i64 a0_4] 24 (0, 0)) (bl_ BK256.out)) : gb256 ≠ gb321)); have n14_ := Aside0.mk ((by rw [hg]; exact Nat.ne_of_gt (blk_lt (g := gb256) (o := .cells #[.slice A0_0 l0_0.length c0_0, .int .i64 a0_1, .int .i64 a0_2, .int .i64 a0_3, .int .i64 a0_4] 24 (0, 0)) (bl_ BK256.out)) : gb321 ≠ gb256)); have n15_ := Aside0.mk ((by rw [hg]; exact Nat.ne_of_lt (blk_lt (g := gb273) (o := .cells #[.slice Ao21 t265.length co21, .int .i64 t268, .int .i64 t269, .int .i64 t270, .int .i64 t271] 28 (0, 0)) (bl_ BK273.out)) : gb273 ≠ gb321)); have n16_ := Aside0.mk ((by rw [hg]; exact Nat.ne_of_gt (blk_lt (g := gb273) (o := .cells #[.slice Ao21 t265.length co21, .int .i64 t268, .int .i64 t269, .int .i64 t270, .int .i64 t271] 28 (0, 0)) (bl_ BK273.out)) : gb321 ≠ gb273)); have n17_ := Aside0.mk ((by rw [hg]; exact Nat.ne_of_lt (blk_lt (g := gb281) (o := .cells #[.slice Ao27 t301.length co27, .int .i64 t277, .int .i64 t278, .int .i64 t279, .int .i64 t280] 28 (0, 0)) (bl_ BK281.out)) : gb281 ≠ gb321)); have n18_ := Aside0.mk ((by rw [hg]; exact Nat.ne_of_gt (blk_lt (g := gb281) (o := .cells #[.slice Ao27 t301.length co27, .int .i64 t277, .int .i64 t278, .int .i64 t279, .int .i64 t280] 28 (0, 0)) (bl_ BK281.out)) : gb321 ≠ gb281)); have n19_ := Aside0.mk ((by rw [hg]; exact Nat.ne_of_lt (blk_lt (g := gb290) (o := .cells #[.slice Ao33 t282.length co33, .int .i64 t285, .int .i64 t286, .int .i64 t287, .int .i64 t288] 28 (0, 0)) (bl_ BK290.out)) : gb290 ≠ gb321)); have n20_ := Aside0.mk ((by rw [hg]; exact Nat.ne_of_gt (blk_lt (g := gb290) (o := .cells #[.slice Ao33 t282.length co33, .int .i64 t285, .int .i64 t286, .int .i64 t287, .int .i64 t288] 28 (0, 0)) (bl_ BK290.out)) : gb321 ≠ gb290)); clear HO_274000 HO_282000 HO_291000 HO308 HO315 BK256 BK273 BK281 BK290 HB; have HO_274000 := n0_; have HO_282000 := n1_; have HO_291000 := n2_; have HO308 := n3_; have HO315 := n4_; have BK256 := n5_; have BK273 := n6_; have BK281 := n7_; have BK290 := n8_; have HB := n9_; have BK321 := n10_; have GW321 := n11_; have GE321 := n12_; have NB256_321 := n13_; have NB321_256 := n14_; have NB273_321 := n15_; have NB321_273 := n16_; have NB281_321 := n17_; have NB321_281 := n18_; have NB290_321 := n19_; have NB321_290 := n20_; clear n0_ n1_ n2_ n3_ n4_ n5_ n6_ n7_ n8_ n9_ n10_ n11_ n12_ n13_ n14_ n15_ n16_ n17_ n18_ n19_ n20_; clear hb hbox hg; obtain ⟨Ao119, co119, eo119⟩ := Kd.R_slice HO315.out; subst eo119; have hnb120 := NB321_256.out; have hnc120 := NB256_321.out; have hnb121 := NB321_273.out; have hnc121 := NB273_321.out; have hnb122 := NB321_281.out; have hnc122 := NB281_321.out; have hnb123 := NB321_290.out; have hnc123 := NB290_321.out; obtain ⟨hcz124_0, hcz124_1, hcz124_2, hcz124_3, hcz124_4, hfz124_0, hfz124_1, hfz124_2, hfz124_3, hfz124_4⟩ := cz5_ BK321.out))
                      (try simp only [Act.put, List.setIfInBounds_toArray, List.set_cons_zero, List.set_cons_succ])
                      go_cut [92] (fun zv92 wc => ∃ (kq : Nat) (x92_103 : Bool), zv92 = .bool x92_103 ∧ Aside0 (laws_FnExactPushBack.j2 kq t303 x92_103 t304 t285 t286 t287 t288 = some r) ∧ Aside0 (kq ≤ kj60) ∧ Aside0 (Kd.R k65 65 wc w.heap.size (fun k_ => some k_ ≠ ((.slice Ao27 t301.length co27) : Value).ownBlock ∧ some k_ ≠ ((.slice Ao33 t282.length co33) : Value).ownBlock ∧ some k_ ≠ ((.slice Ao119 t313.length co119) : Value).ownBlock) (.slice Ao21 t265.length co21) t265) ∧ Aside0 (Kd.R k65 65 wc w.heap.size (fun k_ => some k_ ≠ ((.slice Ao21 t265.length co21) : Value).ownBlock ∧ some k_ ≠ ((.slice Ao33 t282.length co33) : Value).ownBlock ∧ some k_ ≠ ((.slice Ao119 t313.length co119) : Value).ownBlock) (.slice Ao27 t301.length co27) t301) ∧ Aside0 (Kd.R k65 65 wc w.heap.size (fun k_ => some k_ ≠ ((.slice Ao21 t265.length co21) : Value).ownBlock ∧ some k_ ≠ ((.slice Ao27 t301.length co27) : Value).ownBlock ∧ some k_ ≠ ((.slice Ao119 t313.length co119) : Value).ownBlock) (.slice Ao33 t282.length co33) t304) ∧ Aside0 (Kd.R k65 65 wc w.heap.size (fun k_ => some k_ ≠ ((.slice Ao21 t265.length co21) : Value).ownBlock ∧ some k_ ≠ ((.slice Ao27 t301.length co27) : Value).ownBlock ∧ some k_ ≠ ((.slice Ao33 t282.length co33) : Value).ownBlock) (.slice Ao119 t313.length co119) t313) ∧ Aside0 (wc.heap[gb256]? = some (.cells #[(.slice A0_0 l0_0.length c0_0), .int .i64 a0_1, .int .i64 a0_2, .int .i64 a0_3, .int .i64 a0_4] 24 (0, 0))) ∧ Aside0 (wc.heap[gb273]? = some (.cells #[(.slice Ao21 t265.length co21), .int .i64 t268, .int .i64 t269, .int .i64 t270, .int .i64 t271] 28 (0, 0))) ∧ Aside0 (wc.heap[gb281]? = some (.cells #[(.slice Ao27 t301.length co27), .int .i64 t277, .int .i64 t278, .int .i64 t279, .int .i64 t280] 28 (0, 0))) ∧ Aside0 (wc.heap[gb290]? = some (.cells #[(.slice Ao33 t282.length co33), .int .i64 t285, .int .i64 t286, .int .i64 t287, .int .i64 t288] 28 (0, 0))) ∧ Aside0 (wc.heap[gb321]? = some (.cells #[(.slice Ao119 t313.length co119), .int .i64 t316, .int .i64 t317, .int .i64 t318, .int .i64 t319] 28 (0, 0))) ∧ Aside0 (Below w.heap.size w wc))
                      case first =>
                        have H := HC104.out
                        clear HC104
                        replace H := Option.bind_eq_some_iff.mp H
                        obtain ⟨t322, A1250, H⟩ := H
                        replace H : (if t322 = true then (laws_FnExactPushBack.j2 kj60 t303 (t320 != t272) t304 t285 t286 t287 t288) else (laws_FnExactPushBack.j2 kj60 t303 true t304 t285 t286 t287 t288)) = some r := H
                        have A125 := Aside0.mk A1250
                        clear A1250
                        by_cases c126 : t322 = true
                        · subst c126
                          have H1 : (laws_FnExactPushBack.j2 kj60 t303 (t320 != t272) t304 t285 t286 t287 t288) = some r := by rw [if_pos rfl] at H; exact H
                          clear H
                          have H := H1
                          clear H1
                          have H' := Aside0.mk H
                          clear H
                          have hnb127 := NB321_256.out
                          have hnc127 := NB256_321.out
                          have hnb128 := NB321_273.out
                          have hnc128 := NB273_321.out
                          have hnb129 := NB321_281.out
                          have hnc129 := NB281_321.out
                          have hnb130 := NB321_290.out
                          have hnc130 := NB290_321.out
                          have hcz131_0 : w118.cell? ⟨gb321, 0, none⟩ = some (.slice none 0 0) := (blk_cell BK321.out 0).trans rfl
                          have hcz131_1 : w118.cell? ⟨gb321, 1, none⟩ = some (.int .i64 0) := (blk_cell BK321.out 1).trans rfl
                          have hcz131_2 : w118.cell? ⟨gb321, 2, none⟩ = some (.int .i64 0) := (blk_cell BK321.out 2).trans rfl
                          have hcz131_3 : w118.cell? ⟨gb321, 3, none⟩ = some (.int .i64 0) := (blk_cell BK321.out 3).trans rfl
                          have hcz131_4 : w118.cell? ⟨gb321, 4, none⟩ = some (.int .i64 0) := (blk_cell BK321.out 4).trans rfl
                          have hfz131_0 := blk_frozen BK321.out 0
                          have hfz131_1 := blk_frozen BK321.out 1
                          have hfz131_2 := blk_frozen BK321.out 2
                          have hfz131_3 := blk_frozen BK321.out 3
                          have hfz131_4 := blk_frozen BK321.out 4
                          have hnb132 := NB273_256.out
                          have hnc132 := NB256_273.out
                          have hnb133 := NB273_281.out
                          have hnc133 := NB281_273.out
                          have hnb134 := NB273_290.out
                          have hnc134 := NB290_273.out
                          have hcz135_0 : w118.cell? ⟨gb273, 0, none⟩ = some (.slice Ao21 t265.length co21) := (blk_cell BK273.out 0).trans rfl
                          have hcz135_1 : w118.cell? ⟨gb273, 1, none⟩ = some (.int .i64 t268) := (blk_cell BK273.out 1).trans rfl
                          have hcz135_2 : w118.cell? ⟨gb273, 2, none⟩ = some (.int .i64 t269) := (blk_cell BK273.out 2).trans rfl
                          have hcz135_3 : w118.cell? ⟨gb273, 3, none⟩ = some (.int .i64 t270) := (blk_cell BK273.out 3).trans rfl
                          have hcz135_4 : w118.cell? ⟨gb273, 4, none⟩ = some (.int .i64 t271) := (blk_cell BK273.out 4).trans rfl
                          have hfz135_0 := blk_frozen BK273.out 0
                          have hfz135_1 := blk_frozen BK273.out 1
                          have hfz135_2 := blk_frozen BK273.out 2
                          have hfz135_3 := blk_frozen BK273.out 3
                          have hfz135_4 := blk_frozen BK273.out 4
                          go_wp2_with (first | ((with_reducible refine gate_callee (f := 17) rfl ?_); refine goesL_ (some 86) rfl rfl Try.func17 (by kernel_rfl) rfl #[.agg #[.slice Ao119 t313.length co119, .int .i64 t316, .int .i64 t317, .int .i64 t318, .int .i64 t319], .agg #[.slice Ao21 t265.length co21, .int .i64 t268, .int .i64 t269, .int .i64 t270, .int .i64 t271]] rfl (by (try simp only [List.map_toArray, List.map_cons, List.map_nil]); first | done | rfl | (simp only [List.length_drop, List.length_take]; rfl)) ?_; (with_reducible refine (laws_eqQueue.calls kj60 _ _ t313 t316 t317 t318 t319 _ _ t265 t268 t269 t270 t271 true _ ?side1 ?side2 ?side3 ?side4 A125.out).mono ?_); (case side1 => refine (Kd.R_reads' (e := 65) (base := w.heap.size) (ok := fun k_ => ((((True ∧ some k_ ≠ (.slice Ao21 t265.length co21 : Value).ownBlock) ∧ some k_ ≠ (.slice Ao27 t301.length co27 : Value).ownBlock) ∧ some k_ ≠ (.slice Ao33 t282.length co33 : Value).ownBlock) ∧ some k_ ≠ (.slice Ao116 t306.length co116 : Value).ownBlock)) (n := t313.length) (c := co119) ?_).2.2; exact (by (with_reducible repeat (first | apply Kd.R_alloc | apply Kd.R_drewN | apply Kd.R_drew)); exact (Kd.R_mono (Kd.R_far (p := ⟨gb321, 4, none⟩) (Kd.R_far (p := ⟨gb321, 3, none⟩) (Kd.R_far (p := ⟨gb321, 2, none⟩) (Kd.R_far (p := ⟨gb321, 1, none⟩) (Kd.R_far (p := ⟨gb321, 0, none⟩) (Kd.R_types HO315.out BK321.out (by decide)) (fun _ hk => hk.2) (.slice Ao119 t313.length co119)) (fun _ hk => hk.2) (.int .i64 t316)) (fun _ hk => hk.2) (.int .i64 t317)) (fun _ hk => hk.2) (.int .i64 t318)) (fun _ hk => hk.2) (.int .i64 t319)) (fun _ h_ => h_.1)))); (case side2 => exact (Kd.R_reads' HO315.out).2.1); (case side3 => refine (Kd.R_reads' (e := 65) (base := w.heap.size) (ok := fun k_ => (((some k_ ≠ (.slice Ao27 t301.length co27 : Value).ownBlock ∧ some k_ ≠ (.slice Ao33 t282.length co33 : Value).ownBlock) ∧ some k_ ≠ (.slice Ao116 t306.length co116 : Value).ownBlock) ∧ some k_ ≠ (.slice Ao119 t313.length co119 : Value).ownBlock)) (n := t265.length) (c := co21) ?_).2.2; exact (by (with_reducible repeat (first | apply Kd.R_alloc | apply Kd.R_drewN | apply Kd.R_drew)); exact (Kd.R_mono (Kd.R_far (p := ⟨gb321, 4, none⟩) (Kd.R_far (p := ⟨gb321, 3, none⟩) (Kd.R_far (p := ⟨gb321, 2, none⟩) (Kd.R_far (p := ⟨gb321, 1, none⟩) (Kd.R_far (p := ⟨gb321, 0, none⟩) (Kd.R_types HO_274000.out BK321.out (by decide)) (fun _ hk => hk.2) (.slice Ao119 t313.length co119)) (fun _ hk => hk.2) (.int .i64 t316)) (fun _ hk => hk.2) (.int .i64 t317)) (fun _ hk => hk.2) (.int .i64 t318)) (fun _ hk => hk.2) (.int .i64 t319)) (fun _ h_ => h_.1)))); (case side4 => exact (Kd.R_reads' HO_274000.out).2.1); rintro e w136 ⟨rfl, hb⟩; refine ⟨_, rfl, ?_⟩; have n0_ := Aside0.mk (Kd.R_below (by (with_reducible repeat (first | apply Kd.R_alloc | apply Kd.R_drewN | apply Kd.R_drew)); exact (Kd.R_mono (Kd.R_far (p := ⟨gb321, 4, none⟩) (Kd.R_far (p := ⟨gb321, 3, none⟩) (Kd.R_far (p := ⟨gb321, 2, none⟩) (Kd.R_far (p := ⟨gb321, 1, none⟩) (Kd.R_far (p := ⟨gb321, 0, none⟩) (Kd.R_types HO_274000.out BK321.out (by decide)) (fun _ hk => hk.2) (.slice Ao119 t313.length co119)) (fun _ hk => hk.2) (.int .i64 t316)) (fun _ hk => hk.2) (.int .i64 t317)) (fun _ hk => hk.2) (.int .i64 t318)) (fun _ hk => hk.2) (.int .i64 t319)) (fun _ h_ => h_.1))) hb); have n1_ := Aside0.mk (Kd.R_below (by (with_reducible repeat (first | apply Kd.R_alloc | apply Kd.R_drewN | apply Kd.R_drew)); exact (Kd.R_mono (Kd.R_far (p := ⟨gb321, 4, none⟩) (Kd.R_far (p := ⟨gb321, 3, none⟩) (Kd.R_far (p := ⟨gb321, 2, none⟩) (Kd.R_far (p := ⟨gb321, 1, none⟩) (Kd.R_far (p := ⟨gb321, 0, none⟩) (Kd.R_types HO_282000.out BK321.out (by decide)) (fun _ hk => hk.2) (.slice Ao119 t313.length co119)) (fun _ hk => hk.2) (.int .i64 t316)) (fun _ hk => hk.2) (.int .i64 t317)) (fun _ hk => hk.2) (.int .i64 t318)) (fun _ hk => hk.2) (.int .i64 t319)) (fun _ h_ => h_.1))) hb); have n2_ := Aside0.mk (Kd.R_below (by (with_reducible repeat (first | apply Kd.R_alloc | apply Kd.R_drewN | apply Kd.R_drew)); exact (Kd.R_mono (Kd.R_far (p := ⟨gb321, 4, none⟩) (Kd.R_far (p := ⟨gb321, 3, none⟩) (Kd.R_far (p := ⟨gb321, 2, none⟩) (Kd.R_far (p := ⟨gb321, 1, none⟩) (Kd.R_far (p := ⟨gb321, 0, none⟩) (Kd.R_types HO_291000.out BK321.out (by decide)) (fun _ hk => hk.2) (.slice Ao119 t313.length co119)) (fun _ hk => hk.2) (.int .i64 t316)) (fun _ hk => hk.2) (.int .i64 t317)) (fun _ hk => hk.2) (.int .i64 t318)) (fun _ hk => hk.2) (.int .i64 t319)) (fun _ h_ => h_.1))) hb); have n3_ := Aside0.mk (Kd.R_below (by (with_reducible repeat (first | apply Kd.R_alloc | apply Kd.R_drewN | apply Kd.R_drew)); exact (Kd.R_mono (Kd.R_far (p := ⟨gb321, 4, none⟩) (Kd.R_far (p := ⟨gb321, 3, none⟩) (Kd.R_far (p := ⟨gb321, 2, none⟩) (Kd.R_far (p := ⟨gb321, 1, none⟩) (Kd.R_far (p := ⟨gb321, 0, none⟩) (Kd.R_types HO308.out BK321.out (by decide)) (fun _ hk => hk.2) (.slice Ao119 t313.length co119)) (fun _ hk => hk.2) (.int .i64 t316)) (fun _ hk => hk.2) (.int .i64 t317)) (fun _ hk => hk.2) (.int .i64 t318)) (fun _ hk => hk.2) (.int .i64 t319)) (fun _ h_ => h_.1))) hb); have n4_ := Aside0.mk (Kd.R_below (by (with_reducible repeat (first | apply Kd.R_alloc | apply Kd.R_drewN | apply Kd.R_drew)); exact (Kd.R_mono (Kd.R_far (p := ⟨gb321, 4, none⟩) (Kd.R_far (p := ⟨gb321, 3, none⟩) (Kd.R_far (p := ⟨gb321, 2, none⟩) (Kd.R_far (p := ⟨gb321, 1, none⟩) (Kd.R_far (p := ⟨gb321, 0, none⟩) (Kd.R_types HO315.out BK321.out (by decide)) (fun _ hk => hk.2) (.slice Ao119 t313.length co119)) (fun _ hk => hk.2) (.int .i64 t316)) (fun _ hk => hk.2) (.int .i64 t317)) (fun _ hk => hk.2) (.int .i64 t318)) (fun _ hk => hk.2) (.int .i64 t319)) (fun _ h_ => h_.1))) hb); have n5_ := Aside0.mk (blk_below (g := gb256) (o := .cells #[.slice A0_0 l0_0.length c0_0, .int .i64 a0_1, .int .i64 a0_2, .int .i64 a0_3, .int .i64 a0_4] 24 (0, 0)) (by refine bl_ ?_; refine blk_far ?_ NB256_321.out _; refine bl_ ?_; refine blk_far ?_ NB256_321.out _; refine bl_ ?_; refine blk_far ?_ NB256_321.out _; refine bl_ ?_; refine blk_far ?_ NB256_321.out _; refine bl_ ?_; refine blk_far ?_ NB256_321.out _; refine bl_ ?_; exact BK256.out) hb); have n6_ := Aside0.mk (blk_below (g := gb273) (o := .cells #[.slice Ao21 t265.length co21, .int .i64 t268, .int .i64 t269, .int .i64 t270, .int .i64 t271] 28 (0, 0)) (by refine bl_ ?_; refine blk_far ?_ NB273_321.out _; refine bl_ ?_; refine blk_far ?_ NB273_321.out _; refine bl_ ?_; refine blk_far ?_ NB273_321.out _; refine bl_ ?_; refine blk_far ?_ NB273_321.out _; refine bl_ ?_; refine blk_far ?_ NB273_321.out _; refine bl_ ?_; exact BK273.out) hb); have n7_ := Aside0.mk (blk_below (g := gb281) (o := .cells #[.slice Ao27 t301.length co27, .int .i64 t277, .int .i64 t278, .int .i64 t279, .int .i64 t280] 28 (0, 0)) (by refine bl_ ?_; refine blk_far ?_ NB281_321.out _; refine bl_ ?_; refine blk_far ?_ NB281_321.out _; refine bl_ ?_; refine blk_far ?_ NB281_321.out _; refine bl_ ?_; refine blk_far ?_ NB281_321.out _; refine bl_ ?_; refine blk_far ?_ NB281_321.out _; refine bl_ ?_; exact BK281.out) hb); have n8_ := Aside0.mk (blk_below (g := gb290) (o := .cells #[.slice Ao33 t282.length co33, .int .i64 t285, .int .i64 t286, .int .i64 t287, .int .i64 t288] 28 (0, 0)) (by refine bl_ ?_; refine blk_far ?_ NB290_321.out _; refine bl_ ?_; refine blk_far ?_ NB290_321.out _; refine bl_ ?_; refine blk_far ?_ NB290_321.out _; refine bl_ ?_; refine blk_far ?_ NB290_321.out _; refine bl_ ?_; refine blk_far ?_ NB290_321.out _; refine bl_ ?_; exact BK290.out) hb); have n9_ := Aside0.mk (blk_below (g := gb321) (o := .cells #[.slice Ao119 t313.length co119, .int .i64 t316, .int .i64 t317, .int .i64 t318, .int .i64 t319] 28 (0, 0)) (by refine bl_ ?_; refine blk_put (cs := #[.slice Ao119 t313.length co119, .int .i64 t316, .int .i64 t317, .int .i64 t318, .int .i64 0]) ?_ 4 _ rfl; refine bl_ ?_; refine blk_put (cs := #[.slice Ao119 t313.length co119, .int .i64 t316, .int .i64 t317, .int .i64 0, .int .i64 0]) ?_ 3 _ rfl; refine bl_ ?_; refine blk_put (cs := #[.slice Ao119 t313.length co119, .int .i64 t316, .int .i64 0, .int .i64 0, .int .i64 0]) ?_ 2 _ rfl; refine bl_ ?_; refine blk_put (cs := #[.slice Ao119 t313.length co119, .int .i64 0, .int .i64 0, .int .i64 0, .int .i64 0]) ?_ 1 _ rfl; refine bl_ ?_; refine blk_put (cs := #[.slice none 0 0, .int .i64 0, .int .i64 0, .int .i64 0, .int .i64 0]) ?_ 0 _ rfl; refine bl_ ?_; exact BK321.out) hb); have n10_ := Aside0.mk (below_step (be_ HB.out) hb); clear HO_274000 HO_282000 HO_291000 HO308 HO315 BK256 BK273 BK281 BK290 BK321 HB; have HO_274000 := n0_; have HO_282000 := n1_; have HO_291000 := n2_; have HO308 := n3_; have HO315 := n4_; have BK256 := n5_; have BK273 := n6_; have BK281 := n7_; have BK290 := n8_; have BK321 := n9_; have HB := n10_; clear n0_ n1_ n2_ n3_ n4_ n5_ n6_ n7_ n8_ n9_ n10_; (try clear hb); (try clear hb2); (try clear hk); (try clear hi)))
                          go_meet
                          case rel => exact ⟨_, ((t320 != t272)), (by first | rfl | (simp; done) | (simp [*]; done)), H', ⟨by have := HJ11.out; have := HJ60.out; first | omega | exact Nat.le_refl _⟩, ⟨by (try simp only [hl282000_60]); (with_reducible repeat (first | apply Kd.R_alloc | apply Kd.R_drewN | apply Kd.R_drew)); exact Kd.R_mono HO_274000.out (fun _ hk => ⟨hk.1.1.1, ⟨hk.1.1.2, hk.2⟩⟩)⟩, ⟨by (try simp only [hl282000_60]); (with_reducible repeat (first | apply Kd.R_alloc | apply Kd.R_drewN | apply Kd.R_drew)); exact Kd.R_mono HO_282000.out (fun _ hk => ⟨hk.1.1.1, ⟨hk.1.1.2, hk.2⟩⟩)⟩, ⟨by (try simp only [hl282000_60]); (with_reducible repeat (first | apply Kd.R_alloc | apply Kd.R_drewN | apply Kd.R_drew)); exact Kd.R_mono HO_291000.out (fun _ hk => ⟨hk.1.1.1, ⟨hk.1.1.2, hk.2⟩⟩)⟩, ⟨by (try simp only [hl282000_60]); (with_reducible repeat (first | apply Kd.R_alloc | apply Kd.R_drewN | apply Kd.R_drew)); exact Kd.R_mono HO315.out (fun _ hk => ⟨hk.1.1.1.2, ⟨hk.1.1.2, hk.1.2⟩⟩)⟩, ⟨by (try simp only [hl282000_60]); refine bl_ ?_; exact BK256.out⟩, ⟨by (try simp only [hl282000_60]); refine bl_ ?_; exact BK273.out⟩, ⟨by (try simp only [hl282000_60]); refine bl_ ?_; exact BK281.out⟩, ⟨by (try simp only [hl282000_60]); refine bl_ ?_; exact BK290.out⟩, ⟨by (try simp only [hl282000_60]); refine bl_ ?_; exact BK321.out⟩, ⟨be_ HB.out⟩⟩
                        · replace c126 := Bool.eq_false_iff.mpr c126
                          subst c126
                          have H1 : (laws_FnExactPushBack.j2 kj60 t303 true t304 t285 t286 t287 t288) = some r := by rw [if_neg (show ¬ (false = true) by decide)] at H; exact H
                          clear H
                          have H := H1
                          clear H1
                          have H' := Aside0.mk H
                          clear H
                          have hnb137 := NB321_256.out
                          have hnc137 := NB256_321.out
                          have hnb138 := NB321_273.out
                          have hnc138 := NB273_321.out
                          have hnb139 := NB321_281.out
                          have hnc139 := NB281_321.out
                          have hnb140 := NB321_290.out
                          have hnc140 := NB290_321.out
                          have hcz141_0 : w118.cell? ⟨gb321, 0, none⟩ = some (.slice none 0 0) := (blk_cell BK321.out 0).trans rfl
                          have hcz141_1 : w118.cell? ⟨gb321, 1, none⟩ = some (.int .i64 0) := (blk_cell BK321.out 1).trans rfl
                          have hcz141_2 : w118.cell? ⟨gb321, 2, none⟩ = some (.int .i64 0) := (blk_cell BK321.out 2).trans rfl
                          have hcz141_3 : w118.cell? ⟨gb321, 3, none⟩ = some (.int .i64 0) := (blk_cell BK321.out 3).trans rfl
                          have hcz141_4 : w118.cell? ⟨gb321, 4, none⟩ = some (.int .i64 0) := (blk_cell BK321.out 4).trans rfl
                          have hfz141_0 := blk_frozen BK321.out 0
                          have hfz141_1 := blk_frozen BK321.out 1
                          have hfz141_2 := blk_frozen BK321.out 2
                          have hfz141_3 := blk_frozen BK321.out 3
                          have hfz141_4 := blk_frozen BK321.out 4
                          have hnb142 := NB273_256.out
                          have hnc142 := NB256_273.out
                          have hnb143 := NB273_281.out
                          have hnc143 := NB281_273.out
                          have hnb144 := NB273_290.out
                          have hnc144 := NB290_273.out
                          have hcz145_0 : w118.cell? ⟨gb273, 0, none⟩ = some (.slice Ao21 t265.length co21) := (blk_cell BK273.out 0).trans rfl
                          have hcz145_1 : w118.cell? ⟨gb273, 1, none⟩ = some (.int .i64 t268) := (blk_cell BK273.out 1).trans rfl
                          have hcz145_2 : w118.cell? ⟨gb273, 2, none⟩ = some (.int .i64 t269) := (blk_cell BK273.out 2).trans rfl
                          have hcz145_3 : w118.cell? ⟨gb273, 3, none⟩ = some (.int .i64 t270) := (blk_cell BK273.out 3).trans rfl
                          have hcz145_4 : w118.cell? ⟨gb273, 4, none⟩ = some (.int .i64 t271) := (blk_cell BK273.out 4).trans rfl
                          have hfz145_0 := blk_frozen BK273.out 0
                          have hfz145_1 := blk_frozen BK273.out 1
                          have hfz145_2 := blk_frozen BK273.out 2
                          have hfz145_3 := blk_frozen BK273.out 3
                          have hfz145_4 := blk_frozen BK273.out 4
                          go_wp2_with (first | ((with_reducible refine gate_callee (f := 17) rfl ?_); refine goesL_ (some 86) rfl rfl Try.func17 (by kernel_rfl) rfl #[.agg #[.slice Ao119 t313.length co119, .int .i64 t316, .int .i64 t317, .int .i64 t318, .int .i64 t319], .agg #[.slice Ao21 t265.length co21, .int .i64 t268, .int .i64 t269, .int .i64 t270, .int .i64 t271]] rfl (by (try simp only [List.map_toArray, List.map_cons, List.map_nil]); first | done | rfl | (simp only [List.length_drop, List.length_take]; rfl)) ?_; (with_reducible refine (laws_eqQueue.calls kj60 _ _ t313 t316 t317 t318 t319 _ _ t265 t268 t269 t270 t271 false _ ?side1 ?side2 ?side3 ?side4 A125.out).mono ?_); (case side1 => refine (Kd.R_reads' (e := 65) (base := w.heap.size) (ok := fun k_ => ((((True ∧ some k_ ≠ (.slice Ao21 t265.length co21 : Value).ownBlock) ∧ some k_ ≠ (.slice Ao27 t301.length co27 : Value).ownBlock) ∧ some k_ ≠ (.slice Ao33 t282.length co33 : Value).ownBlock) ∧ some k_ ≠ (.slice Ao116 t306.length co116 : Value).ownBlock)) (n := t313.length) (c := co119) ?_).2.2; exact (by (with_reducible repeat (first | apply Kd.R_alloc | apply Kd.R_drewN | apply Kd.R_drew)); exact (Kd.R_mono (Kd.R_far (p := ⟨gb321, 4, none⟩) (Kd.R_far (p := ⟨gb321, 3, none⟩) (Kd.R_far (p := ⟨gb321, 2, none⟩) (Kd.R_far (p := ⟨gb321, 1, none⟩) (Kd.R_far (p := ⟨gb321, 0, none⟩) (Kd.R_types HO315.out BK321.out (by decide)) (fun _ hk => hk.2) (.slice Ao119 t313.length co119)) (fun _ hk => hk.2) (.int .i64 t316)) (fun _ hk => hk.2) (.int .i64 t317)) (fun _ hk => hk.2) (.int .i64 t318)) (fun _ hk => hk.2) (.int .i64 t319)) (fun _ h_ => h_.1)))); (case side2 => exact (Kd.R_reads' HO315.out).2.1); (case side3 => refine (Kd.R_reads' (e := 65) (base := w.heap.size) (ok := fun k_ => (((some k_ ≠ (.slice Ao27 t301.length co27 : Value).ownBlock ∧ some k_ ≠ (.slice Ao33 t282.length co33 : Value).ownBlock) ∧ some k_ ≠ (.slice Ao116 t306.length co116 : Value).ownBlock) ∧ some k_ ≠ (.slice Ao119 t313.length co119 : Value).ownBlock)) (n := t265.length) (c := co21) ?_).2.2; exact (by (with_reducible repeat (first | apply Kd.R_alloc | apply Kd.R_drewN | apply Kd.R_drew)); exact (Kd.R_mono (Kd.R_far (p := ⟨gb321, 4, none⟩) (Kd.R_far (p := ⟨gb321, 3, none⟩) (Kd.R_far (p := ⟨gb321, 2, none⟩) (Kd.R_far (p := ⟨gb321, 1, none⟩) (Kd.R_far (p := ⟨gb321, 0, none⟩) (Kd.R_types HO_274000.out BK321.out (by decide)) (fun _ hk => hk.2) (.slice Ao119 t313.length co119)) (fun _ hk => hk.2) (.int .i64 t316)) (fun _ hk => hk.2) (.int .i64 t317)) (fun _ hk => hk.2) (.int .i64 t318)) (fun _ hk => hk.2) (.int .i64 t319)) (fun _ h_ => h_.1)))); (case side4 => exact (Kd.R_reads' HO_274000.out).2.1); rintro e w146 ⟨rfl, hb⟩; refine ⟨_, rfl, ?_⟩; have n0_ := Aside0.mk (Kd.R_below (by (with_reducible repeat (first | apply Kd.R_alloc | apply Kd.R_drewN | apply Kd.R_drew)); exact (Kd.R_mono (Kd.R_far (p := ⟨gb321, 4, none⟩) (Kd.R_far (p := ⟨gb321, 3, none⟩) (Kd.R_far (p := ⟨gb321, 2, none⟩) (Kd.R_far (p := ⟨gb321, 1, none⟩) (Kd.R_far (p := ⟨gb321, 0, none⟩) (Kd.R_types HO_274000.out BK321.out (by decide)) (fun _ hk => hk.2) (.slice Ao119 t313.length co119)) (fun _ hk => hk.2) (.int .i64 t316)) (fun _ hk => hk.2) (.int .i64 t317)) (fun _ hk => hk.2) (.int .i64 t318)) (fun _ hk => hk.2) (.int .i64 t319)) (fun _ h_ => h_.1))) hb); have n1_ := Aside0.mk (Kd.R_below (by (with_reducible repeat (first | apply Kd.R_alloc | apply Kd.R_drewN | apply Kd.R_drew)); exact (Kd.R_mono (Kd.R_far (p := ⟨gb321, 4, none⟩) (Kd.R_far (p := ⟨gb321, 3, none⟩) (Kd.R_far (p := ⟨gb321, 2, none⟩) (Kd.R_far (p := ⟨gb321, 1, none⟩) (Kd.R_far (p := ⟨gb321, 0, none⟩) (Kd.R_types HO_282000.out BK321.out (by decide)) (fun _ hk => hk.2) (.slice Ao119 t313.length co119)) (fun _ hk => hk.2) (.int .i64 t316)) (fun _ hk => hk.2) (.int .i64 t317)) (fun _ hk => hk.2) (.int .i64 t318)) (fun _ hk => hk.2) (.int .i64 t319)) (fun _ h_ => h_.1))) hb); have n2_ := Aside0.mk (Kd.R_below (by (with_reducible repeat (first | apply Kd.R_alloc | apply Kd.R_drewN | apply Kd.R_drew)); exact (Kd.R_mono (Kd.R_far (p := ⟨gb321, 4, none⟩) (Kd.R_far (p := ⟨gb321, 3, none⟩) (Kd.R_far (p := ⟨gb321, 2, none⟩) (Kd.R_far (p := ⟨gb321, 1, none⟩) (Kd.R_far (p := ⟨gb321, 0, none⟩) (Kd.R_types HO_291000.out BK321.out (by decide)) (fun _ hk => hk.2) (.slice Ao119 t313.length co119)) (fun _ hk => hk.2) (.int .i64 t316)) (fun _ hk => hk.2) (.int .i64 t317)) (fun _ hk => hk.2) (.int .i64 t318)) (fun _ hk => hk.2) (.int .i64 t319)) (fun _ h_ => h_.1))) hb); have n3_ := Aside0.mk (Kd.R_below (by (with_reducible repeat (first | apply Kd.R_alloc | apply Kd.R_drewN | apply Kd.R_drew)); exact (Kd.R_mono (Kd.R_far (p := ⟨gb321, 4, none⟩) (Kd.R_far (p := ⟨gb321, 3, none⟩) (Kd.R_far (p := ⟨gb321, 2, none⟩) (Kd.R_far (p := ⟨gb321, 1, none⟩) (Kd.R_far (p := ⟨gb321, 0, none⟩) (Kd.R_types HO308.out BK321.out (by decide)) (fun _ hk => hk.2) (.slice Ao119 t313.length co119)) (fun _ hk => hk.2) (.int .i64 t316)) (fun _ hk => hk.2) (.int .i64 t317)) (fun _ hk => hk.2) (.int .i64 t318)) (fun _ hk => hk.2) (.int .i64 t319)) (fun _ h_ => h_.1))) hb); have n4_ := Aside0.mk (Kd.R_below (by (with_reducible repeat (first | apply Kd.R_alloc | apply Kd.R_drewN | apply Kd.R_drew)); exact (Kd.R_mono (Kd.R_far (p := ⟨gb321, 4, none⟩) (Kd.R_far (p := ⟨gb321, 3, none⟩) (Kd.R_far (p := ⟨gb321, 2, none⟩) (Kd.R_far (p := ⟨gb321, 1, none⟩) (Kd.R_far (p := ⟨gb321, 0, none⟩) (Kd.R_types HO315.out BK321.out (by decide)) (fun _ hk => hk.2) (.slice Ao119 t313.length co119)) (fun _ hk => hk.2) (.int .i64 t316)) (fun _ hk => hk.2) (.int .i64 t317)) (fun _ hk => hk.2) (.int .i64 t318)) (fun _ hk => hk.2) (.int .i64 t319)) (fun _ h_ => h_.1))) hb); have n5_ := Aside0.mk (blk_below (g := gb256) (o := .cells #[.slice A0_0 l0_0.length c0_0, .int .i64 a0_1, .int .i64 a0_2, .int .i64 a0_3, .int .i64 a0_4] 24 (0, 0)) (by refine bl_ ?_; refine blk_far ?_ NB256_321.out _; refine bl_ ?_; refine blk_far ?_ NB256_321.out _; refine bl_ ?_; refine blk_far ?_ NB256_321.out _; refine bl_ ?_; refine blk_far ?_ NB256_321.out _; refine bl_ ?_; refine blk_far ?_ NB256_321.out _; refine bl_ ?_; exact BK256.out) hb); have n6_ := Aside0.mk (blk_below (g := gb273) (o := .cells #[.slice Ao21 t265.length co21, .int .i64 t268, .int .i64 t269, .int .i64 t270, .int .i64 t271] 28 (0, 0)) (by refine bl_ ?_; refine blk_far ?_ NB273_321.out _; refine bl_ ?_; refine blk_far ?_ NB273_321.out _; refine bl_ ?_; refine blk_far ?_ NB273_321.out _; refine bl_ ?_; refine blk_far ?_ NB273_321.out _; refine bl_ ?_; refine blk_far ?_ NB273_321.out _; refine bl_ ?_; exact BK273.out) hb); have n7_ := Aside0.mk (blk_below (g := gb281) (o := .cells #[.slice Ao27 t301.length co27, .int .i64 t277, .int .i64 t278, .int .i64 t279, .int .i64 t280] 28 (0, 0)) (by refine bl_ ?_; refine blk_far ?_ NB281_321.out _; refine bl_ ?_; refine blk_far ?_ NB281_321.out _; refine bl_ ?_; refine blk_far ?_ NB281_321.out _; refine bl_ ?_; refine blk_far ?_ NB281_321.out _; refine bl_ ?_; refine blk_far ?_ NB281_321.out _; refine bl_ ?_; exact BK281.out) hb); have n8_ := Aside0.mk (blk_below (g := gb290) (o := .cells #[.slice Ao33 t282.length co33, .int .i64 t285, .int .i64 t286, .int .i64 t287, .int .i64 t288] 28 (0, 0)) (by refine bl_ ?_; refine blk_far ?_ NB290_321.out _; refine bl_ ?_; refine blk_far ?_ NB290_321.out _; refine bl_ ?_; refine blk_far ?_ NB290_321.out _; refine bl_ ?_; refine blk_far ?_ NB290_321.out _; refine bl_ ?_; refine blk_far ?_ NB290_321.out _; refine bl_ ?_; exact BK290.out) hb); have n9_ := Aside0.mk (blk_below (g := gb321) (o := .cells #[.slice Ao119 t313.length co119, .int .i64 t316, .int .i64 t317, .int .i64 t318, .int .i64 t319] 28 (0, 0)) (by refine bl_ ?_; refine blk_put (cs := #[.slice Ao119 t313.length co119, .int .i64 t316, .int .i64 t317, .int .i64 t318, .int .i64 0]) ?_ 4 _ rfl; refine bl_ ?_; refine blk_put (cs := #[.slice Ao119 t313.length co119, .int .i64 t316, .int .i64 t317, .int .i64 0, .int .i64 0]) ?_ 3 _ rfl; refine bl_ ?_; refine blk_put (cs := #[.slice Ao119 t313.length co119, .int .i64 t316, .int .i64 0, .int .i64 0, .int .i64 0]) ?_ 2 _ rfl; refine bl_ ?_; refine blk_put (cs := #[.slice Ao119 t313.length co119, .int .i64 0, .int .i64 0, .int .i64 0, .int .i64 0]) ?_ 1 _ rfl; refine bl_ ?_; refine blk_put (cs := #[.slice none 0 0, .int .i64 0, .int .i64 0, .int .i64 0, .int .i64 0]) ?_ 0 _ rfl; refine bl_ ?_; exact BK321.out) hb); have n10_ := Aside0.mk (below_step (be_ HB.out) hb); clear HO_274000 HO_282000 HO_291000 HO308 HO315 BK256 BK273 BK281 BK290 BK321 HB; have HO_274000 := n0_; have HO_282000 := n1_; have HO_291000 := n2_; have HO308 := n3_; have HO315 := n4_; have BK256 := n5_; have BK273 := n6_; have BK281 := n7_; have BK290 := n8_; have BK321 := n9_; have HB := n10_; clear n0_ n1_ n2_ n3_ n4_ n5_ n6_ n7_ n8_ n9_ n10_; (try clear hb); (try clear hb2); (try clear hk); (try clear hi)))
                          go_meet
                          case rel => exact ⟨_, (true), (by first | rfl | (simp; done) | (simp [*]; done)), H', ⟨by have := HJ11.out; have := HJ60.out; first | omega | exact Nat.le_refl _⟩, ⟨by (try simp only [hl282000_60]); (with_reducible repeat (first | apply Kd.R_alloc | apply Kd.R_drewN | apply Kd.R_drew)); exact Kd.R_mono HO_274000.out (fun _ hk => ⟨hk.1.1.1, ⟨hk.1.1.2, hk.2⟩⟩)⟩, ⟨by (try simp only [hl282000_60]); (with_reducible repeat (first | apply Kd.R_alloc | apply Kd.R_drewN | apply Kd.R_drew)); exact Kd.R_mono HO_282000.out (fun _ hk => ⟨hk.1.1.1, ⟨hk.1.1.2, hk.2⟩⟩)⟩, ⟨by (try simp only [hl282000_60]); (with_reducible repeat (first | apply Kd.R_alloc | apply Kd.R_drewN | apply Kd.R_drew)); exact Kd.R_mono HO_291000.out (fun _ hk => ⟨hk.1.1.1, ⟨hk.1.1.2, hk.2⟩⟩)⟩, ⟨by (try simp only [hl282000_60]); (with_reducible repeat (first | apply Kd.R_alloc | apply Kd.R_drewN | apply Kd.R_drew)); exact Kd.R_mono HO315.out (fun _ hk => ⟨hk.1.1.1.2, ⟨hk.1.1.2, hk.1.2⟩⟩)⟩, ⟨by (try simp only [hl282000_60]); refine bl_ ?_; exact BK256.out⟩, ⟨by (try simp only [hl282000_60]); refine bl_ ?_; exact BK273.out⟩, ⟨by (try simp only [hl282000_60]); refine bl_ ?_; exact BK281.out⟩, ⟨by (try simp only [hl282000_60]); refine bl_ ?_; exact BK290.out⟩, ⟨by (try simp only [hl282000_60]); refine bl_ ?_; exact BK321.out⟩, ⟨be_ HB.out⟩⟩
                      case rest =>
                        clear HC104
                        try clear c1
                        try clear c2
                        try clear p2
                        try clear c3
                        try clear c4
                        try clear c4b0
                        try clear c5
                        try clear c6
                        try clear c7
                        try clear c8
                        try clear c9
                        try clear c10
                        try clear c11
                        try clear c12
                        try clear c13
                        try clear c14
                        try clear c15
                        try clear c17
                        try clear c18
                        try clear c19
                        try clear c20
                        try clear c21
                        try clear c22
                        try clear c28
                        try clear c29
                        try clear c34
                        try clear c35
                        try clear c36
                        try clear c39
                        try clear c40
                        try clear c41
                        try clear c42
                        try clear c44
                        try clear c45
                        try clear c48
                        try clear c49
                        try clear c50
                        try clear c52
                        try clear c53
                        try clear c56
                        try clear c59
                        try clear c66
                        try clear c67
                        try clear c68
                        try clear c71
                        try clear c71b0
                        try clear c73
                        try clear c74
                        try clear c75
                        try clear c76
                        try clear c78
                        try clear c79
                        try clear c82
                        try clear c83
                        try clear c84
                        try clear c86
                        try clear c87
                        try clear c90
                        try clear c93
                        try clear c93b0
                        try clear c94
                        try clear c95
                        try clear c96
                        try clear c101
                        try clear c101b0
                        try clear c101b1
                        try clear c105
                        try clear c106
                        try clear c107
                        try clear c112
                        try clear c113
                        try clear c120
                        try clear c121
                        try clear c122
                        try clear c123
                        try clear c126
                        try clear c127
                        try clear c128
                        try clear c129
                        try clear c130
                        try clear c132
                        try clear c133
                        try clear c134
                        try clear c137
                        try clear c138
                        try clear c139
                        try clear c140
                        try clear c142
                        try clear c143
                        try clear c144
                        try clear hcz108_0
                        try clear hcz108_1
                        try clear hcz108_2
                        try clear hcz108_3
                        try clear hcz108_4
                        try clear hcz110_0
                        try clear hcz110_1
                        try clear hcz110_2
                        try clear hcz110_3
                        try clear hcz110_4
                        try clear hcz114_0
                        try clear hcz114_1
                        try clear hcz114_2
                        try clear hcz114_3
                        try clear hcz114_4
                        try clear hcz124_0
                        try clear hcz124_1
                        try clear hcz124_2
                        try clear hcz124_3
                        try clear hcz124_4
                        try clear hcz131_0
                        try clear hcz131_1
                        try clear hcz131_2
                        try clear hcz131_3
                        try clear hcz131_4
                        try clear hcz135_0
                        try clear hcz135_1
                        try clear hcz135_2
                        try clear hcz135_3
                        try clear hcz135_4
                        try clear hcz141_0
                        try clear hcz141_1
                        try clear hcz141_2
                        try clear hcz141_3
                        try clear hcz141_4
                        try clear hcz145_0
                        try clear hcz145_1
                        try clear hcz145_2
                        try clear hcz145_3
                        try clear hcz145_4
                        try clear hcz14_0
                        try clear hcz14_1
                        try clear hcz14_2
                        try clear hcz14_3
                        try clear hcz14_4
                        try clear hcz16_0
                        try clear hcz16_1
                        try clear hcz16_2
                        try clear hcz16_3
                        try clear hcz16_4
                        try clear hcz23_0
                        try clear hcz23_1
                        try clear hcz23_2
                        try clear hcz23_3
                        try clear hcz23_4
                        try clear hcz24_0
                        try clear hcz24_1
                        try clear hcz24_2
                        try clear hcz24_3
                        try clear hcz24_4
                        try clear hcz30_0
                        try clear hcz30_1
                        try clear hcz30_2
                        try clear hcz30_3
                        try clear hcz30_4
                        try clear hcz37_0
                        try clear hcz37_1
                        try clear hcz37_2
                        try clear hcz37_3
                        try clear hcz37_4
                        try clear hcz43_0
                        try clear hcz43_1
                        try clear hcz43_2
                        try clear hcz43_3
                        try clear hcz43_4
                        try clear hcz46_0
                        try clear hcz46_1
                        try clear hcz46_2
                        try clear hcz46_3
                        try clear hcz46_4
                        try clear hcz51_0
                        try clear hcz51_1
                        try clear hcz51_2
                        try clear hcz51_3
                        try clear hcz51_4
                        try clear hcz54_0
                        try clear hcz54_1
                        try clear hcz54_2
                        try clear hcz54_3
                        try clear hcz54_4
                        try clear hcz69_0
                        try clear hcz69_1
                        try clear hcz69_2
                        try clear hcz69_3
                        try clear hcz69_4
                        try clear hcz6_0
                        try clear hcz6_1
                        try clear hcz6_2
                        try clear hcz6_3
                        try clear hcz6_4
                        try clear hcz77_0
                        try clear hcz77_1
                        try clear hcz77_2
                        try clear hcz77_3
                        try clear hcz77_4
                        try clear hcz80_0
                        try clear hcz80_1
                        try clear hcz80_2
                        try clear hcz80_3
                        try clear hcz80_4
                        try clear hcz85_0
                        try clear hcz85_1
                        try clear hcz85_2
                        try clear hcz85_3
                        try clear hcz85_4
                        try clear hcz88_0
                        try clear hcz88_1
                        try clear hcz88_2
                        try clear hcz88_3
                        try clear hcz88_4
                        try clear hcz97_0
                        try clear hcz97_1
                        try clear hcz97_2
                        try clear hcz97_3
                        try clear hcz97_4
                        try clear hcz99_0
                        try clear hcz99_1
                        try clear hcz99_2
                        try clear hcz99_3
                        try clear hcz99_4
                        try clear hfz108_0
                        try clear hfz108_1
                        try clear hfz108_2
                        try clear hfz108_3
                        try clear hfz108_4
                        try clear hfz110_0
                        try clear hfz110_1
                        try clear hfz110_2
                        try clear hfz110_3
                        try clear hfz110_4
                        try clear hfz114_0
                        try clear hfz114_1
                        try clear hfz114_2
                        try clear hfz114_3
                        try clear hfz114_4
                        try clear hfz124_0
                        try clear hfz124_1
                        try clear hfz124_2
                        try clear hfz124_3
                        try clear hfz124_4
                        try clear hfz131_0
                        try clear hfz131_1
                        try clear hfz131_2
                        try clear hfz131_3
                        try clear hfz131_4
                        try clear hfz135_0
                        try clear hfz135_1
                        try clear hfz135_2
                        try clear hfz135_3
                        try clear hfz135_4
                        try clear hfz141_0
                        try clear hfz141_1
                        try clear hfz141_2
                        try clear hfz141_3
                        try clear hfz141_4
                        try clear hfz145_0
                        try clear hfz145_1
                        try clear hfz145_2
                        try clear hfz145_3
                        try clear hfz145_4
                        try clear hfz14_0
                        try clear hfz14_1
                        try clear hfz14_2
                        try clear hfz14_3
                        try clear hfz14_4
                        try clear hfz16_0
                        try clear hfz16_1
                        try clear hfz16_2
                        try clear hfz16_3
                        try clear hfz16_4
                        try clear hfz23_0
                        try clear hfz23_1
                        try clear hfz23_2
                        try clear hfz23_3
                        try clear hfz23_4
                        try clear hfz24_0
                        try clear hfz24_1
                        try clear hfz24_2
                        try clear hfz24_3
                        try clear hfz24_4
                        try clear hfz30_0
                        try clear hfz30_1
                        try clear hfz30_2
                        try clear hfz30_3
                        try clear hfz30_4
                        try clear hfz37_0
                        try clear hfz37_1
                        try clear hfz37_2
                        try clear hfz37_3
                        try clear hfz37_4
                        try clear hfz43_0
                        try clear hfz43_1
                        try clear hfz43_2
                        try clear hfz43_3
                        try clear hfz43_4
                        try clear hfz46_0
                        try clear hfz46_1
                        try clear hfz46_2
                        try clear hfz46_3
                        try clear hfz46_4
                        try clear hfz51_0
                        try clear hfz51_1
                        try clear hfz51_2
                        try clear hfz51_3
                        try clear hfz51_4
                        try clear hfz54_0
                        try clear hfz54_1
                        try clear hfz54_2
                        try clear hfz54_3
                        try clear hfz54_4
                        try clear hfz69_0
                        try clear hfz69_1
                        try clear hfz69_2
                        try clear hfz69_3
                        try clear hfz69_4
                        try clear hfz6_0
                        try clear hfz6_1
                        try clear hfz6_2
                        try clear hfz6_3
                        try clear hfz6_4
                        try clear hfz77_0
                        try clear hfz77_1
                        try clear hfz77_2
                        try clear hfz77_3
                        try clear hfz77_4
                        try clear hfz80_0
                        try clear hfz80_1
                        try clear hfz80_2
                        try clear hfz80_3
                        try clear hfz80_4
                        try clear hfz85_0
                        try clear hfz85_1
                        try clear hfz85_2
                        try clear hfz85_3
                        try clear hfz85_4
                        try clear hfz88_0
                        try clear hfz88_1
                        try clear hfz88_2
                        try clear hfz88_3
                        try clear hfz88_4
                        try clear hfz97_0
                        try clear hfz97_1
                        try clear hfz97_2
                        try clear hfz97_3
                        try clear hfz97_4
                        try clear hfz99_0
                        try clear hfz99_1
                        try clear hfz99_2
                        try clear hfz99_3
                        try clear hfz99_4
                        try clear p2
                        obtain ⟨kq, x92_103, rfl, HA, HJ103, HO_274000, HO_282000, HO_291000, HO_322000, BK256, BK273, BK281, BK290, BK321, HB⟩ := hcut
                        have hl291000_103 := (Kd.R_reads' HO_291000.out).1
                        rw [hl291000_103] at HO_291000
                        (try simp only [hl291000_103])
                        (try simp only [hl291000_103] at BK256)
                        (try simp only [hl291000_103] at BK273)
                        (try simp only [hl291000_103] at BK281)
                        (try simp only [hl291000_103] at BK290)
                        (try simp only [hl291000_103] at BK321)
                        (try simp only [hl291000_103] at HO_274000)
                        (try simp only [hl291000_103] at HO_282000)
                        (try simp only [hl291000_103] at HO_322000)
                        cases kq with
                        | zero => exact absurd HA.out (by simp [laws_FnExactPushBack.j2])
                        | succ kj103 =>
                          have H := HA.out
                          clear HA
                          simp only [laws_FnExactPushBack.j2] at H
                          by_cases c147 : x92_103 = true
                          · subst c147
                            have H1 : (some false) = some r := by rw [if_pos rfl] at H; exact H
                            clear H
                            have H := H1
                            clear H1
                            obtain rfl := Option.some.inj H
                            go_wp2
                            go_ret
                            exact ⟨by first | rfl | (simp [errW_none, errW_some] <;> rfl) | (simp [*, errW_none, errW_some] <;> rfl), be_ HB.out⟩
                          · replace c147 := Bool.eq_false_iff.mpr c147
                            subst c147
                            have H1 : ((laws_heldQueue.f kj103 t304 t285 t286 t287 t288 1).bind fun t323 => (if t323 < 0 then (some false) else (if t323 = t303 then (some true) else (some false)))) = some r := by rw [if_neg (show ¬ (false = true) by decide)] at H; exact H
                            clear H
                            have H := H1
                            clear H1
                            replace H := Option.bind_eq_some_iff.mp H
                            obtain ⟨t323, A1480, H⟩ := H
                            replace H : (if t323 < 0 then (some false) else (if t323 = t303 then (some true) else (some false))) = some r := H
                            have A148 := Aside0.mk A1480
                            clear A1480
                            by_cases c149 : t323 < 0
                            · rw [if_pos c149] at H
                              have c149b0 : decide (t323 < 0) = true := decide_eq_true c149
                              clear c149
                              obtain rfl := Option.some.inj H
                              have hnb150 := NB290_256.out
                              have hnc150 := NB256_290.out
                              have hnb151 := NB290_273.out
                              have hnc151 := NB273_290.out
                              have hnb152 := NB290_281.out
                              have hnc152 := NB281_290.out
                              have hnb153 := NB290_321.out
                              have hnc153 := NB321_290.out
                              have hcz154_0 : wc.cell? ⟨gb290, 0, none⟩ = some (.slice Ao33 t304.length co33) := (blk_cell BK290.out 0).trans rfl
                              have hcz154_1 : wc.cell? ⟨gb290, 1, none⟩ = some (.int .i64 t285) := (blk_cell BK290.out 1).trans rfl
                              have hcz154_2 : wc.cell? ⟨gb290, 2, none⟩ = some (.int .i64 t286) := (blk_cell BK290.out 2).trans rfl
                              have hcz154_3 : wc.cell? ⟨gb290, 3, none⟩ = some (.int .i64 t287) := (blk_cell BK290.out 3).trans rfl
                              have hcz154_4 : wc.cell? ⟨gb290, 4, none⟩ = some (.int .i64 t288) := (blk_cell BK290.out 4).trans rfl
                              have hfz154_0 := blk_frozen BK290.out 0
                              have hfz154_1 := blk_frozen BK290.out 1
                              have hfz154_2 := blk_frozen BK290.out 2
                              have hfz154_3 := blk_frozen BK290.out 3
                              have hfz154_4 := blk_frozen BK290.out 4
                              go_wp2_with (first | ((with_reducible refine gate_callee (f := 19) rfl ?_); refine goesL_ (some 95) rfl rfl Try.func19 (by kernel_rfl) rfl #[.agg #[.slice Ao33 t304.length co33, .int .i64 t285, .int .i64 t286, .int .i64 t287, .int .i64 t288], .int .i64 1] rfl (by (try simp only [List.map_toArray, List.map_cons, List.map_nil]); first | done | rfl | (simp only [List.length_drop, List.length_take]; rfl)) ?_; (with_reducible refine (laws_heldQueue.calls kj103 _ _ t304 t285 t286 t287 t288 1 t323 _ ?side1 ?side2 A148.out).mono ?_); (case side1 => repeat (first | exact (Kd.R_reads' HO_291000.out).2.2 | (with_reducible refine Kd.C_alloc ?_ _) | (with_reducible refine Kd.C_drewN ?_ _) | (with_reducible refine Kd.C_drew ?_))); (case side2 => exact (Kd.R_reads' HO_291000.out).2.1); rintro e w155 ⟨rfl, hb⟩; refine ⟨_, rfl, ?_⟩; have n0_ := Aside0.mk (Kd.R_below (ro_ HO_274000.out) hb); have n1_ := Aside0.mk (Kd.R_below (ro_ HO_282000.out) hb); have n2_ := Aside0.mk (Kd.R_below (ro_ HO_291000.out) hb); have n3_ := Aside0.mk (Kd.R_below (ro_ HO_322000.out) hb); have n4_ := Aside0.mk (blk_below (g := gb256) (o := .cells #[.slice A0_0 l0_0.length c0_0, .int .i64 a0_1, .int .i64 a0_2, .int .i64 a0_3, .int .i64 a0_4] 24 (0, 0)) (bl_ BK256.out) hb); have n5_ := Aside0.mk (blk_below (g := gb273) (o := .cells #[.slice Ao21 t265.length co21, .int .i64 t268, .int .i64 t269, .int .i64 t270, .int .i64 t271] 28 (0, 0)) (bl_ BK273.out) hb); have n6_ := Aside0.mk (blk_below (g := gb281) (o := .cells #[.slice Ao27 t301.length co27, .int .i64 t277, .int .i64 t278, .int .i64 t279, .int .i64 t280] 28 (0, 0)) (bl_ BK281.out) hb); have n7_ := Aside0.mk (blk_below (g := gb290) (o := .cells #[.slice Ao33 t304.length co33, .int .i64 t285, .int .i64 t286, .int .i64 t287, .int .i64 t288] 28 (0, 0)) (bl_ BK290.out) hb); have n8_ := Aside0.mk (blk_below (g := gb321) (o := .cells #[.slice Ao119 t313.length co119, .int .i64 t316, .int .i64 t317, .int .i64 t318, .int .i64 t319] 28 (0, 0)) (bl_ BK321.out) hb); have n9_ := Aside0.mk (below_step (be_ HB.out) hb); clear HO_274000 HO_282000 HO_291000 HO_322000 BK256 BK273 BK281 BK290 BK321 HB; have HO_274000 := n0_; have HO_282000 := n1_; have HO_291000 := n2_; have HO_322000 := n3_; have BK256 := n4_; have BK273 := n5_; have BK281 := n6_; have BK290 := n7_; have BK321 := n8_; have HB := n9_; clear n0_ n1_ n2_ n3_ n4_ n5_ n6_ n7_ n8_ n9_; (try clear hb); (try clear hb2); (try clear hk); (try clear hi)))
                              go_ret
                              exact ⟨by first | rfl | (simp [errW_none, errW_some] <;> rfl) | (simp [*, errW_none, errW_some] <;> rfl), be_ HB.out⟩
                            · rw [if_neg c149] at H
                              have c149b0 : decide (t323 < 0) = false := decide_eq_false c149
                              clear c149
                              by_cases c156 : t323 = t303
                              · rw [if_pos c156] at H
                                have c156b0 : (t323 == t303) = true := beq_iff_eq.mpr c156
                                have c156b1 : (t323 != t303) = false := bne_eq_false_iff_eq.mpr c156
                                clear c156
                                obtain rfl := Option.some.inj H
                                have hnb157 := NB290_256.out
                                have hnc157 := NB256_290.out
                                have hnb158 := NB290_273.out
                                have hnc158 := NB273_290.out
                                have hnb159 := NB290_281.out
                                have hnc159 := NB281_290.out
                                have hnb160 := NB290_321.out
                                have hnc160 := NB321_290.out
                                have hcz161_0 : wc.cell? ⟨gb290, 0, none⟩ = some (.slice Ao33 t304.length co33) := (blk_cell BK290.out 0).trans rfl
                                have hcz161_1 : wc.cell? ⟨gb290, 1, none⟩ = some (.int .i64 t285) := (blk_cell BK290.out 1).trans rfl
                                have hcz161_2 : wc.cell? ⟨gb290, 2, none⟩ = some (.int .i64 t286) := (blk_cell BK290.out 2).trans rfl
                                have hcz161_3 : wc.cell? ⟨gb290, 3, none⟩ = some (.int .i64 t287) := (blk_cell BK290.out 3).trans rfl
                                have hcz161_4 : wc.cell? ⟨gb290, 4, none⟩ = some (.int .i64 t288) := (blk_cell BK290.out 4).trans rfl
                                have hfz161_0 := blk_frozen BK290.out 0
                                have hfz161_1 := blk_frozen BK290.out 1
                                have hfz161_2 := blk_frozen BK290.out 2
                                have hfz161_3 := blk_frozen BK290.out 3
                                have hfz161_4 := blk_frozen BK290.out 4
                                go_wp2_with (first | ((with_reducible refine gate_callee (f := 19) rfl ?_); refine goesL_ (some 95) rfl rfl Try.func19 (by kernel_rfl) rfl #[.agg #[.slice Ao33 t304.length co33, .int .i64 t285, .int .i64 t286, .int .i64 t287, .int .i64 t288], .int .i64 1] rfl (by (try simp only [List.map_toArray, List.map_cons, List.map_nil]); first | done | rfl | (simp only [List.length_drop, List.length_take]; rfl)) ?_; (with_reducible refine (laws_heldQueue.calls kj103 _ _ t304 t285 t286 t287 t288 1 t323 _ ?side1 ?side2 A148.out).mono ?_); (case side1 => repeat (first | exact (Kd.R_reads' HO_291000.out).2.2 | (with_reducible refine Kd.C_alloc ?_ _) | (with_reducible refine Kd.C_drewN ?_ _) | (with_reducible refine Kd.C_drew ?_))); (case side2 => exact (Kd.R_reads' HO_291000.out).2.1); rintro e w162 ⟨rfl, hb⟩; refine ⟨_, rfl, ?_⟩; have n0_ := Aside0.mk (Kd.R_below (ro_ HO_274000.out) hb); have n1_ := Aside0.mk (Kd.R_below (ro_ HO_282000.out) hb); have n2_ := Aside0.mk (Kd.R_below (ro_ HO_291000.out) hb); have n3_ := Aside0.mk (Kd.R_below (ro_ HO_322000.out) hb); have n4_ := Aside0.mk (blk_below (g := gb256) (o := .cells #[.slice A0_0 l0_0.length c0_0, .int .i64 a0_1, .int .i64 a0_2, .int .i64 a0_3, .int .i64 a0_4] 24 (0, 0)) (bl_ BK256.out) hb); have n5_ := Aside0.mk (blk_below (g := gb273) (o := .cells #[.slice Ao21 t265.length co21, .int .i64 t268, .int .i64 t269, .int .i64 t270, .int .i64 t271] 28 (0, 0)) (bl_ BK273.out) hb); have n6_ := Aside0.mk (blk_below (g := gb281) (o := .cells #[.slice Ao27 t301.length co27, .int .i64 t277, .int .i64 t278, .int .i64 t279, .int .i64 t280] 28 (0, 0)) (bl_ BK281.out) hb); have n7_ := Aside0.mk (blk_below (g := gb290) (o := .cells #[.slice Ao33 t304.length co33, .int .i64 t285, .int .i64 t286, .int .i64 t287, .int .i64 t288] 28 (0, 0)) (bl_ BK290.out) hb); have n8_ := Aside0.mk (blk_below (g := gb321) (o := .cells #[.slice Ao119 t313.length co119, .int .i64 t316, .int .i64 t317, .int .i64 t318, .int .i64 t319] 28 (0, 0)) (bl_ BK321.out) hb); have n9_ := Aside0.mk (below_step (be_ HB.out) hb); clear HO_274000 HO_282000 HO_291000 HO_322000 BK256 BK273 BK281 BK290 BK321 HB; have HO_274000 := n0_; have HO_282000 := n1_; have HO_291000 := n2_; have HO_322000 := n3_; have BK256 := n4_; have BK273 := n5_; have BK281 := n6_; have BK290 := n7_; have BK321 := n8_; have HB := n9_; clear n0_ n1_ n2_ n3_ n4_ n5_ n6_ n7_ n8_ n9_; (try clear hb); (try clear hb2); (try clear hk); (try clear hi)))
                                go_ret
                                exact ⟨by first | rfl | (simp [errW_none, errW_some] <;> rfl) | (simp [*, errW_none, errW_some] <;> rfl), be_ HB.out⟩
                              · rw [if_neg c156] at H
                                have c156b0 : (t323 == t303) = false := beq_eq_false_iff_ne.mpr c156
                                have c156b1 : (t323 != t303) = true := bne_iff_ne.mpr c156
                                obtain rfl := Option.some.inj H
                                have hnb163 := NB290_256.out
                                have hnc163 := NB256_290.out
                                have hnb164 := NB290_273.out
                                have hnc164 := NB273_290.out
                                have hnb165 := NB290_281.out
                                have hnc165 := NB281_290.out
                                have hnb166 := NB290_321.out
                                have hnc166 := NB321_290.out
                                have hcz167_0 : wc.cell? ⟨gb290, 0, none⟩ = some (.slice Ao33 t304.length co33) := (blk_cell BK290.out 0).trans rfl
                                have hcz167_1 : wc.cell? ⟨gb290, 1, none⟩ = some (.int .i64 t285) := (blk_cell BK290.out 1).trans rfl
                                have hcz167_2 : wc.cell? ⟨gb290, 2, none⟩ = some (.int .i64 t286) := (blk_cell BK290.out 2).trans rfl
                                have hcz167_3 : wc.cell? ⟨gb290, 3, none⟩ = some (.int .i64 t287) := (blk_cell BK290.out 3).trans rfl
                                have hcz167_4 : wc.cell? ⟨gb290, 4, none⟩ = some (.int .i64 t288) := (blk_cell BK290.out 4).trans rfl
                                have hfz167_0 := blk_frozen BK290.out 0
                                have hfz167_1 := blk_frozen BK290.out 1
                                have hfz167_2 := blk_frozen BK290.out 2
                                have hfz167_3 := blk_frozen BK290.out 3
                                have hfz167_4 := blk_frozen BK290.out 4
                                go_wp2_with (first | ((with_reducible refine gate_callee (f := 19) rfl ?_); refine goesL_ (some 95) rfl rfl Try.func19 (by kernel_rfl) rfl #[.agg #[.slice Ao33 t304.length co33, .int .i64 t285, .int .i64 t286, .int .i64 t287, .int .i64 t288], .int .i64 1] rfl (by (try simp only [List.map_toArray, List.map_cons, List.map_nil]); first | done | rfl | (simp only [List.length_drop, List.length_take]; rfl)) ?_; (with_reducible refine (laws_heldQueue.calls kj103 _ _ t304 t285 t286 t287 t288 1 t323 _ ?side1 ?side2 A148.out).mono ?_); (case side1 => repeat (first | exact (Kd.R_reads' HO_291000.out).2.2 | (with_reducible refine Kd.C_alloc ?_ _) | (with_reducible refine Kd.C_drewN ?_ _) | (with_reducible refine Kd.C_drew ?_))); (case side2 => exact (Kd.R_reads' HO_291000.out).2.1); rintro e w168 ⟨rfl, hb⟩; refine ⟨_, rfl, ?_⟩; have n0_ := Aside0.mk (Kd.R_below (ro_ HO_274000.out) hb); have n1_ := Aside0.mk (Kd.R_below (ro_ HO_282000.out) hb); have n2_ := Aside0.mk (Kd.R_below (ro_ HO_291000.out) hb); have n3_ := Aside0.mk (Kd.R_below (ro_ HO_322000.out) hb); have n4_ := Aside0.mk (blk_below (g := gb256) (o := .cells #[.slice A0_0 l0_0.length c0_0, .int .i64 a0_1, .int .i64 a0_2, .int .i64 a0_3, .int .i64 a0_4] 24 (0, 0)) (bl_ BK256.out) hb); have n5_ := Aside0.mk (blk_below (g := gb273) (o := .cells #[.slice Ao21 t265.length co21, .int .i64 t268, .int .i64 t269, .int .i64 t270, .int .i64 t271] 28 (0, 0)) (bl_ BK273.out) hb); have n6_ := Aside0.mk (blk_below (g := gb281) (o := .cells #[.slice Ao27 t301.length co27, .int .i64 t277, .int .i64 t278, .int .i64 t279, .int .i64 t280] 28 (0, 0)) (bl_ BK281.out) hb); have n7_ := Aside0.mk (blk_below (g := gb290) (o := .cells #[.slice Ao33 t304.length co33, .int .i64 t285, .int .i64 t286, .int .i64 t287, .int .i64 t288] 28 (0, 0)) (bl_ BK290.out) hb); have n8_ := Aside0.mk (blk_below (g := gb321) (o := .cells #[.slice Ao119 t313.length co119, .int .i64 t316, .int .i64 t317, .int .i64 t318, .int .i64 t319] 28 (0, 0)) (bl_ BK321.out) hb); have n9_ := Aside0.mk (below_step (be_ HB.out) hb); clear HO_274000 HO_282000 HO_291000 HO_322000 BK256 BK273 BK281 BK290 BK321 HB; have HO_274000 := n0_; have HO_282000 := n1_; have HO_291000 := n2_; have HO_322000 := n3_; have BK256 := n4_; have BK273 := n5_; have BK281 := n6_; have BK290 := n7_; have BK321 := n8_; have HB := n9_; clear n0_ n1_ n2_ n3_ n4_ n5_ n6_ n7_ n8_ n9_; (try clear hb); (try clear hb2); (try clear hk); (try clear hi)))
                                go_ret
                                exact ⟨by first | rfl | (simp [errW_none, errW_some] <;> rfl) | (simp [*, errW_none, errW_some] <;> rfl), be_ HB.out⟩
                    · rw [if_neg c101] at H
                      have c101b0 : (t305 == t303) = false := beq_eq_false_iff_ne.mpr c101
                      have c101b1 : (t305 != t303) = true := bne_iff_ne.mpr c101
                      obtain rfl := Option.some.inj H
                      have hnb169 := NB290_256.out
                      have hnc169 := NB256_290.out
                      have hnb170 := NB290_273.out
                      have hnc170 := NB273_290.out
                      have hnb171 := NB290_281.out
                      have hnc171 := NB281_290.out
                      have hcz172_0 : wc.cell? ⟨gb290, 0, none⟩ = some (.slice Ao33 t282.length co33) := (blk_cell BK290.out 0).trans rfl
                      have hcz172_1 : wc.cell? ⟨gb290, 1, none⟩ = some (.int .i64 t285) := (blk_cell BK290.out 1).trans rfl
                      have hcz172_2 : wc.cell? ⟨gb290, 2, none⟩ = some (.int .i64 t286) := (blk_cell BK290.out 2).trans rfl
                      have hcz172_3 : wc.cell? ⟨gb290, 3, none⟩ = some (.int .i64 t287) := (blk_cell BK290.out 3).trans rfl
                      have hcz172_4 : wc.cell? ⟨gb290, 4, none⟩ = some (.int .i64 t288) := (blk_cell BK290.out 4).trans rfl
                      have hfz172_0 := blk_frozen BK290.out 0
                      have hfz172_1 := blk_frozen BK290.out 1
                      have hfz172_2 := blk_frozen BK290.out 2
                      have hfz172_3 := blk_frozen BK290.out 3
                      have hfz172_4 := blk_frozen BK290.out 4
                      go_wp2_with (first | ((with_reducible refine gate_callee (f := 18) rfl ?_); refine goesL_ (some 68) rfl rfl Try.func18 (by kernel_rfl) rfl #[.agg #[.slice Ao33 t282.length co33, .int .i64 t285, .int .i64 t286, .int .i64 t287, .int .i64 t288], .int .i64 1] rfl (by (try simp only [List.map_toArray, List.map_cons, List.map_nil]); first | done | rfl | (simp only [List.length_drop, List.length_take]; rfl)) ?_; (with_reducible refine (laws_markQueue.calls kj60 (fun k_ => some k_ = (.slice Ao33 t282.length co33 : Value).ownBlock) (.slice Ao33 t282.length co33) t282 t285 t286 t287 t288 1 t303 t304 w _ ?side1 ?side2 A91.out).mono ?_); (case side1 => exact be_ HB.out); (case side2 => exact Kd.R_tight rfl HO_291000.out); rintro e w173 ⟨rfl, hy0, hb, hkp⟩; refine ⟨_, rfl, ?_⟩; have n0_ := Aside0.mk (Kd.R_mono (ok' := fun k_ => some k_ ≠ (.slice Ao27 t301.length co27 : Value).ownBlock ∧ some k_ ≠ (.slice Ao33 t282.length co33 : Value).ownBlock) (Kd.R_keptB (HO_274000.out) hkp rn_) rm_); have n1_ := Aside0.mk (Kd.R_mono (ok' := fun k_ => some k_ ≠ (.slice Ao21 t265.length co21 : Value).ownBlock ∧ some k_ ≠ (.slice Ao33 t282.length co33 : Value).ownBlock) (Kd.R_keptB (HO_282000.out) hkp rn_) rm_); have n2_ := Aside0.mk (Kd.R_reok rfl hy0 (fun k_ e_ => HO_291000.out.1 k_ e_)); have n3_ := Aside0.mk (blk_kept (bl_ BK256.out) hkp (fun hs_ => (fun e_ => (Kd.R_ne HO_291000.out BK256.out (by decide)) e_) hs_)); have n4_ := Aside0.mk (blk_kept (bl_ BK273.out) hkp (fun hs_ => (fun e_ => (Kd.R_ne HO_291000.out BK273.out (by decide)) e_) hs_)); have n5_ := Aside0.mk (blk_kept (bl_ BK281.out) hkp (fun hs_ => (fun e_ => (Kd.R_ne HO_291000.out BK281.out (by decide)) e_) hs_)); have n6_ := Aside0.mk (blk_kept (bl_ BK290.out) hkp (fun hs_ => (fun e_ => (Kd.R_ne HO_291000.out BK290.out (by decide)) e_) hs_)); have n7_ := Aside0.mk (hb); clear HO_274000 HO_282000 HO_291000 BK256 BK273 BK281 BK290 HB; have HO_274000 := n0_; have HO_282000 := n1_; have HO_291000 := n2_; have BK256 := n3_; have BK273 := n4_; have BK281 := n5_; have BK290 := n6_; have HB := n7_; clear n0_ n1_ n2_ n3_ n4_ n5_ n6_ n7_; (try clear hb); (try clear hkp); (try clear hy0); obtain ⟨hcz174_0, hcz174_1, hcz174_2, hcz174_3, hcz174_4, hfz174_0, hfz174_1, hfz174_2, hfz174_3, hfz174_4⟩ := cz5_ BK290.out) | ((with_reducible refine gate_callee (f := 19) rfl ?_); refine goesL_ (some 71) rfl rfl Try.func19 (by kernel_rfl) rfl #[.agg #[.slice Ao33 t304.length co33, .int .i64 t285, .int .i64 t286, .int .i64 t287, .int .i64 t288], .int .i64 1] rfl (by (try simp only [List.map_toArray, List.map_cons, List.map_nil]); first | done | (rw [show t304.length = t282.length from (Kd.R_reads' HO_291000.out).1.symm] <;> rfl) | rfl | (simp only [List.length_drop, List.length_take]; rfl)) ?_; (with_reducible refine (laws_heldQueue.calls kj60 _ _ t304 t285 t286 t287 t288 1 t305 _ ?side1 ?side2 A92.out).mono ?_); (case side1 => repeat (first | exact (Kd.R_reads' HO_291000.out).2.2 | (with_reducible refine Kd.C_alloc ?_ _) | (with_reducible refine Kd.C_drewN ?_ _) | (with_reducible refine Kd.C_drew ?_))); (case side2 => rw [show t304.length = t282.length from (Kd.R_reads' HO_291000.out).1.symm]; exact (Kd.R_reads' HO_291000.out).2.1); rintro e w175 ⟨rfl, hb⟩; refine ⟨_, rfl, ?_⟩; have n0_ := Aside0.mk (Kd.R_below (ro_ HO_274000.out) hb); have n1_ := Aside0.mk (Kd.R_below (ro_ HO_282000.out) hb); have n2_ := Aside0.mk (Kd.R_below (ro_ HO_291000.out) hb); have n3_ := Aside0.mk (blk_below (g := gb256) (o := .cells #[.slice A0_0 l0_0.length c0_0, .int .i64 a0_1, .int .i64 a0_2, .int .i64 a0_3, .int .i64 a0_4] 24 (0, 0)) (bl_ BK256.out) hb); have n4_ := Aside0.mk (blk_below (g := gb273) (o := .cells #[.slice Ao21 t265.length co21, .int .i64 t268, .int .i64 t269, .int .i64 t270, .int .i64 t271] 28 (0, 0)) (bl_ BK273.out) hb); have n5_ := Aside0.mk (blk_below (g := gb281) (o := .cells #[.slice Ao27 t301.length co27, .int .i64 t277, .int .i64 t278, .int .i64 t279, .int .i64 t280] 28 (0, 0)) (bl_ BK281.out) hb); have n6_ := Aside0.mk (blk_below (g := gb290) (o := .cells #[.slice Ao33 t282.length co33, .int .i64 t285, .int .i64 t286, .int .i64 t287, .int .i64 t288] 28 (0, 0)) (bl_ BK290.out) hb); have n7_ := Aside0.mk (below_step (be_ HB.out) hb); clear HO_274000 HO_282000 HO_291000 BK256 BK273 BK281 BK290 HB; have HO_274000 := n0_; have HO_282000 := n1_; have HO_291000 := n2_; have BK256 := n3_; have BK273 := n4_; have BK281 := n5_; have BK290 := n6_; have HB := n7_; clear n0_ n1_ n2_ n3_ n4_ n5_ n6_ n7_; (try clear hb); (try clear hb2); (try clear hk); (try clear hi)))
                      go_ret
                      exact ⟨by first | rfl | (simp [errW_none, errW_some] <;> rfl) | (simp [*, errW_none, errW_some] <;> rfl), be_ HB.out⟩
          · replace c59 := Bool.eq_false_iff.mpr c59
            subst c59
            have H1 : (some false) = some r := by rw [if_neg (show ¬ (false = true) by decide)] at H; exact H
            clear H
            have H := H1
            clear H1
            obtain rfl := Option.some.inj H
            try go_wp2
            have n0_ := Aside0.mk (Kd.R_drew HO_274000.out)
            have n1_ := Aside0.mk (Kd.R_drew HO_282000.out)
            have n2_ := Aside0.mk (Kd.R_drew HO_291000.out)
            have n3_ := Aside0.mk (blk_drew BK256.out)
            have n4_ := Aside0.mk (blk_drew BK273.out)
            have n5_ := Aside0.mk (blk_drew BK281.out)
            have n6_ := Aside0.mk (blk_drew BK290.out)
            have n7_ := Aside0.mk (below_drew1 HB.out)
            clear HO_274000
            clear HO_282000
            clear HO_291000
            clear BK256
            clear BK273
            clear BK281
            clear BK290
            clear HB
            have HO_274000 := n0_
            have HO_282000 := n1_
            have HO_291000 := n2_
            have BK256 := n3_
            have BK273 := n4_
            have BK281 := n5_
            have BK290 := n6_
            have HB := n7_
            clear n0_ n1_ n2_ n3_ n4_ n5_ n6_ n7_
            refine start_ (n := 5) (S := fun w' => w'.cell? ⟨gb281, 0, none⟩ = some (.slice Ao27 t274.length co27) ∧ w'.cell? ⟨gb281, 1, none⟩ = some (.int .i64 t277) ∧ w'.cell? ⟨gb281, 2, none⟩ = some (.int .i64 t278) ∧ w'.cell? ⟨gb281, 3, none⟩ = some (.int .i64 t279) ∧ w'.cell? ⟨gb281, 4, none⟩ = some (.int .i64 t280) ∧ w'.cell? ⟨gb256, 0, none⟩ = some (.slice A0_0 l0_0.length c0_0) ∧ w'.cell? ⟨gb256, 1, none⟩ = some (.int .i64 a0_1) ∧ w'.cell? ⟨gb256, 2, none⟩ = some (.int .i64 a0_2) ∧ w'.cell? ⟨gb256, 3, none⟩ = some (.int .i64 a0_3) ∧ w'.cell? ⟨gb256, 4, none⟩ = some (.int .i64 a0_4)) (ds := []) #[false, false, false, false, false] (by kernel_rfl) rfl rfl ⟨(blk_cell BK281.out 0).trans rfl, (blk_cell BK281.out 1).trans rfl, (blk_cell BK281.out 2).trans rfl, (blk_cell BK281.out 3).trans rfl, (blk_cell BK281.out 4).trans rfl, (blk_cell BK256.out 0).trans rfl, (blk_cell BK256.out 1).trans rfl, (blk_cell BK256.out 2).trans rfl, (blk_cell BK256.out 3).trans rfl, (blk_cell BK256.out 4).trans rfl⟩ (fun hHeld => ?_)
            generalize wc.drew = w176 at HO_274000 HO_282000 HO_291000 BK256 BK273 BK281 BK290 HB hHeld ⊢
            refine take_ (i := 0) (N := some 45) (v := ?_) (a' := ?_) #[true, false, false, false, false] rfl rfl (by kernel_rfl) (fun _ _ _ h => h) (Or.inl ⟨by rfl, ?_⟩) hHeld ?_ ?_
            rotate_left
            · rintro w' ⟨s0, s1, s2, s3, s4, s5, s6, s7, s8, s9⟩
              go_simp
              with_reducible rfl
            rotate_left
            · simp only [Act.put, List.setIfInBounds_toArray, List.set_cons_zero, List.set_cons_succ, i64_w, i32_w]
              rfl
            refine take_ (i := 1) (N := some 46) (v := ?_) (a' := ?_) #[true, true, false, false, false] rfl rfl (by kernel_rfl) (fun _ _ _ h => h) (Or.inl ⟨by rfl, ?_⟩) hHeld ?_ ?_
            rotate_left
            · rintro w' ⟨s0, s1, s2, s3, s4, s5, s6, s7, s8, s9⟩
              go_simp
              with_reducible rfl
            rotate_left
            · simp only [Act.put, List.setIfInBounds_toArray, List.set_cons_zero, List.set_cons_succ, i64_w, i32_w]
              rfl
            refine one_ (i := 2) (N := some 47) #[true, true, true, false, false] rfl rfl (by kernel_rfl) (by decide) (fun K hK => ?_)
            refine goes_ Try.func15 (by kernel_rfl) rfl #[.agg #[.slice A0_0 l0_0.length c0_0, .int .i64 a0_1, .int .i64 a0_2, .int .i64 a0_3, .int .i64 a0_4]] (by rfl) rfl rfl (by (try simp only [List.map_toArray, List.map_cons, List.map_nil]); first | done | rfl | (simp only [List.length_drop, List.length_take]; rfl)) ?_
            with_reducible refine (laws_toQueue.calls kj11 _ _ l0_0 a0_1 a0_2 a0_3 a0_4 t292 t295 t296 t297 t298 _ ?side1 ?side2 A57.out).mono ?_
            (case side1 => repeat (first | exact (Kd.C_below HR0_0.out HB.out) | (with_reducible refine Kd.C_alloc ?_ _) | (with_reducible refine Kd.C_drewN ?_ _) | (with_reducible refine Kd.C_drew ?_)))
            (case side2 => exact HC0_0.out)
            rintro e w177 ⟨v293, rfl, ho0, hb⟩
            refine ⟨_, rfl, ?_⟩
            have n0_ := Aside0.mk (Kd.R_elder' (ro_ HO_274000.out) (Kd.R_base ho0) hb)
            have n1_ := Aside0.mk (Kd.R_elder' (ro_ HO_282000.out) (Kd.R_base ho0) hb)
            have n2_ := Aside0.mk (Kd.R_elder' (ro_ HO_291000.out) (Kd.R_base ho0) hb)
            have n3_ := Aside0.mk (Kd.R_lower (Kd.R_new' (Kd.R_new' (Kd.R_new' ho0 (Kd.R_lt (ro_ HO_274000.out))) (Kd.R_lt (ro_ HO_282000.out))) (Kd.R_lt (ro_ HO_291000.out))) (below_size (be_ HB.out)))
            have n4_ := Aside0.mk (blk_below (g := gb256) (o := .cells #[.slice A0_0 l0_0.length c0_0, .int .i64 a0_1, .int .i64 a0_2, .int .i64 a0_3, .int .i64 a0_4] 24 (0, 0)) (bl_ BK256.out) hb)
            have n5_ := Aside0.mk (blk_below (g := gb273) (o := .cells #[.slice Ao21 t265.length co21, .int .i64 t268, .int .i64 t269, .int .i64 t270, .int .i64 t271] 28 (0, 0)) (bl_ BK273.out) hb)
            have n6_ := Aside0.mk (blk_below (g := gb281) (o := .cells #[.slice Ao27 t274.length co27, .int .i64 t277, .int .i64 t278, .int .i64 t279, .int .i64 t280] 28 (0, 0)) (bl_ BK281.out) hb)
            have n7_ := Aside0.mk (blk_below (g := gb290) (o := .cells #[.slice Ao33 t282.length co33, .int .i64 t285, .int .i64 t286, .int .i64 t287, .int .i64 t288] 28 (0, 0)) (bl_ BK290.out) hb)
            have n8_ := Aside0.mk (below_step (be_ HB.out) hb)
            clear HO_274000
            clear HO_282000
            clear HO_291000
            clear BK256
            clear BK273
            clear BK281
            clear BK290
            clear HB
            have HO_274000 := n0_
            have HO_282000 := n1_
            have HO_291000 := n2_
            have HO294 := n3_
            have BK256 := n4_
            have BK273 := n5_
            have BK281 := n6_
            have BK290 := n7_
            have HB := n8_
            clear n0_ n1_ n2_ n3_ n4_ n5_ n6_ n7_ n8_
            (try clear hb)
            (try clear hb2)
            (try clear hk)
            (try clear hi)
            (try clear ho0)
            obtain ⟨Ao178, co178, eo178⟩ := Kd.R_slice HO294.out
            (first | subst eo178 | (injection eo178 with f1_ f2_ f3_; have f4_ := f1_.symm; have f5_ := f3_.symm; clear f1_ f2_ f3_; subst f4_; subst f5_))
            refine hK.out _ _ ⟨(blk_cell BK281.out 0).trans rfl, (blk_cell BK281.out 1).trans rfl, (blk_cell BK281.out 2).trans rfl, (blk_cell BK281.out 3).trans rfl, (blk_cell BK281.out 4).trans rfl, (blk_cell BK256.out 0).trans rfl, (blk_cell BK256.out 1).trans rfl, (blk_cell BK256.out 2).trans rfl, (blk_cell BK256.out 3).trans rfl, (blk_cell BK256.out 4).trans rfl⟩ (fun hHeld => ?_)
            clear hK K
            refine norm_ (a' := ?_) ?_ ?_
            rotate_left
            · show Act.put _ (some 47) _ = _
              simp only [Act.put, List.setIfInBounds_toArray, List.set_cons_zero, List.set_cons_succ, i64_w, i32_w]
              rfl
            refine one_ (i := 3) (N := some 48) #[true, true, true, true, false] rfl rfl (by kernel_rfl) (by decide) (fun K hK => ?_)
            refine goes_ Try.func17 (by kernel_rfl) rfl #[.agg #[.slice Ao27 t274.length co27, .int .i64 t277, .int .i64 t278, .int .i64 t279, .int .i64 t280], .agg #[.slice Ao178 t292.length co178, .int .i64 t295, .int .i64 t296, .int .i64 t297, .int .i64 t298]] (by rfl) rfl rfl (by (try simp only [List.map_toArray, List.map_cons, List.map_nil]); first | done | rfl | (simp only [List.length_drop, List.length_take]; rfl)) ?_
            with_reducible refine (laws_eqQueue.calls kj11 _ _ t274 t277 t278 t279 t280 _ _ t292 t295 t296 t297 t298 false _ ?side1 ?side2 ?side3 ?side4 A58.out).mono ?_
            (case side1 => repeat (first | exact (Kd.R_reads' HO_282000.out).2.2 | (with_reducible refine Kd.C_alloc ?_ _) | (with_reducible refine Kd.C_drewN ?_ _) | (with_reducible refine Kd.C_drew ?_)))
            (case side2 => exact (Kd.R_reads' HO_282000.out).2.1)
            (case side3 => repeat (first | exact (Kd.R_reads' HO294.out).2.2 | (with_reducible refine Kd.C_alloc ?_ _) | (with_reducible refine Kd.C_drewN ?_ _) | (with_reducible refine Kd.C_drew ?_)))
            (case side4 => exact (Kd.R_reads' HO294.out).2.1)
            rintro e w179 ⟨rfl, hb⟩
            refine ⟨_, rfl, ?_⟩
            have n0_ := Aside0.mk (Kd.R_below (ro_ HO_274000.out) hb)
            have n1_ := Aside0.mk (Kd.R_below (ro_ HO_282000.out) hb)
            have n2_ := Aside0.mk (Kd.R_below (ro_ HO_291000.out) hb)
            have n3_ := Aside0.mk (Kd.R_below (ro_ HO294.out) hb)
            have n4_ := Aside0.mk (blk_below (g := gb256) (o := .cells #[.slice A0_0 l0_0.length c0_0, .int .i64 a0_1, .int .i64 a0_2, .int .i64 a0_3, .int .i64 a0_4] 24 (0, 0)) (bl_ BK256.out) hb)
            have n5_ := Aside0.mk (blk_below (g := gb273) (o := .cells #[.slice Ao21 t265.length co21, .int .i64 t268, .int .i64 t269, .int .i64 t270, .int .i64 t271] 28 (0, 0)) (bl_ BK273.out) hb)
            have n6_ := Aside0.mk (blk_below (g := gb281) (o := .cells #[.slice Ao27 t274.length co27, .int .i64 t277, .int .i64 t278, .int .i64 t279, .int .i64 t280] 28 (0, 0)) (bl_ BK281.out) hb)
            have n7_ := Aside0.mk (blk_below (g := gb290) (o := .cells #[.slice Ao33 t282.length co33, .int .i64 t285, .int .i64 t286, .int .i64 t287, .int .i64 t288] 28 (0, 0)) (bl_ BK290.out) hb)
            have n8_ := Aside0.mk (below_step (be_ HB.out) hb)
            clear HO_274000
            clear HO_282000
            clear HO_291000
            clear HO294
            clear BK256
            clear BK273
            clear BK281
            clear BK290
            clear HB
            have HO_274000 := n0_
            have HO_282000 := n1_
            have HO_291000 := n2_
            have HO294 := n3_
            have BK256 := n4_
            have BK273 := n5_
            have BK281 := n6_
            have BK290 := n7_
            have HB := n8_
            clear n0_ n1_ n2_ n3_ n4_ n5_ n6_ n7_ n8_
            (try clear hb)
            (try clear hb2)
            (try clear hk)
            (try clear hi)
            refine hK.out _ _ ⟨(blk_cell BK281.out 0).trans rfl, (blk_cell BK281.out 1).trans rfl, (blk_cell BK281.out 2).trans rfl, (blk_cell BK281.out 3).trans rfl, (blk_cell BK281.out 4).trans rfl, (blk_cell BK256.out 0).trans rfl, (blk_cell BK256.out 1).trans rfl, (blk_cell BK256.out 2).trans rfl, (blk_cell BK256.out 3).trans rfl, (blk_cell BK256.out 4).trans rfl⟩ (fun hHeld => ?_)
            clear hK K
            refine norm_ (a' := ?_) ?_ ?_
            rotate_left
            · show Act.put _ (some 48) _ = _
              simp only [Act.put, List.setIfInBounds_toArray, List.set_cons_zero, List.set_cons_succ, i64_w, i32_w]
              rfl
            refine pure_ (i := 4) (N := some 49) (v := ?_) (a' := ?_) #[true, true, true, true, true] rfl rfl (by kernel_rfl) (fun _ _ _ h => h) (Or.inl ⟨by rfl, ?_⟩) ?_ ?_
            rotate_left
            · intro w'
              go_simp
              with_reducible rfl
            rotate_left
            · simp only [Act.put, List.setIfInBounds_toArray, List.set_cons_zero, List.set_cons_succ, i64_w, i32_w]
              rfl
            refine done_ (by kernel_rfl) ?_
            try go_wp2
            go_ret
            exact ⟨by first | rfl | (simp [errW_none, errW_some] <;> rfl) | (simp [*, errW_none, errW_some] <;> rfl), be_ HB.out⟩

end Go.Proofs.Ytgpgkedbanmheaa.MFnExactPushBack
