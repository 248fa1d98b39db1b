-- Written by a program of this session over the kit's print, with stand-ins for the functions that the print leaves; Lean checks it.
import Derived.Test.YthafbkpoepblgaeMFnExactOnFailurex0
import Derived.Test.YthafbkpoepblgaeMFnExactOnFailurex1
import Derived.Test.YthafbkpoepblgaeMFnExactOnFailurex4
import Derived.Test.YthafbkpoepblgaeMFnExactOnFailurex5
import Derived.Test.YthafbkpoepblgaeMFnExactOnFailurex8
import Derived.Test.YthafbkpoepblgaeMFnExactOnFailurex9
namespace Go.Proofs.Ythafbkpoepblgae.MFnExactOnFailure
open Go.RowKit Go.Proofs.YthafbkpoepblgaeW.PrintWords Go.Proofs.YthafbkpoepblgaeW.PrintLast Go.Proofs.YthafbkpoepblgaeW.PrintMore
attribute [local go_sem] max2_int min2_int max_two min_two max_three min_three max_four min_four   -- for this text's walks alone
set_option linter.unusedVariables false
set_option linter.unusedSimpArgs false

/-! ### laws_FnExactOnFailure: function 3 -/
mutual
def laws_FnExactOnFailure.j0 : Nat → Int → Bool → Bool → Bool → Int → Int → Int → Int → Int → Int → Int → Int → Int → Int → Int → Int → Int → Int → Int → List Int → Int → Int → List Int → Int → Int → List Int → Int → Int → List Int → Int → Option (Bool)
 | 0, _, _, _, _, _, _, _, _, _, _, _, _, _, _, _, _, _, _, _, _, _, _, _, _, _, _, _, _, _, _ => none
 | k + 1, x2, x9, x12, x50, x258000, x258001, x258002, x258003, x258004, x258005, x258006, x258007, x258008, x258009, x258010, x258011, x258012, x258013, x259000, x259001, x259002, x286000, x286001, x286002, x292000, x292001, x292002, x313000, x313001, x313002 => if x50 = true then (some false) else ((laws_toBreaker.f k x259000 x259001 x259002).bind fun bt314 => ((laws_eqBreaker.f k x292000 x292001 x292002 bt314.1 bt314.2.1 bt314.2.2).bind fun t319 => (if t319 = true then ((laws_markBreaker.f k x292000 x292001 x292002 1).bind fun bt320 => (if bt320.1 < 0 then (laws_FnExactOnFailure.j1 k x2 x9 true x258000 x258001 x258002 x258003 x258004 x258005 x258006 x258007 x258008 x258009 x258010 x258011 x258012 x258013 x259000 x259001 x259002 x286000 x286001 x286002 x313000 x313001 x313002) else ((laws_eqBreaker.f k x313000 x313001 x313002 x286000 x286001 x286002).bind fun t322 => (if t322 = true then (laws_FnExactOnFailure.j1 k x2 x9 (x12 != x9) x258000 x258001 x258002 x258003 x258004 x258005 x258006 x258007 x258008 x258009 x258010 x258011 x258012 x258013 x259000 x259001 x259002 x286000 x286001 x286002 x313000 x313001 x313002) else (laws_FnExactOnFailure.j1 k x2 x9 true x258000 x258001 x258002 x258003 x258004 x258005 x258006 x258007 x258008 x258009 x258010 x258011 x258012 x258013 x259000 x259001 x259002 x286000 x286001 x286002 x313000 x313001 x313002))))) else (some false))))
def laws_FnExactOnFailure.j1 : Nat → Int → Bool → Bool → Int → Int → Int → Int → Int → Int → Int → Int → Int → Int → Int → Int → Int → Int → Int → List Int → Int → Int → List Int → Int → Int → List Int → Int → Option (Bool)
 | 0, _, _, _, _, _, _, _, _, _, _, _, _, _, _, _, _, _, _, _, _, _, _, _, _, _, _ => none
 | k + 1, x2, x9, x71, x258000, x258001, x258002, x258003, x258004, x258005, x258006, x258007, x258008, x258009, x258010, x258011, x258012, x258013, x259000, x259001, x259002, x286000, x286001, x286002, x313000, x313001, x313002 => if x71 = true then (some false) else ((laws_markBreaker.f k x313000 x313001 x313002 1).bind fun bt323 => ((laws_heldBreaker.f k x313000 bt323.2 x313002 1).bind fun t325 => (if t325 < 0 then (some false) else (if t325 = bt323.1 then ((laws_toConfig.f x258000 x258001 x258002 x258003 x258004 x258005 x258006 x258007 x258008 x258009 x258010 x258011 x258012 x258013).bind fun bt326 => ((laws_toBreaker.f k x259000 x259001 x259002).bind fun bt340 => ((impl_OnFailure.f k bt326.1 bt326.2.1 bt326.2.2.1 bt326.2.2.2.1 bt326.2.2.2.2.1 bt326.2.2.2.2.2.1 bt326.2.2.2.2.2.2.1 bt326.2.2.2.2.2.2.2.1 bt326.2.2.2.2.2.2.2.2.1 bt326.2.2.2.2.2.2.2.2.2.1 bt326.2.2.2.2.2.2.2.2.2.2.1 bt326.2.2.2.2.2.2.2.2.2.2.2.1 bt326.2.2.2.2.2.2.2.2.2.2.2.2.1 bt326.2.2.2.2.2.2.2.2.2.2.2.2.2 bt340.1 bt340.2.1 bt340.2.2 x2).bind fun bt345 => ((laws_eqBreaker.f k bt345.1 bt345.2.1 bt345.2.2.1 x286000 x286001 x286002).bind fun t352 => (if t352 = true then (laws_FnExactOnFailure.j2 k bt323.1 (bt345.2.2.2 != x9) x313000 bt323.2 x313002) else (laws_FnExactOnFailure.j2 k bt323.1 true x313000 bt323.2 x313002)))))) else (some false)))))
def laws_FnExactOnFailure.j2 : Nat → Int → Bool → Int → List Int → Int → Option (Bool)
 | 0, _, _, _, _, _ => none
 | k + 1, x14, x100, x313000, x313001, x313002 => if x100 = true then (some false) else ((laws_heldBreaker.f k x313000 x313001 x313002 1).bind fun t353 => (if t353 < 0 then (some false) else (if t353 = x14 then (some true) else (some false))))
end
def laws_FnExactOnFailure.f (k : Nat) (a0_0 : Int) (a0_1 : Int) (a0_2 : Int) (a0_3 : Int) (a0_4 : Int) (a0_5 : Int) (a0_6 : Int) (a0_7 : Int) (a0_8 : Int) (a0_9 : Int) (a0_10 : Int) (a0_11 : Int) (a0_12 : Int) (a0_13 : Int) (a1_0 : Int) (l1_1 : List Int) (a1_2 : Int) (a2 : Int) : Option (Bool) := (laws_szBreaker.f a1_0 l1_1 a1_2 1048576).bind fun t259 => (if t259 < 0 then (some true) else ((laws_toConfig.f a0_0 a0_1 a0_2 a0_3 a0_4 a0_5 a0_6 a0_7 a0_8 a0_9 a0_10 a0_11 a0_12 a0_13).bind fun bt260 => ((laws_toBreaker.f k a1_0 l1_1 a1_2).bind fun bt274 => ((spec_OnFailure.f k bt260.1 bt260.2.1 bt260.2.2.1 bt260.2.2.2.1 bt260.2.2.2.2.1 bt260.2.2.2.2.2.1 bt260.2.2.2.2.2.2.1 bt260.2.2.2.2.2.2.2.1 bt260.2.2.2.2.2.2.2.2.1 bt260.2.2.2.2.2.2.2.2.2.1 bt260.2.2.2.2.2.2.2.2.2.2.1 bt260.2.2.2.2.2.2.2.2.2.2.2.1 bt260.2.2.2.2.2.2.2.2.2.2.2.2.1 bt260.2.2.2.2.2.2.2.2.2.2.2.2.2 bt274.1 bt274.2.1 bt274.2.2 a2).bind fun bt279 => ((laws_toBreaker.f k a1_0 l1_1 a1_2).bind fun bt286 => ((laws_toConfig.f a0_0 a0_1 a0_2 a0_3 a0_4 a0_5 a0_6 a0_7 a0_8 a0_9 a0_10 a0_11 a0_12 a0_13).bind fun bt292 => ((impl_OnFailure.f k bt292.1 bt292.2.1 bt292.2.2.1 bt292.2.2.2.1 bt292.2.2.2.2.1 bt292.2.2.2.2.2.1 bt292.2.2.2.2.2.2.1 bt292.2.2.2.2.2.2.2.1 bt292.2.2.2.2.2.2.2.2.1 bt292.2.2.2.2.2.2.2.2.2.1 bt292.2.2.2.2.2.2.2.2.2.2.1 bt292.2.2.2.2.2.2.2.2.2.2.2.1 bt292.2.2.2.2.2.2.2.2.2.2.2.2.1 bt292.2.2.2.2.2.2.2.2.2.2.2.2.2 bt286.1 bt286.2.1 bt286.2.2 a2).bind fun bt306 => ((laws_eqBreaker.f k bt306.1 bt306.2.1 bt306.2.2.1 bt279.1 bt279.2.1 bt279.2.2.1).bind fun t313 => (if t313 = true then (laws_FnExactOnFailure.j0 k a2 bt279.2.2.2 bt306.2.2.2 (bt306.2.2.2 != bt279.2.2.2) a0_0 a0_1 a0_2 a0_3 a0_4 a0_5 a0_6 a0_7 a0_8 a0_9 a0_10 a0_11 a0_12 a0_13 a1_0 l1_1 a1_2 bt279.1 bt279.2.1 bt279.2.2.1 bt286.1 bt286.2.1 bt286.2.2 bt306.1 bt306.2.1 bt306.2.2.1) else (laws_FnExactOnFailure.j0 k a2 bt279.2.2.2 bt306.2.2.2 true a0_0 a0_1 a0_2 a0_3 a0_4 a0_5 a0_6 a0_7 a0_8 a0_9 a0_10 a0_11 a0_12 a0_13 a1_0 l1_1 a1_2 bt279.1 bt279.2.1 bt279.2.2.1 bt286.1 bt286.2.1 bt286.2.2 bt306.1 bt306.2.1 bt306.2.2.1))))))))))
theorem laws_FnExactOnFailure.mono_l : ∀ k, (∀ y0 y1 y2 y3 y4 y5 y6 y7 y8 y9 y10 y11 y12 y13 y14 y15 y16 y17 y18 y19 y20 y21 y22 y23 y24 y25 y26 y27 y28 y29, LeO (laws_FnExactOnFailure.j0 k y0 y1 y2 y3 y4 y5 y6 y7 y8 y9 y10 y11 y12 y13 y14 y15 y16 y17 y18 y19 y20 y21 y22 y23 y24 y25 y26 y27 y28 y29) (laws_FnExactOnFailure.j0 (k + 1) y0 y1 y2 y3 y4 y5 y6 y7 y8 y9 y10 y11 y12 y13 y14 y15 y16 y17 y18 y19 y20 y21 y22 y23 y24 y25 y26 y27 y28 y29)) ∧ (∀ y0 y1 y2 y3 y4 y5 y6 y7 y8 y9 y10 y11 y12 y13 y14 y15 y16 y17 y18 y19 y20 y21 y22 y23 y24 y25, LeO (laws_FnExactOnFailure.j1 k y0 y1 y2 y3 y4 y5 y6 y7 y8 y9 y10 y11 y12 y13 y14 y15 y16 y17 y18 y19 y20 y21 y22 y23 y24 y25) (laws_FnExactOnFailure.j1 (k + 1) y0 y1 y2 y3 y4 y5 y6 y7 y8 y9 y10 y11 y12 y13 y14 y15 y16 y17 y18 y19 y20 y21 y22 y23 y24 y25)) ∧ (∀ y0 y1 y2 y3 y4, LeO (laws_FnExactOnFailure.j2 k y0 y1 y2 y3 y4) (laws_FnExactOnFailure.j2 (k + 1) y0 y1 y2 y3 y4))
 | 0 => ⟨fun _ _ _ _ _ _ _ _ _ _ _ _ _ _ _ _ _ _ _ _ _ _ _ _ _ _ _ _ _ _ r h => by simp [laws_FnExactOnFailure.j0] at h, fun _ _ _ _ _ _ _ _ _ _ _ _ _ _ _ _ _ _ _ _ _ _ _ _ _ _ r h => by simp [laws_FnExactOnFailure.j1] at h, fun _ _ _ _ _ r h => by simp [laws_FnExactOnFailure.j2] at h⟩
 | k + 1 => by
  obtain ⟨ih0, ih1, ih2⟩ := laws_FnExactOnFailure.mono_l k
  refine ⟨?_, ?_, ?_⟩
  ·
   intro y0 y1 y2 y3 y4 y5 y6 y7 y8 y9 y10 y11 y12 y13 y14 y15 y16 y17 y18 y19 y20 y21 y22 y23 y24 y25 y26 y27 y28 y29
   unfold laws_FnExactOnFailure.j0
   repeat' first
   | (with_reducible exact ih0 _ _ _ _ _ _ _ _ _ _ _ _ _ _ _ _ _ _ _ _ _ _ _ _ _ _ _ _ _ _)
   | (with_reducible exact ih1 _ _ _ _ _ _ _ _ _ _ _ _ _ _ _ _ _ _ _ _ _ _ _ _ _ _)
   | (with_reducible exact ih2 _ _ _ _ _)
   | (with_reducible exact impl_OnFailure.mono _ _ _ _ _ _ _ _ _ _ _ _ _ _ _ _ _ _ _)
   | (with_reducible exact laws_eqBreaker.mono _ _ _ _ _ _ _)
   | (with_reducible exact laws_heldBreaker.mono _ _ _ _ _)
   | (with_reducible exact laws_markBreaker.mono _ _ _ _ _)
   | (with_reducible exact laws_toBreaker.mono _ _ _ _)
   | (with_reducible exact spec_OnFailure.mono _ _ _ _ _ _ _ _ _ _ _ _ _ _ _ _ _ _ _)
   | (with_reducible exact LeO.refl _)
   | (with_reducible exact LeO.none _)
   | (with_reducible refine LeO.ite ?_ ?_)
   | (with_reducible refine LeO.bind ?_ (fun _ => ?_))
   | exact ih0 _ _ _ _ _ _ _ _ _ _ _ _ _ _ _ _ _ _ _ _ _ _ _ _ _ _ _ _ _ _
   | exact ih1 _ _ _ _ _ _ _ _ _ _ _ _ _ _ _ _ _ _ _ _ _ _ _ _ _ _
   | exact ih2 _ _ _ _ _
   | exact impl_OnFailure.mono _ _ _ _ _ _ _ _ _ _ _ _ _ _ _ _ _ _ _
   | exact laws_eqBreaker.mono _ _ _ _ _ _ _
   | exact laws_heldBreaker.mono _ _ _ _ _
   | exact laws_markBreaker.mono _ _ _ _ _
   | exact laws_toBreaker.mono _ _ _ _
   | exact spec_OnFailure.mono _ _ _ _ _ _ _ _ _ _ _ _ _ _ _ _ _ _ _
   | exact LeO.none _
   | refine LeO.ite ?_ ?_
   | refine LeO.bind ?_ (fun _ => ?_)
  ·
   intro y0 y1 y2 y3 y4 y5 y6 y7 y8 y9 y10 y11 y12 y13 y14 y15 y16 y17 y18 y19 y20 y21 y22 y23 y24 y25
   unfold laws_FnExactOnFailure.j1
   repeat' first
   | (with_reducible exact ih0 _ _ _ _ _ _ _ _ _ _ _ _ _ _ _ _ _ _ _ _ _ _ _ _ _ _ _ _ _ _)
   | (with_reducible exact ih1 _ _ _ _ _ _ _ _ _ _ _ _ _ _ _ _ _ _ _ _ _ _ _ _ _ _)
   | (with_reducible exact ih2 _ _ _ _ _)
   | (with_reducible exact impl_OnFailure.mono _ _ _ _ _ _ _ _ _ _ _ _ _ _ _ _ _ _ _)
   | (with_reducible exact laws_eqBreaker.mono _ _ _ _ _ _ _)
   | (with_reducible exact laws_heldBreaker.mono _ _ _ _ _)
   | (with_reducible exact laws_markBreaker.mono _ _ _ _ _)
   | (with_reducible exact laws_toBreaker.mono _ _ _ _)
   | (with_reducible exact spec_OnFailure.mono _ _ _ _ _ _ _ _ _ _ _ _ _ _ _ _ _ _ _)
   | (with_reducible exact LeO.refl _)
   | (with_reducible exact LeO.none _)
   | (with_reducible refine LeO.ite ?_ ?_)
   | (with_reducible refine LeO.bind ?_ (fun _ => ?_))
   | exact ih0 _ _ _ _ _ _ _ _ _ _ _ _ _ _ _ _ _ _ _ _ _ _ _ _ _ _ _ _ _ _
   | exact ih1 _ _ _ _ _ _ _ _ _ _ _ _ _ _ _ _ _ _ _ _ _ _ _ _ _ _
   | exact ih2 _ _ _ _ _
   | exact impl_OnFailure.mono _ _ _ _ _ _ _ _ _ _ _ _ _ _ _ _ _ _ _
   | exact laws_eqBreaker.mono _ _ _ _ _ _ _
   | exact laws_heldBreaker.mono _ _ _ _ _
   | exact laws_markBreaker.mono _ _ _ _ _
   | exact laws_toBreaker.mono _ _ _ _
   | exact spec_OnFailure.mono _ _ _ _ _ _ _ _ _ _ _ _ _ _ _ _ _ _ _
   | exact LeO.none _
   | refine LeO.ite ?_ ?_
   | refine LeO.bind ?_ (fun _ => ?_)
  intro y0 y1 y2 y3 y4
  unfold laws_FnExactOnFailure.j2
  repeat' first
  | (with_reducible exact ih0 _ _ _ _ _ _ _ _ _ _ _ _ _ _ _ _ _ _ _ _ _ _ _ _ _ _ _ _ _ _)
  | (with_reducible exact ih1 _ _ _ _ _ _ _ _ _ _ _ _ _ _ _ _ _ _ _ _ _ _ _ _ _ _)
  | (with_reducible exact ih2 _ _ _ _ _)
  | (with_reducible exact impl_OnFailure.mono _ _ _ _ _ _ _ _ _ _ _ _ _ _ _ _ _ _ _)
  | (with_reducible exact laws_eqBreaker.mono _ _ _ _ _ _ _)
  | (with_reducible exact laws_heldBreaker.mono _ _ _ _ _)
  | (with_reducible exact laws_markBreaker.mono _ _ _ _ _)
  | (with_reducible exact laws_toBreaker.mono _ _ _ _)
  | (with_reducible exact spec_OnFailure.mono _ _ _ _ _ _ _ _ _ _ _ _ _ _ _ _ _ _ _)
  | (with_reducible exact LeO.refl _)
  | (with_reducible exact LeO.none _)
  | (with_reducible refine LeO.ite ?_ ?_)
  | (with_reducible refine LeO.bind ?_ (fun _ => ?_))
  | exact ih0 _ _ _ _ _ _ _ _ _ _ _ _ _ _ _ _ _ _ _ _ _ _ _ _ _ _ _ _ _ _
  | exact ih1 _ _ _ _ _ _ _ _ _ _ _ _ _ _ _ _ _ _ _ _ _ _ _ _ _ _
  | exact ih2 _ _ _ _ _
  | exact impl_OnFailure.mono _ _ _ _ _ _ _ _ _ _ _ _ _ _ _ _ _ _ _
  | exact laws_eqBreaker.mono _ _ _ _ _ _ _
  | exact laws_heldBreaker.mono _ _ _ _ _
  | exact laws_markBreaker.mono _ _ _ _ _
  | exact laws_toBreaker.mono _ _ _ _
  | exact spec_OnFailure.mono _ _ _ _ _ _ _ _ _ _ _ _ _ _ _ _ _ _ _
  | exact LeO.none _
  | refine LeO.ite ?_ ?_
  | refine LeO.bind ?_ (fun _ => ?_)
theorem laws_FnExactOnFailure.mono : ∀ a0 a1 a2 a3 a4 a5 a6 a7 a8 a9 a10 a11 a12 a13 a14 a15 a16 a17 k, LeO (laws_FnExactOnFailure.f k a0 a1 a2 a3 a4 a5 a6 a7 a8 a9 a10 a11 a12 a13 a14 a15 a16 a17) (laws_FnExactOnFailure.f (k + 1) a0 a1 a2 a3 a4 a5 a6 a7 a8 a9 a10 a11 a12 a13 a14 a15 a16 a17) := by
 intro a0 a1 a2 a3 a4 a5 a6 a7 a8 a9 a10 a11 a12 a13 a14 a15 a16 a17 k
 obtain ⟨ih0, ih1, ih2⟩ := laws_FnExactOnFailure.mono_l k
 unfold laws_FnExactOnFailure.f
 repeat' first
  | (with_reducible exact ih0 _ _ _ _ _ _ _ _ _ _ _ _ _ _ _ _ _ _ _ _ _ _ _ _ _ _ _ _ _ _)
  | (with_reducible exact ih1 _ _ _ _ _ _ _ _ _ _ _ _ _ _ _ _ _ _ _ _ _ _ _ _ _ _)
  | (with_reducible exact ih2 _ _ _ _ _)
  | (with_reducible exact impl_OnFailure.mono _ _ _ _ _ _ _ _ _ _ _ _ _ _ _ _ _ _ _)
  | (with_reducible exact laws_eqBreaker.mono _ _ _ _ _ _ _)
  | (with_reducible exact laws_heldBreaker.mono _ _ _ _ _)
  | (with_reducible exact laws_markBreaker.mono _ _ _ _ _)
  | (with_reducible exact laws_toBreaker.mono _ _ _ _)
  | (with_reducible exact spec_OnFailure.mono _ _ _ _ _ _ _ _ _ _ _ _ _ _ _ _ _ _ _)
  | (with_reducible exact LeO.refl _)
  | (with_reducible exact LeO.none _)
  | (with_reducible refine LeO.ite ?_ ?_)
  | (with_reducible refine LeO.bind ?_ (fun _ => ?_))
  | exact ih0 _ _ _ _ _ _ _ _ _ _ _ _ _ _ _ _ _ _ _ _ _ _ _ _ _ _ _ _ _ _
  | exact ih1 _ _ _ _ _ _ _ _ _ _ _ _ _ _ _ _ _ _ _ _ _ _ _ _ _ _
  | exact ih2 _ _ _ _ _
  | exact impl_OnFailure.mono _ _ _ _ _ _ _ _ _ _ _ _ _ _ _ _ _ _ _
  | exact laws_eqBreaker.mono _ _ _ _ _ _ _
  | exact laws_heldBreaker.mono _ _ _ _ _
  | exact laws_markBreaker.mono _ _ _ _ _
  | exact laws_toBreaker.mono _ _ _ _
  | exact spec_OnFailure.mono _ _ _ _ _ _ _ _ _ _ _ _ _ _ _ _ _ _ _
  | exact LeO.none _
  | refine LeO.ite ?_ ?_
  | refine LeO.bind ?_ (fun _ => ?_)
def laws_FnExactOnFailure.T5 : Bool × List (List Nat × List Nat) := (true, [([], []), ([0], [0]), ([], []), ([2, 1], [2]), ([], []), ([1, 3, 4, 3], [1, 3, 4]), ([5], [5]), ([6], [6]), ([6], [6]), ([], []), ([9, 7, 5, 0, 1, 2, 3, 4, 5, 6, 7, 9], [7, 9]), ([8, 10, 0, 1, 2, 3, 4, 5, 6, 7, 8, 9, 10], [8])])
def laws_FnExactOnFailure.B5 : List Nat := [0, 1, 0, 7, 0, 31, 63, 127, 127, 0, 767, 2047]
theorem laws_FnExactOnFailure.tab5 : rtab .any (opsOf Try.f3 5) = laws_FnExactOnFailure.T5 := by kernel_rfl
theorem laws_FnExactOnFailure.bits5 : waitsOk laws_FnExactOnFailure.T5.2 laws_FnExactOnFailure.B5 = true := by kernel_rfl
def laws_FnExactOnFailure.T7 : Bool × List (List Nat × List Nat) := (true, [([], []), ([0], [0]), ([], []), ([], []), ([1, 2, 3, 1], [1, 2, 3]), ([4], [4]), ([5], [5]), ([5], [5]), ([], []), ([8, 6, 4, 0, 1, 2, 3, 4, 5, 6, 8], [6, 8]), ([7, 9, 0, 1, 2, 3, 4, 5, 6, 7, 8, 9], [7])])
def laws_FnExactOnFailure.B7 : List Nat := [0, 1, 0, 0, 15, 31, 63, 63, 0, 383, 1023]
theorem laws_FnExactOnFailure.tab7 : rtab .any (opsOf Try.f3 7) = laws_FnExactOnFailure.T7 := by kernel_rfl
theorem laws_FnExactOnFailure.bits7 : waitsOk laws_FnExactOnFailure.T7.2 laws_FnExactOnFailure.B7 = true := by kernel_rfl
def laws_FnExactOnFailure.T24 : Bool × List (List Nat × List Nat) := (true, [([], []), ([0], [0]), ([], []), ([2, 1], [2]), ([], []), ([1, 3, 4, 3], [1, 3, 4]), ([5], [5]), ([6], [6]), ([6], [6]), ([], []), ([9, 7, 5, 0, 1, 2, 3, 4, 5, 6, 7, 9], [7, 9]), ([8, 10, 0, 1, 2, 3, 4, 5, 6, 7, 8, 9, 10], [8])])
def laws_FnExactOnFailure.B24 : List Nat := [0, 1, 0, 7, 0, 31, 63, 127, 127, 0, 767, 2047]
theorem laws_FnExactOnFailure.tab24 : rtab .any (opsOf Try.f3 24) = laws_FnExactOnFailure.T24 := by kernel_rfl
theorem laws_FnExactOnFailure.bits24 : waitsOk laws_FnExactOnFailure.T24.2 laws_FnExactOnFailure.B24 = true := by kernel_rfl
end Go.Proofs.Ythafbkpoepblgae.MFnExactOnFailure
