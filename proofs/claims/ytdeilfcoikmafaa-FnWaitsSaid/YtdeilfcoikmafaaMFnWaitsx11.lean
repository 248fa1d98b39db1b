-- Written by a program of this session over the kit's print, with stand-ins for the functions that the print leaves; Lean checks it.
import Derived.Test.YtdeilfcoikmafaaMFnWaitsx0
import Derived.Test.YtdeilfcoikmafaaMFnWaitsx2
import Derived.Test.YtdeilfcoikmafaaMFnWaitsx3
import Derived.Test.YtdeilfcoikmafaaMFnWaitsx5
import Derived.Test.YtdeilfcoikmafaaMFnWaitsx6
import Derived.Test.YtdeilfcoikmafaaMFnWaitsx7
import Derived.Test.YtdeilfcoikmafaaMFnWaitsx10
namespace Go.Proofs.Ytdeilfcoikmafaa.MFnWaits
open Go.RowKit Go.Proofs.YtdeilfcoikmafaaW.PrintWords Go.Proofs.YtdeilfcoikmafaaW.PrintLast Go.Proofs.YtdeilfcoikmafaaW.PrintMore
attribute [local go_sem] max2_int min2_int max_two min_two max_three min_three max_four min_four   -- for this text's walks alone
set_option linter.unusedVariables false
set_option linter.unusedSimpArgs false

/-! ### laws_FnWaits: function 11 -/
mutual
def laws_FnWaits.l0 : Nat → List Int → List Int → Int → Int → Int → Int → Int → Int → Int → Int → Int → Int → Int → Int → Int → Int → Int → Int → Option (Bool)
 | 0, _, _, _, _, _, _, _, _, _, _, _, _, _, _, _, _, _, _ => none
 | k + 1, x0, x4, x5, x6, x410000, x410001, x410002, x410003, x410004, x410005, x410006, x410007, x410008, x410009, x410010, x410011, x410012, x410013 => if x6 < 12 then ((impl_FullWait.f k x410000 x410001 x410002 x410003 x410004 x410005 x410006 x410007 x410008 x410009 x410010 x410011 x410012 x410013 x6).bind fun t415 => ((impl_FullWait.f k x410000 x410001 x410002 x410003 x410004 x410005 x410006 x410007 x410008 x410009 x410010 x410011 x410012 x410013 (wrap64 (x6 + 1))).bind fun t416 => ((spec_FullWait.f k x410000 x410001 x410002 x410003 x410004 x410005 x410006 x410007 x410008 x410009 x410010 x410011 x410012 x410013 x6).bind fun t417 => (if t415 = t417 then (if t416 < t415 then (laws_FnWaits.j1 k x0 x4 x5 x6 t415 true x410000 x410001 x410002 x410003 x410004 x410005 x410006 x410007 x410008 x410009 x410010 x410011 x410012 x410013) else (if t415 > x410008 then (laws_FnWaits.j1 k x0 x4 x5 x6 t415 true x410000 x410001 x410002 x410003 x410004 x410005 x410006 x410007 x410008 x410009 x410010 x410011 x410012 x410013) else (if ((t415 == x410008) != (decide (x6 ≥ x5))) = true then (laws_FnWaits.j1 k x0 x4 x5 x6 t415 true x410000 x410001 x410002 x410003 x410004 x410005 x410006 x410007 x410008 x410009 x410010 x410011 x410012 x410013) else (if (wrap64 (2 * t415)) ≤ x410008 then (laws_FnWaits.j1 k x0 x4 x5 x6 t415 (t416 != (wrap64 (2 * t415))) x410000 x410001 x410002 x410003 x410004 x410005 x410006 x410007 x410008 x410009 x410010 x410011 x410012 x410013) else (laws_FnWaits.j1 k x0 x4 x5 x6 t415 false x410000 x410001 x410002 x410003 x410004 x410005 x410006 x410007 x410008 x410009 x410010 x410011 x410012 x410013))))) else (laws_FnWaits.j1 k x0 x4 x5 x6 t415 true x410000 x410001 x410002 x410003 x410004 x410005 x410006 x410007 x410008 x410009 x410010 x410011 x410012 x410013))))) else ((impl_Redials.f k x410000 x410001 x410002 x410003 x410004 x410005 x410006 x410007 x410008 x410009 x410010 x410011 x410012 x410013 x4).bind fun t427 => (if (x4.length : Int) > 300 then (some ((t427.length : Int) == 0)) else (if (t427.length : Int) = (wrap64 ((x4.length : Int) + 1)) then (if 0 < (t427.length : Int) then (laws_FnWaits.j3 k x4 t427 ((rd t427 0) != 0) x410000 x410001 x410002 x410003 x410004 x410005 x410006 x410007 x410008 x410009 x410010 x410011 x410012 x410013) else (none)) else (laws_FnWaits.j3 k x4 t427 true x410000 x410001 x410002 x410003 x410004 x410005 x410006 x410007 x410008 x410009 x410010 x410011 x410012 x410013))))
def laws_FnWaits.j1 : Nat → List Int → List Int → Int → Int → Int → Bool → Int → Int → Int → Int → Int → Int → Int → Int → Int → Int → Int → Int → Int → Int → Option (Bool)
 | 0, _, _, _, _, _, _, _, _, _, _, _, _, _, _, _, _, _, _, _, _ => none
 | k + 1, x0, x4, x5, x6, x7, x78, x410000, x410001, x410002, x410003, x410004, x410005, x410006, x410007, x410008, x410009, x410010, x410011, x410012, x410013 => if x78 = true then (some false) else ((laws_at.f x0 x6).bind fun t418 => ((impl_JitteredWait.f k x410000 x410001 x410002 x410003 x410004 x410005 x410006 x410007 x410008 x410009 x410010 x410011 x410012 x410013 x6 (wrap64 (t418 * 4))).bind fun t419 => ((impl_LeastWait.f k x410000 x410001 x410002 x410003 x410004 x410005 x410006 x410007 x410008 x410009 x410010 x410011 x410012 x410013 x6).bind fun t420 => (if t419 < t420 then (laws_FnWaits.j2 k x0 x4 x5 x6 x7 true x410000 x410001 x410002 x410003 x410004 x410005 x410006 x410007 x410008 x410009 x410010 x410011 x410012 x410013) else (if t419 > x7 then (laws_FnWaits.j2 k x0 x4 x5 x6 x7 true x410000 x410001 x410002 x410003 x410004 x410005 x410006 x410007 x410008 x410009 x410010 x410011 x410012 x410013) else ((impl_JitteredWait.f k x410000 x410001 x410002 x410003 x410004 x410005 x410006 x410007 x410008 x410009 x410010 x410011 x410012 x410013 x6 0).bind fun t421 => (if t421 = x7 then ((impl_JitteredWait.f k x410000 x410001 x410002 x410003 x410004 x410005 x410006 x410007 x410008 x410009 x410010 x410011 x410012 x410013 x6 1000).bind fun t422 => ((impl_LeastWait.f k x410000 x410001 x410002 x410003 x410004 x410005 x410006 x410007 x410008 x410009 x410010 x410011 x410012 x410013 x6).bind fun t423 => (laws_FnWaits.j2 k x0 x4 x5 x6 x7 (t422 != t423) x410000 x410001 x410002 x410003 x410004 x410005 x410006 x410007 x410008 x410009 x410010 x410011 x410012 x410013))) else (laws_FnWaits.j2 k x0 x4 x5 x6 x7 true x410000 x410001 x410002 x410003 x410004 x410005 x410006 x410007 x410008 x410009 x410010 x410011 x410012 x410013))))))))
def laws_FnWaits.j2 : Nat → List Int → List Int → Int → Int → Int → Bool → Int → Int → Int → Int → Int → Int → Int → Int → Int → Int → Int → Int → Int → Int → Option (Bool)
 | 0, _, _, _, _, _, _, _, _, _, _, _, _, _, _, _, _, _, _, _, _ => none
 | k + 1, x0, x4, x5, x6, x7, x111, x410000, x410001, x410002, x410003, x410004, x410005, x410006, x410007, x410008, x410009, x410010, x410011, x410012, x410013 => if x111 = true then (some false) else ((impl_WaitSum.f k x410000 x410001 x410002 x410003 x410004 x410005 x410006 x410007 x410008 x410009 x410010 x410011 x410012 x410013 x6).bind fun t424 => ((impl_WaitSum.f k x410000 x410001 x410002 x410003 x410004 x410005 x410006 x410007 x410008 x410009 x410010 x410011 x410012 x410013 (wrap64 (x6 - 1))).bind fun t425 => ((impl_AddTick.f t425 x7).bind fun t426 => (if t424 = t426 then (laws_FnWaits.l0 k x0 x4 x5 (wrap64 (x6 + 1)) x410000 x410001 x410002 x410003 x410004 x410005 x410006 x410007 x410008 x410009 x410010 x410011 x410012 x410013) else (some false)))))
def laws_FnWaits.j3 : Nat → List Int → List Int → Bool → Int → Int → Int → Int → Int → Int → Int → Int → Int → Int → Int → Int → Int → Int → Option (Bool)
 | 0, _, _, _, _, _, _, _, _, _, _, _, _, _, _, _, _, _ => none
 | k + 1, x4, x10, x142, x410000, x410001, x410002, x410003, x410004, x410005, x410006, x410007, x410008, x410009, x410010, x410011, x410012, x410013 => if x142 = true then (some false) else (laws_FnWaits.l1 k x4 x10 0 x410000 x410001 x410002 x410003 x410004 x410005 x410006 x410007 x410008 x410009 x410010 x410011 x410012 x410013)
def laws_FnWaits.l1 : Nat → List Int → List Int → Int → Int → Int → Int → Int → Int → Int → Int → Int → Int → Int → Int → Int → Int → Int → Option (Bool)
 | 0, _, _, _, _, _, _, _, _, _, _, _, _, _, _, _, _, _ => none
 | k + 1, x4, x10, x11, x410000, x410001, x410002, x410003, x410004, x410005, x410006, x410007, x410008, x410009, x410010, x410011, x410012, x410013 => if x11 < (x4.length : Int) then (if 0 ≤ (wrap64 (x11 + 1)) then (if (wrap64 (x11 + 1)) < (x10.length : Int) then (if 0 ≤ x11 then (if x11 < (x10.length : Int) then ((impl_JitteredWait.f k x410000 x410001 x410002 x410003 x410004 x410005 x410006 x410007 x410008 x410009 x410010 x410011 x410012 x410013 (wrap64 (x11 + 1)) (rd x4 x11)).bind fun t434 => ((impl_AddTick.f (rd x10 x11) t434).bind fun t435 => (if (rd x10 (wrap64 (x11 + 1))) = t435 then (laws_FnWaits.l1 k x4 x10 (wrap64 (x11 + 1)) x410000 x410001 x410002 x410003 x410004 x410005 x410006 x410007 x410008 x410009 x410010 x410011 x410012 x410013) else (some false)))) else (none)) else (none)) else (none)) else (none)) else (some true)
end
def laws_FnWaits.f (k : Nat) (l0 : List Int) : Option (Bool) := (laws_big.f l0).bind fun t391 => (if t391 = true then (some true) else ((spec_DrawRedials.f k l0).bind fun bt392 => ((spec_ConfigOk.f k bt392.1 bt392.2.1 bt392.2.2.1 bt392.2.2.2.1 bt392.2.2.2.2.1 bt392.2.2.2.2.2.1 bt392.2.2.2.2.2.2.1 bt392.2.2.2.2.2.2.2.1 bt392.2.2.2.2.2.2.2.2.1 bt392.2.2.2.2.2.2.2.2.2.1 bt392.2.2.2.2.2.2.2.2.2.2.1 bt392.2.2.2.2.2.2.2.2.2.2.2.1 bt392.2.2.2.2.2.2.2.2.2.2.2.2.1 bt392.2.2.2.2.2.2.2.2.2.2.2.2.2.1).bind fun t410 => (if t410 = true then ((impl_StepsToCap.f k bt392.1 bt392.2.1 bt392.2.2.1 bt392.2.2.2.1 bt392.2.2.2.2.1 bt392.2.2.2.2.2.1 bt392.2.2.2.2.2.2.1 bt392.2.2.2.2.2.2.2.1 bt392.2.2.2.2.2.2.2.2.1 bt392.2.2.2.2.2.2.2.2.2.1 bt392.2.2.2.2.2.2.2.2.2.2.1 bt392.2.2.2.2.2.2.2.2.2.2.2.1 bt392.2.2.2.2.2.2.2.2.2.2.2.2.1 bt392.2.2.2.2.2.2.2.2.2.2.2.2.2.1).bind fun t414 => (laws_FnWaits.l0 k l0 bt392.2.2.2.2.2.2.2.2.2.2.2.2.2.2 t414 1 bt392.1 bt392.2.1 bt392.2.2.1 bt392.2.2.2.1 bt392.2.2.2.2.1 bt392.2.2.2.2.2.1 bt392.2.2.2.2.2.2.1 bt392.2.2.2.2.2.2.2.1 bt392.2.2.2.2.2.2.2.2.1 bt392.2.2.2.2.2.2.2.2.2.1 bt392.2.2.2.2.2.2.2.2.2.2.1 bt392.2.2.2.2.2.2.2.2.2.2.2.1 bt392.2.2.2.2.2.2.2.2.2.2.2.2.1 bt392.2.2.2.2.2.2.2.2.2.2.2.2.2.1)) else ((impl_Redials.f k bt392.1 bt392.2.1 bt392.2.2.1 bt392.2.2.2.1 bt392.2.2.2.2.1 bt392.2.2.2.2.2.1 bt392.2.2.2.2.2.2.1 bt392.2.2.2.2.2.2.2.1 bt392.2.2.2.2.2.2.2.2.1 bt392.2.2.2.2.2.2.2.2.2.1 bt392.2.2.2.2.2.2.2.2.2.2.1 bt392.2.2.2.2.2.2.2.2.2.2.2.1 bt392.2.2.2.2.2.2.2.2.2.2.2.2.1 bt392.2.2.2.2.2.2.2.2.2.2.2.2.2.1 bt392.2.2.2.2.2.2.2.2.2.2.2.2.2.2).bind fun t411 => (some ((t411.length : Int) == 0)))))))
theorem laws_FnWaits.mono_l : ∀ k, (∀ y0 y1 y2 y3 y4 y5 y6 y7 y8 y9 y10 y11 y12 y13 y14 y15 y16 y17, LeO (laws_FnWaits.l0 k y0 y1 y2 y3 y4 y5 y6 y7 y8 y9 y10 y11 y12 y13 y14 y15 y16 y17) (laws_FnWaits.l0 (k + 1) y0 y1 y2 y3 y4 y5 y6 y7 y8 y9 y10 y11 y12 y13 y14 y15 y16 y17)) ∧ (∀ y0 y1 y2 y3 y4 y5 y6 y7 y8 y9 y10 y11 y12 y13 y14 y15 y16 y17 y18 y19, LeO (laws_FnWaits.j1 k y0 y1 y2 y3 y4 y5 y6 y7 y8 y9 y10 y11 y12 y13 y14 y15 y16 y17 y18 y19) (laws_FnWaits.j1 (k + 1) y0 y1 y2 y3 y4 y5 y6 y7 y8 y9 y10 y11 y12 y13 y14 y15 y16 y17 y18 y19)) ∧ (∀ y0 y1 y2 y3 y4 y5 y6 y7 y8 y9 y10 y11 y12 y13 y14 y15 y16 y17 y18 y19, LeO (laws_FnWaits.j2 k y0 y1 y2 y3 y4 y5 y6 y7 y8 y9 y10 y11 y12 y13 y14 y15 y16 y17 y18 y19) (laws_FnWaits.j2 (k + 1) y0 y1 y2 y3 y4 y5 y6 y7 y8 y9 y10 y11 y12 y13 y14 y15 y16 y17 y18 y19)) ∧ (∀ y0 y1 y2 y3 y4 y5 y6 y7 y8 y9 y10 y11 y12 y13 y14 y15 y16, LeO (laws_FnWaits.j3 k y0 y1 y2 y3 y4 y5 y6 y7 y8 y9 y10 y11 y12 y13 y14 y15 y16) (laws_FnWaits.j3 (k + 1) y0 y1 y2 y3 y4 y5 y6 y7 y8 y9 y10 y11 y12 y13 y14 y15 y16)) ∧ (∀ y0 y1 y2 y3 y4 y5 y6 y7 y8 y9 y10 y11 y12 y13 y14 y15 y16, LeO (laws_FnWaits.l1 k y0 y1 y2 y3 y4 y5 y6 y7 y8 y9 y10 y11 y12 y13 y14 y15 y16) (laws_FnWaits.l1 (k + 1) y0 y1 y2 y3 y4 y5 y6 y7 y8 y9 y10 y11 y12 y13 y14 y15 y16))
 | 0 => ⟨fun _ _ _ _ _ _ _ _ _ _ _ _ _ _ _ _ _ _ r h => by simp [laws_FnWaits.l0] at h, fun _ _ _ _ _ _ _ _ _ _ _ _ _ _ _ _ _ _ _ _ r h => by simp [laws_FnWaits.j1] at h, fun _ _ _ _ _ _ _ _ _ _ _ _ _ _ _ _ _ _ _ _ r h => by simp [laws_FnWaits.j2] at h, fun _ _ _ _ _ _ _ _ _ _ _ _ _ _ _ _ _ r h => by simp [laws_FnWaits.j3] at h, fun _ _ _ _ _ _ _ _ _ _ _ _ _ _ _ _ _ r h => by simp [laws_FnWaits.l1] at h⟩
 | k + 1 => by
  obtain ⟨ih0, ih1, ih2, ih3, ih4⟩ := laws_FnWaits.mono_l k
  refine ⟨?_, ?_, ?_, ?_, ?_⟩
  ·
   intro y0 y1 y2 y3 y4 y5 y6 y7 y8 y9 y10 y11 y12 y13 y14 y15 y16 y17
   unfold laws_FnWaits.l0
   repeat' first
   | (with_reducible exact ih0 _ _ _ _ _ _ _ _ _ _ _ _ _ _ _ _ _ _)
   | (with_reducible exact ih1 _ _ _ _ _ _ _ _ _ _ _ _ _ _ _ _ _ _ _ _)
   | (with_reducible exact ih2 _ _ _ _ _ _ _ _ _ _ _ _ _ _ _ _ _ _ _ _)
   | (with_reducible exact ih3 _ _ _ _ _ _ _ _ _ _ _ _ _ _ _ _ _)
   | (with_reducible exact ih4 _ _ _ _ _ _ _ _ _ _ _ _ _ _ _ _ _)
   | (with_reducible exact impl_FullWait.mono _ _ _ _ _ _ _ _ _ _ _ _ _ _ _ _)
   | (with_reducible exact impl_JitteredWait.mono _ _ _ _ _ _ _ _ _ _ _ _ _ _ _ _ _)
   | (with_reducible exact impl_LeastWait.mono _ _ _ _ _ _ _ _ _ _ _ _ _ _ _ _)
   | (with_reducible exact impl_Redials.mono _ _ _ _ _ _ _ _ _ _ _ _ _ _ _ _)
   | (with_reducible exact impl_StepsToCap.mono _ _ _ _ _ _ _ _ _ _ _ _ _ _ _)
   | (with_reducible exact impl_WaitSum.mono _ _ _ _ _ _ _ _ _ _ _ _ _ _ _ _)
   | (with_reducible exact spec_ConfigOk.mono _ _ _ _ _ _ _ _ _ _ _ _ _ _ _)
   | (with_reducible exact spec_DrawRedials.mono _ _)
   | (with_reducible exact spec_FullWait.mono _ _ _ _ _ _ _ _ _ _ _ _ _ _ _ _)
   | (with_reducible exact LeO.refl _)
   | (with_reducible exact LeO.none _)
   | (with_reducible refine LeO.ite ?_ ?_)
   | (with_reducible refine LeO.bind ?_ (fun _ => ?_))
   | exact ih0 _ _ _ _ _ _ _ _ _ _ _ _ _ _ _ _ _ _
   | exact ih1 _ _ _ _ _ _ _ _ _ _ _ _ _ _ _ _ _ _ _ _
   | exact ih2 _ _ _ _ _ _ _ _ _ _ _ _ _ _ _ _ _ _ _ _
   | exact ih3 _ _ _ _ _ _ _ _ _ _ _ _ _ _ _ _ _
   | exact ih4 _ _ _ _ _ _ _ _ _ _ _ _ _ _ _ _ _
   | exact impl_FullWait.mono _ _ _ _ _ _ _ _ _ _ _ _ _ _ _ _
   | exact impl_JitteredWait.mono _ _ _ _ _ _ _ _ _ _ _ _ _ _ _ _ _
   | exact impl_LeastWait.mono _ _ _ _ _ _ _ _ _ _ _ _ _ _ _ _
   | exact impl_Redials.mono _ _ _ _ _ _ _ _ _ _ _ _ _ _ _ _
   | exact impl_StepsToCap.mono _ _ _ _ _ _ _ _ _ _ _ _ _ _ _
   | exact impl_WaitSum.mono _ _ _ _ _ _ _ _ _ _ _ _ _ _ _ _
   | exact spec_ConfigOk.mono _ _ _ _ _ _ _ _ _ _ _ _ _ _ _
   | exact spec_DrawRedials.mono _ _
   | exact spec_FullWait.mono _ _ _ _ _ _ _ _ _ _ _ _ _ _ _ _
   | exact LeO.none _
   | refine LeO.ite ?_ ?_
   | refine LeO.bind ?_ (fun _ => ?_)
  ·
   intro y0 y1 y2 y3 y4 y5 y6 y7 y8 y9 y10 y11 y12 y13 y14 y15 y16 y17 y18 y19
   unfold laws_FnWaits.j1
   repeat' first
   | (with_reducible exact ih0 _ _ _ _ _ _ _ _ _ _ _ _ _ _ _ _ _ _)
   | (with_reducible exact ih1 _ _ _ _ _ _ _ _ _ _ _ _ _ _ _ _ _ _ _ _)
   | (with_reducible exact ih2 _ _ _ _ _ _ _ _ _ _ _ _ _ _ _ _ _ _ _ _)
   | (with_reducible exact ih3 _ _ _ _ _ _ _ _ _ _ _ _ _ _ _ _ _)
   | (with_reducible exact ih4 _ _ _ _ _ _ _ _ _ _ _ _ _ _ _ _ _)
   | (with_reducible exact impl_FullWait.mono _ _ _ _ _ _ _ _ _ _ _ _ _ _ _ _)
   | (with_reducible exact impl_JitteredWait.mono _ _ _ _ _ _ _ _ _ _ _ _ _ _ _ _ _)
   | (with_reducible exact impl_LeastWait.mono _ _ _ _ _ _ _ _ _ _ _ _ _ _ _ _)
   | (with_reducible exact impl_Redials.mono _ _ _ _ _ _ _ _ _ _ _ _ _ _ _ _)
   | (with_reducible exact impl_StepsToCap.mono _ _ _ _ _ _ _ _ _ _ _ _ _ _ _)
   | (with_reducible exact impl_WaitSum.mono _ _ _ _ _ _ _ _ _ _ _ _ _ _ _ _)
   | (with_reducible exact spec_ConfigOk.mono _ _ _ _ _ _ _ _ _ _ _ _ _ _ _)
   | (with_reducible exact spec_DrawRedials.mono _ _)
   | (with_reducible exact spec_FullWait.mono _ _ _ _ _ _ _ _ _ _ _ _ _ _ _ _)
   | (with_reducible exact LeO.refl _)
   | (with_reducible exact LeO.none _)
   | (with_reducible refine LeO.ite ?_ ?_)
   | (with_reducible refine LeO.bind ?_ (fun _ => ?_))
   | exact ih0 _ _ _ _ _ _ _ _ _ _ _ _ _ _ _ _ _ _
   | exact ih1 _ _ _ _ _ _ _ _ _ _ _ _ _ _ _ _ _ _ _ _
   | exact ih2 _ _ _ _ _ _ _ _ _ _ _ _ _ _ _ _ _ _ _ _
   | exact ih3 _ _ _ _ _ _ _ _ _ _ _ _ _ _ _ _ _
   | exact ih4 _ _ _ _ _ _ _ _ _ _ _ _ _ _ _ _ _
   | exact impl_FullWait.mono _ _ _ _ _ _ _ _ _ _ _ _ _ _ _ _
   | exact impl_JitteredWait.mono _ _ _ _ _ _ _ _ _ _ _ _ _ _ _ _ _
   | exact impl_LeastWait.mono _ _ _ _ _ _ _ _ _ _ _ _ _ _ _ _
   | exact impl_Redials.mono _ _ _ _ _ _ _ _ _ _ _ _ _ _ _ _
   | exact impl_StepsToCap.mono _ _ _ _ _ _ _ _ _ _ _ _ _ _ _
   | exact impl_WaitSum.mono _ _ _ _ _ _ _ _ _ _ _ _ _ _ _ _
   | exact spec_ConfigOk.mono _ _ _ _ _ _ _ _ _ _ _ _ _ _ _
   | exact spec_DrawRedials.mono _ _
   | exact spec_FullWait.mono _ _ _ _ _ _ _ _ _ _ _ _ _ _ _ _
   | exact LeO.none _
   | refine LeO.ite ?_ ?_
   | refine LeO.bind ?_ (fun _ => ?_)
  ·
   intro y0 y1 y2 y3 y4 y5 y6 y7 y8 y9 y10 y11 y12 y13 y14 y15 y16 y17 y18 y19
   unfold laws_FnWaits.j2
   repeat' first
   | (with_reducible exact ih0 _ _ _ _ _ _ _ _ _ _ _ _ _ _ _ _ _ _)
   | (with_reducible exact ih1 _ _ _ _ _ _ _ _ _ _ _ _ _ _ _ _ _ _ _ _)
   | (with_reducible exact ih2 _ _ _ _ _ _ _ _ _ _ _ _ _ _ _ _ _ _ _ _)
   | (with_reducible exact ih3 _ _ _ _ _ _ _ _ _ _ _ _ _ _ _ _ _)
   | (with_reducible exact ih4 _ _ _ _ _ _ _ _ _ _ _ _ _ _ _ _ _)
   | (with_reducible exact impl_FullWait.mono _ _ _ _ _ _ _ _ _ _ _ _ _ _ _ _)
   | (with_reducible exact impl_JitteredWait.mono _ _ _ _ _ _ _ _ _ _ _ _ _ _ _ _ _)
   | (with_reducible exact impl_LeastWait.mono _ _ _ _ _ _ _ _ _ _ _ _ _ _ _ _)
   | (with_reducible exact impl_Redials.mono _ _ _ _ _ _ _ _ _ _ _ _ _ _ _ _)
   | (with_reducible exact impl_StepsToCap.mono _ _ _ _ _ _ _ _ _ _ _ _ _ _ _)
   | (with_reducible exact impl_WaitSum.mono _ _ _ _ _ _ _ _ _ _ _ _ _ _ _ _)
   | (with_reducible exact spec_ConfigOk.mono _ _ _ _ _ _ _ _ _ _ _ _ _ _ _)
   | (with_reducible exact spec_DrawRedials.mono _ _)
   | (with_reducible exact spec_FullWait.mono _ _ _ _ _ _ _ _ _ _ _ _ _ _ _ _)
   | (with_reducible exact LeO.refl _)
   | (with_reducible exact LeO.none _)
   | (with_reducible refine LeO.ite ?_ ?_)
   | (with_reducible refine LeO.bind ?_ (fun _ => ?_))
   | exact ih0 _ _ _ _ _ _ _ _ _ _ _ _ _ _ _ _ _ _
   | exact ih1 _ _ _ _ _ _ _ _ _ _ _ _ _ _ _ _ _ _ _ _
   | exact ih2 _ _ _ _ _ _ _ _ _ _ _ _ _ _ _ _ _ _ _ _
   | exact ih3 _ _ _ _ _ _ _ _ _ _ _ _ _ _ _ _ _
   | exact ih4 _ _ _ _ _ _ _ _ _ _ _ _ _ _ _ _ _
   | exact impl_FullWait.mono _ _ _ _ _ _ _ _ _ _ _ _ _ _ _ _
   | exact impl_JitteredWait.mono _ _ _ _ _ _ _ _ _ _ _ _ _ _ _ _ _
   | exact impl_LeastWait.mono _ _ _ _ _ _ _ _ _ _ _ _ _ _ _ _
   | exact impl_Redials.mono _ _ _ _ _ _ _ _ _ _ _ _ _ _ _ _
   | exact impl_StepsToCap.mono _ _ _ _ _ _ _ _ _ _ _ _ _ _ _
   | exact impl_WaitSum.mono _ _ _ _ _ _ _ _ _ _ _ _ _ _ _ _
   | exact spec_ConfigOk.mono _ _ _ _ _ _ _ _ _ _ _ _ _ _ _
   | exact spec_DrawRedials.mono _ _
   | exact spec_FullWait.mono _ _ _ _ _ _ _ _ _ _ _ _ _ _ _ _
   | exact LeO.none _
   | refine LeO.ite ?_ ?_
   | refine LeO.bind ?_ (fun _ => ?_)
  ·
   intro y0 y1 y2 y3 y4 y5 y6 y7 y8 y9 y10 y11 y12 y13 y14 y15 y16
   unfold laws_FnWaits.j3
   repeat' first
   | (with_reducible exact ih0 _ _ _ _ _ _ _ _ _ _ _ _ _ _ _ _ _ _)
   | (with_reducible exact ih1 _ _ _ _ _ _ _ _ _ _ _ _ _ _ _ _ _ _ _ _)
   | (with_reducible exact ih2 _ _ _ _ _ _ _ _ _ _ _ _ _ _ _ _ _ _ _ _)
   | (with_reducible exact ih3 _ _ _ _ _ _ _ _ _ _ _ _ _ _ _ _ _)
   | (with_reducible exact ih4 _ _ _ _ _ _ _ _ _ _ _ _ _ _ _ _ _)
   | (with_reducible exact impl_FullWait.mono _ _ _ _ _ _ _ _ _ _ _ _ _ _ _ _)
   | (with_reducible exact impl_JitteredWait.mono _ _ _ _ _ _ _ _ _ _ _ _ _ _ _ _ _)
   | (with_reducible exact impl_LeastWait.mono _ _ _ _ _ _ _ _ _ _ _ _ _ _ _ _)
   | (with_reducible exact impl_Redials.mono _ _ _ _ _ _ _ _ _ _ _ _ _ _ _ _)
   | (with_reducible exact impl_StepsToCap.mono _ _ _ _ _ _ _ _ _ _ _ _ _ _ _)
   | (with_reducible exact impl_WaitSum.mono _ _ _ _ _ _ _ _ _ _ _ _ _ _ _ _)
   | (with_reducible exact spec_ConfigOk.mono _ _ _ _ _ _ _ _ _ _ _ _ _ _ _)
   | (with_reducible exact spec_DrawRedials.mono _ _)
   | (with_reducible exact spec_FullWait.mono _ _ _ _ _ _ _ _ _ _ _ _ _ _ _ _)
   | (with_reducible exact LeO.refl _)
   | (with_reducible exact LeO.none _)
   | (with_reducible refine LeO.ite ?_ ?_)
   | (with_reducible refine LeO.bind ?_ (fun _ => ?_))
   | exact ih0 _ _ _ _ _ _ _ _ _ _ _ _ _ _ _ _ _ _
   | exact ih1 _ _ _ _ _ _ _ _ _ _ _ _ _ _ _ _ _ _ _ _
   | exact ih2 _ _ _ _ _ _ _ _ _ _ _ _ _ _ _ _ _ _ _ _
   | exact ih3 _ _ _ _ _ _ _ _ _ _ _ _ _ _ _ _ _
   | exact ih4 _ _ _ _ _ _ _ _ _ _ _ _ _ _ _ _ _
   | exact impl_FullWait.mono _ _ _ _ _ _ _ _ _ _ _ _ _ _ _ _
   | exact impl_JitteredWait.mono _ _ _ _ _ _ _ _ _ _ _ _ _ _ _ _ _
   | exact impl_LeastWait.mono _ _ _ _ _ _ _ _ _ _ _ _ _ _ _ _
   | exact impl_Redials.mono _ _ _ _ _ _ _ _ _ _ _ _ _ _ _ _
   | exact impl_StepsToCap.mono _ _ _ _ _ _ _ _ _ _ _ _ _ _ _
   | exact impl_WaitSum.mono _ _ _ _ _ _ _ _ _ _ _ _ _ _ _ _
   | exact spec_ConfigOk.mono _ _ _ _ _ _ _ _ _ _ _ _ _ _ _
   | exact spec_DrawRedials.mono _ _
   | exact spec_FullWait.mono _ _ _ _ _ _ _ _ _ _ _ _ _ _ _ _
   | exact LeO.none _
   | refine LeO.ite ?_ ?_
   | refine LeO.bind ?_ (fun _ => ?_)
  ·
   intro y0 y1 y2 y3 y4 y5 y6 y7 y8 y9 y10 y11 y12 y13 y14 y15 y16
   unfold laws_FnWaits.l1
   repeat' first
   | (with_reducible exact ih0 _ _ _ _ _ _ _ _ _ _ _ _ _ _ _ _ _ _)
   | (with_reducible exact ih1 _ _ _ _ _ _ _ _ _ _ _ _ _ _ _ _ _ _ _ _)
   | (with_reducible exact ih2 _ _ _ _ _ _ _ _ _ _ _ _ _ _ _ _ _ _ _ _)
   | (with_reducible exact ih3 _ _ _ _ _ _ _ _ _ _ _ _ _ _ _ _ _)
   | (with_reducible exact ih4 _ _ _ _ _ _ _ _ _ _ _ _ _ _ _ _ _)
   | (with_reducible exact impl_FullWait.mono _ _ _ _ _ _ _ _ _ _ _ _ _ _ _ _)
   | (with_reducible exact impl_JitteredWait.mono _ _ _ _ _ _ _ _ _ _ _ _ _ _ _ _ _)
   | (with_reducible exact impl_LeastWait.mono _ _ _ _ _ _ _ _ _ _ _ _ _ _ _ _)
   | (with_reducible exact impl_Redials.mono _ _ _ _ _ _ _ _ _ _ _ _ _ _ _ _)
   | (with_reducible exact impl_StepsToCap.mono _ _ _ _ _ _ _ _ _ _ _ _ _ _ _)
   | (with_reducible exact impl_WaitSum.mono _ _ _ _ _ _ _ _ _ _ _ _ _ _ _ _)
   | (with_reducible exact spec_ConfigOk.mono _ _ _ _ _ _ _ _ _ _ _ _ _ _ _)
   | (with_reducible exact spec_DrawRedials.mono _ _)
   | (with_reducible exact spec_FullWait.mono _ _ _ _ _ _ _ _ _ _ _ _ _ _ _ _)
   | (with_reducible exact LeO.refl _)
   | (with_reducible exact LeO.none _)
   | (with_reducible refine LeO.ite ?_ ?_)
   | (with_reducible refine LeO.bind ?_ (fun _ => ?_))
   | exact ih0 _ _ _ _ _ _ _ _ _ _ _ _ _ _ _ _ _ _
   | exact ih1 _ _ _ _ _ _ _ _ _ _ _ _ _ _ _ _ _ _ _ _
   | exact ih2 _ _ _ _ _ _ _ _ _ _ _ _ _ _ _ _ _ _ _ _
   | exact ih3 _ _ _ _ _ _ _ _ _ _ _ _ _ _ _ _ _
   | exact ih4 _ _ _ _ _ _ _ _ _ _ _ _ _ _ _ _ _
   | exact impl_FullWait.mono _ _ _ _ _ _ _ _ _ _ _ _ _ _ _ _
   | exact impl_JitteredWait.mono _ _ _ _ _ _ _ _ _ _ _ _ _ _ _ _ _
   | exact impl_LeastWait.mono _ _ _ _ _ _ _ _ _ _ _ _ _ _ _ _
   | exact impl_Redials.mono _ _ _ _ _ _ _ _ _ _ _ _ _ _ _ _
   | exact impl_StepsToCap.mono _ _ _ _ _ _ _ _ _ _ _ _ _ _ _
   | exact impl_WaitSum.mono _ _ _ _ _ _ _ _ _ _ _ _ _ _ _ _
   | exact spec_ConfigOk.mono _ _ _ _ _ _ _ _ _ _ _ _ _ _ _
   | exact spec_DrawRedials.mono _ _
   | exact spec_FullWait.mono _ _ _ _ _ _ _ _ _ _ _ _ _ _ _ _
   | exact LeO.none _
   | refine LeO.ite ?_ ?_
   | refine LeO.bind ?_ (fun _ => ?_)
theorem laws_FnWaits.mono : ∀ a0 k, LeO (laws_FnWaits.f k a0) (laws_FnWaits.f (k + 1) a0) := by
 intro a0 k
 obtain ⟨ih0, ih1, ih2, ih3, ih4⟩ := laws_FnWaits.mono_l k
 unfold laws_FnWaits.f
 repeat' first
  | (with_reducible exact ih0 _ _ _ _ _ _ _ _ _ _ _ _ _ _ _ _ _ _)
  | (with_reducible exact ih1 _ _ _ _ _ _ _ _ _ _ _ _ _ _ _ _ _ _ _ _)
  | (with_reducible exact ih2 _ _ _ _ _ _ _ _ _ _ _ _ _ _ _ _ _ _ _ _)
  | (with_reducible exact ih3 _ _ _ _ _ _ _ _ _ _ _ _ _ _ _ _ _)
  | (with_reducible exact ih4 _ _ _ _ _ _ _ _ _ _ _ _ _ _ _ _ _)
  | (with_reducible exact impl_FullWait.mono _ _ _ _ _ _ _ _ _ _ _ _ _ _ _ _)
  | (with_reducible exact impl_JitteredWait.mono _ _ _ _ _ _ _ _ _ _ _ _ _ _ _ _ _)
  | (with_reducible exact impl_LeastWait.mono _ _ _ _ _ _ _ _ _ _ _ _ _ _ _ _)
  | (with_reducible exact impl_Redials.mono _ _ _ _ _ _ _ _ _ _ _ _ _ _ _ _)
  | (with_reducible exact impl_StepsToCap.mono _ _ _ _ _ _ _ _ _ _ _ _ _ _ _)
  | (with_reducible exact impl_WaitSum.mono _ _ _ _ _ _ _ _ _ _ _ _ _ _ _ _)
  | (with_reducible exact spec_ConfigOk.mono _ _ _ _ _ _ _ _ _ _ _ _ _ _ _)
  | (with_reducible exact spec_DrawRedials.mono _ _)
  | (with_reducible exact spec_FullWait.mono _ _ _ _ _ _ _ _ _ _ _ _ _ _ _ _)
  | (with_reducible exact LeO.refl _)
  | (with_reducible exact LeO.none _)
  | (with_reducible refine LeO.ite ?_ ?_)
  | (with_reducible refine LeO.bind ?_ (fun _ => ?_))
  | exact ih0 _ _ _ _ _ _ _ _ _ _ _ _ _ _ _ _ _ _
  | exact ih1 _ _ _ _ _ _ _ _ _ _ _ _ _ _ _ _ _ _ _ _
  | exact ih2 _ _ _ _ _ _ _ _ _ _ _ _ _ _ _ _ _ _ _ _
  | exact ih3 _ _ _ _ _ _ _ _ _ _ _ _ _ _ _ _ _
  | exact ih4 _ _ _ _ _ _ _ _ _ _ _ _ _ _ _ _ _
  | exact impl_FullWait.mono _ _ _ _ _ _ _ _ _ _ _ _ _ _ _ _
  | exact impl_JitteredWait.mono _ _ _ _ _ _ _ _ _ _ _ _ _ _ _ _ _
  | exact impl_LeastWait.mono _ _ _ _ _ _ _ _ _ _ _ _ _ _ _ _
  | exact impl_Redials.mono _ _ _ _ _ _ _ _ _ _ _ _ _ _ _ _
  | exact impl_StepsToCap.mono _ _ _ _ _ _ _ _ _ _ _ _ _ _ _
  | exact impl_WaitSum.mono _ _ _ _ _ _ _ _ _ _ _ _ _ _ _ _
  | exact spec_ConfigOk.mono _ _ _ _ _ _ _ _ _ _ _ _ _ _ _
  | exact spec_DrawRedials.mono _ _
  | exact spec_FullWait.mono _ _ _ _ _ _ _ _ _ _ _ _ _ _ _ _
  | exact LeO.none _
  | refine LeO.ite ?_ ?_
  | refine LeO.bind ?_ (fun _ => ?_)
def laws_FnWaits.T14 : Bool × List (List Nat × List Nat) := (true, [([], []), ([], []), ([], []), ([], []), ([2, 3], [2, 3]), ([4], [4]), ([0, 1, 5, 4], [0, 1, 5]), ([6, 6, 0, 1, 2, 3, 4, 5, 6], [6])])
def laws_FnWaits.B14 : List Nat := [0, 0, 0, 0, 12, 28, 63, 127]
theorem laws_FnWaits.tab14 : rtab .any (opsOf Try.f11 14) = laws_FnWaits.T14 := by kernel_rfl
theorem laws_FnWaits.bits14 : waitsOk laws_FnWaits.T14.2 laws_FnWaits.B14 = true := by kernel_rfl
def laws_FnWaits.T15 : Bool × List (List Nat × List Nat) := (true, [([], []), ([], []), ([], []), ([1, 2], [1, 2]), ([0, 3], [0, 3]), ([4, 3], [4]), ([5], [5]), ([5], [5]), ([6, 7, 5], [5, 6, 7]), ([5, 8], [5, 8]), ([9, 5], [9]), ([10], [10]), ([10], [10]), ([11, 12, 10, 10], [10, 11, 12]), ([10], [10]), ([13, 14, 10], [10, 13, 14]), ([10, 15], [10, 15]), ([16, 13], [16]), ([17], [17]), ([17], [17]), ([18, 19, 17, 17], [17, 18, 19]), ([17], [17]), ([17], [17]), ([21, 22, 20, 17], [17, 21, 22]), ([20, 23, 17], [17, 20, 23]), ([17, 24], [17, 24])])
def laws_FnWaits.B15 : List Nat := [0, 0, 0, 6, 15, 31, 63, 63, 255, 511, 1023, 2047, 2047, 8191, 2047, 32767, 65535, 131071, 262143, 262143, 1048575, 262143, 262143, 8388607, 16777215, 33554431]
theorem laws_FnWaits.tab15 : rtab .any (opsOf Try.f11 15) = laws_FnWaits.T15 := by kernel_rfl
theorem laws_FnWaits.bits15 : waitsOk laws_FnWaits.T15.2 laws_FnWaits.B15 = true := by kernel_rfl
def laws_FnWaits.T17 : Bool × List (List Nat × List Nat) := (true, [([], []), ([], []), ([0, 1], [0, 1]), ([], []), ([], []), ([4], [4]), ([3, 5, 2], [3, 5]), ([], []), ([6, 7, 6], [6, 7]), ([2, 8], [2, 8])])
def laws_FnWaits.B17 : List Nat := [0, 0, 3, 0, 0, 16, 63, 0, 255, 511]
theorem laws_FnWaits.tab17 : rtab .any (opsOf Try.f11 17) = laws_FnWaits.T17 := by kernel_rfl
theorem laws_FnWaits.bits17 : waitsOk laws_FnWaits.T17.2 laws_FnWaits.B17 = true := by kernel_rfl
def laws_FnWaits.T27 : Bool × List (List Nat × List Nat) := (true, [([], []), ([], []), ([1], [1]), ([0, 2], [0, 2]), ([3], [3]), ([], []), ([], []), ([5, 6], [5, 6]), ([7], [7]), ([], []), ([], []), ([10], [10]), ([], []), ([], []), ([12, 13], [12, 13]), ([14], [14]), ([9, 11, 15], [9, 11, 15]), ([8, 16, 16], [8, 16]), ([4, 17], [4, 17])])
def laws_FnWaits.B27 : List Nat := [0, 0, 2, 7, 15, 0, 0, 96, 224, 0, 0, 1024, 0, 0, 12288, 28672, 65024, 131040, 262143]
theorem laws_FnWaits.tab27 : rtab .any (opsOf Try.f11 27) = laws_FnWaits.T27 := by kernel_rfl
theorem laws_FnWaits.bits27 : waitsOk laws_FnWaits.T27.2 laws_FnWaits.B27 = true := by kernel_rfl
set_option maxHeartbeats 40000000 in
set_option maxRecDepth 100000 in
theorem laws_FnWaits.calls (k : Nat) (A0 : Option Addr) (c0 : Nat) (l0 : List Int) (r : Bool) (w : World) (hr0 : Kd.C (Kd.int .u8) w A0 l0.length l0) (hc0 : l0.length ≤ c0) (h : laws_FnWaits.f k l0 = some r) :
 Calls Try.prog 11 #[.slice A0 l0.length c0] w fun e w' => e = .returned (.bool r) ∧ Below w.heap.size w w' := by
 have hu30 := Try.underlying30
 have HR0 := Aside0.mk hr0
 have HC0 := Aside0.mk hc0
 clear hr0 hc0
 have HB := Aside0.mk (Below.refl w.heap.size w)
 have H : ((laws_big.f l0).bind fun t391 => (if t391 = true then (some true) else ((spec_DrawRedials.f k l0).bind fun bt392 => ((spec_ConfigOk.f k bt392.1 bt392.2.1 bt392.2.2.1 bt392.2.2.2.1 bt392.2.2.2.2.1 bt392.2.2.2.2.2.1 bt392.2.2.2.2.2.2.1 bt392.2.2.2.2.2.2.2.1 bt392.2.2.2.2.2.2.2.2.1 bt392.2.2.2.2.2.2.2.2.2.1 bt392.2.2.2.2.2.2.2.2.2.2.1 bt392.2.2.2.2.2.2.2.2.2.2.2.1 bt392.2.2.2.2.2.2.2.2.2.2.2.2.1 bt392.2.2.2.2.2.2.2.2.2.2.2.2.2.1).bind fun t410 => (if t410 = true then ((impl_StepsToCap.f k bt392.1 bt392.2.1 bt392.2.2.1 bt392.2.2.2.1 bt392.2.2.2.2.1 bt392.2.2.2.2.2.1 bt392.2.2.2.2.2.2.1 bt392.2.2.2.2.2.2.2.1 bt392.2.2.2.2.2.2.2.2.1 bt392.2.2.2.2.2.2.2.2.2.1 bt392.2.2.2.2.2.2.2.2.2.2.1 bt392.2.2.2.2.2.2.2.2.2.2.2.1 bt392.2.2.2.2.2.2.2.2.2.2.2.2.1 bt392.2.2.2.2.2.2.2.2.2.2.2.2.2.1).bind fun t414 => (laws_FnWaits.l0 k l0 bt392.2.2.2.2.2.2.2.2.2.2.2.2.2.2 t414 1 bt392.1 bt392.2.1 bt392.2.2.1 bt392.2.2.2.1 bt392.2.2.2.2.1 bt392.2.2.2.2.2.1 bt392.2.2.2.2.2.2.1 bt392.2.2.2.2.2.2.2.1 bt392.2.2.2.2.2.2.2.2.1 bt392.2.2.2.2.2.2.2.2.2.1 bt392.2.2.2.2.2.2.2.2.2.2.1 bt392.2.2.2.2.2.2.2.2.2.2.2.1 bt392.2.2.2.2.2.2.2.2.2.2.2.2.1 bt392.2.2.2.2.2.2.2.2.2.2.2.2.2.1)) else ((impl_Redials.f k bt392.1 bt392.2.1 bt392.2.2.1 bt392.2.2.2.1 bt392.2.2.2.2.1 bt392.2.2.2.2.2.1 bt392.2.2.2.2.2.2.1 bt392.2.2.2.2.2.2.2.1 bt392.2.2.2.2.2.2.2.2.1 bt392.2.2.2.2.2.2.2.2.2.1 bt392.2.2.2.2.2.2.2.2.2.2.1 bt392.2.2.2.2.2.2.2.2.2.2.2.1 bt392.2.2.2.2.2.2.2.2.2.2.2.2.1 bt392.2.2.2.2.2.2.2.2.2.2.2.2.2.1 bt392.2.2.2.2.2.2.2.2.2.2.2.2.2.2).bind fun t411 => (some ((t411.length : Int) == 0)))))))) = some r := h
 clear h
 replace H := Option.bind_eq_some_iff.mp H
 obtain ⟨t391, A20, H⟩ := H
 replace H : (if t391 = true then (some true) else ((spec_DrawRedials.f k l0).bind fun bt392 => ((spec_ConfigOk.f k bt392.1 bt392.2.1 bt392.2.2.1 bt392.2.2.2.1 bt392.2.2.2.2.1 bt392.2.2.2.2.2.1 bt392.2.2.2.2.2.2.1 bt392.2.2.2.2.2.2.2.1 bt392.2.2.2.2.2.2.2.2.1 bt392.2.2.2.2.2.2.2.2.2.1 bt392.2.2.2.2.2.2.2.2.2.2.1 bt392.2.2.2.2.2.2.2.2.2.2.2.1 bt392.2.2.2.2.2.2.2.2.2.2.2.2.1 bt392.2.2.2.2.2.2.2.2.2.2.2.2.2.1).bind fun t410 => (if t410 = true then ((impl_StepsToCap.f k bt392.1 bt392.2.1 bt392.2.2.1 bt392.2.2.2.1 bt392.2.2.2.2.1 bt392.2.2.2.2.2.1 bt392.2.2.2.2.2.2.1 bt392.2.2.2.2.2.2.2.1 bt392.2.2.2.2.2.2.2.2.1 bt392.2.2.2.2.2.2.2.2.2.1 bt392.2.2.2.2.2.2.2.2.2.2.1 bt392.2.2.2.2.2.2.2.2.2.2.2.1 bt392.2.2.2.2.2.2.2.2.2.2.2.2.1 bt392.2.2.2.2.2.2.2.2.2.2.2.2.2.1).bind fun t414 => (laws_FnWaits.l0 k l0 bt392.2.2.2.2.2.2.2.2.2.2.2.2.2.2 t414 1 bt392.1 bt392.2.1 bt392.2.2.1 bt392.2.2.2.1 bt392.2.2.2.2.1 bt392.2.2.2.2.2.1 bt392.2.2.2.2.2.2.1 bt392.2.2.2.2.2.2.2.1 bt392.2.2.2.2.2.2.2.2.1 bt392.2.2.2.2.2.2.2.2.2.1 bt392.2.2.2.2.2.2.2.2.2.2.1 bt392.2.2.2.2.2.2.2.2.2.2.2.1 bt392.2.2.2.2.2.2.2.2.2.2.2.2.1 bt392.2.2.2.2.2.2.2.2.2.2.2.2.2.1)) else ((impl_Redials.f k bt392.1 bt392.2.1 bt392.2.2.1 bt392.2.2.2.1 bt392.2.2.2.2.1 bt392.2.2.2.2.2.1 bt392.2.2.2.2.2.2.1 bt392.2.2.2.2.2.2.2.1 bt392.2.2.2.2.2.2.2.2.1 bt392.2.2.2.2.2.2.2.2.2.1 bt392.2.2.2.2.2.2.2.2.2.2.1 bt392.2.2.2.2.2.2.2.2.2.2.2.1 bt392.2.2.2.2.2.2.2.2.2.2.2.2.1 bt392.2.2.2.2.2.2.2.2.2.2.2.2.2.1 bt392.2.2.2.2.2.2.2.2.2.2.2.2.2.2).bind fun t411 => (some ((t411.length : Int) == 0))))))) = some r := H
 have A2 := Aside0.mk A20
 clear A20
 by_cases c3 : t391 = true
 ·
  subst c3
  have H1 : (some true) = some r := by rw [if_pos rfl] at H; exact H
  clear H
  have H := H1
  clear H1
  obtain rfl := Option.some.inj H
  go_enter Try.func11, Try.ntmps11
  go_wp2_with (first | ((with_reducible refine gate_callee (f := 34) rfl ?_); refine goesL_ (some 13) rfl rfl Try.func34 (by kernel_rfl) rfl #[.slice A0 l0.length c0] rfl (by (try simp only [List.map_toArray, List.map_cons, List.map_nil]); first | done | rfl | (simp only [List.length_drop, List.length_take]; rfl)) ?_; (with_reducible refine (laws_big.calls _ _ l0 true _ ?side1 ?side2 A2.out).mono ?_); (case side1 => repeat (first | exact HR0.out | (with_reducible refine Kd.C_alloc ?_ _) | (with_reducible refine Kd.C_drewN ?_ _) | (with_reducible refine Kd.C_drew ?_))); (case side2 => exact HC0.out); rintro e w' ⟨rfl, ⟨nd, rfl⟩⟩; refine ⟨_, rfl, ?_⟩))
  go_ret
  exact ⟨by first | rfl | (simp [errW_none, errW_some] <;> rfl) | (simp [*, errW_none, errW_some] <;> rfl), be_ HB.out⟩
 ·
  replace c3 := Bool.eq_false_iff.mpr c3
  subst c3
  have H1 : ((spec_DrawRedials.f k l0).bind fun bt392 => ((spec_ConfigOk.f k bt392.1 bt392.2.1 bt392.2.2.1 bt392.2.2.2.1 bt392.2.2.2.2.1 bt392.2.2.2.2.2.1 bt392.2.2.2.2.2.2.1 bt392.2.2.2.2.2.2.2.1 bt392.2.2.2.2.2.2.2.2.1 bt392.2.2.2.2.2.2.2.2.2.1 bt392.2.2.2.2.2.2.2.2.2.2.1 bt392.2.2.2.2.2.2.2.2.2.2.2.1 bt392.2.2.2.2.2.2.2.2.2.2.2.2.1 bt392.2.2.2.2.2.2.2.2.2.2.2.2.2.1).bind fun t410 => (if t410 = true then ((impl_StepsToCap.f k bt392.1 bt392.2.1 bt392.2.2.1 bt392.2.2.2.1 bt392.2.2.2.2.1 bt392.2.2.2.2.2.1 bt392.2.2.2.2.2.2.1 bt392.2.2.2.2.2.2.2.1 bt392.2.2.2.2.2.2.2.2.1 bt392.2.2.2.2.2.2.2.2.2.1 bt392.2.2.2.2.2.2.2.2.2.2.1 bt392.2.2.2.2.2.2.2.2.2.2.2.1 bt392.2.2.2.2.2.2.2.2.2.2.2.2.1 bt392.2.2.2.2.2.2.2.2.2.2.2.2.2.1).bind fun t414 => (laws_FnWaits.l0 k l0 bt392.2.2.2.2.2.2.2.2.2.2.2.2.2.2 t414 1 bt392.1 bt392.2.1 bt392.2.2.1 bt392.2.2.2.1 bt392.2.2.2.2.1 bt392.2.2.2.2.2.1 bt392.2.2.2.2.2.2.1 bt392.2.2.2.2.2.2.2.1 bt392.2.2.2.2.2.2.2.2.1 bt392.2.2.2.2.2.2.2.2.2.1 bt392.2.2.2.2.2.2.2.2.2.2.1 bt392.2.2.2.2.2.2.2.2.2.2.2.1 bt392.2.2.2.2.2.2.2.2.2.2.2.2.1 bt392.2.2.2.2.2.2.2.2.2.2.2.2.2.1)) else ((impl_Redials.f k bt392.1 bt392.2.1 bt392.2.2.1 bt392.2.2.2.1 bt392.2.2.2.2.1 bt392.2.2.2.2.2.1 bt392.2.2.2.2.2.2.1 bt392.2.2.2.2.2.2.2.1 bt392.2.2.2.2.2.2.2.2.1 bt392.2.2.2.2.2.2.2.2.2.1 bt392.2.2.2.2.2.2.2.2.2.2.1 bt392.2.2.2.2.2.2.2.2.2.2.2.1 bt392.2.2.2.2.2.2.2.2.2.2.2.2.1 bt392.2.2.2.2.2.2.2.2.2.2.2.2.2.1 bt392.2.2.2.2.2.2.2.2.2.2.2.2.2.2).bind fun t411 => (some ((t411.length : Int) == 0)))))) = some r := by rw [if_neg (show ¬ (false = true) by decide)] at H; exact H
  clear H
  have H := H1
  clear H1
  replace H := Option.bind_eq_some_iff.mp H
  obtain ⟨⟨t392, t393, t394, t395, t396, t397, t398, t399, t400, t401, t402, t403, t404, t405, t406⟩, A40, H⟩ := H
  replace H : ((spec_ConfigOk.f k t392 t393 t394 t395 t396 t397 t398 t399 t400 t401 t402 t403 t404 t405).bind fun t410 => (if t410 = true then ((impl_StepsToCap.f k t392 t393 t394 t395 t396 t397 t398 t399 t400 t401 t402 t403 t404 t405).bind fun t414 => (laws_FnWaits.l0 k l0 t406 t414 1 t392 t393 t394 t395 t396 t397 t398 t399 t400 t401 t402 t403 t404 t405)) else ((impl_Redials.f k t392 t393 t394 t395 t396 t397 t398 t399 t400 t401 t402 t403 t404 t405 t406).bind fun t411 => (some ((t411.length : Int) == 0))))) = some r := H
  have A4 := Aside0.mk A40
  clear A40
  replace H := Option.bind_eq_some_iff.mp H
  obtain ⟨t410, A50, H⟩ := H
  replace H : (if t410 = true then ((impl_StepsToCap.f k t392 t393 t394 t395 t396 t397 t398 t399 t400 t401 t402 t403 t404 t405).bind fun t414 => (laws_FnWaits.l0 k l0 t406 t414 1 t392 t393 t394 t395 t396 t397 t398 t399 t400 t401 t402 t403 t404 t405)) else ((impl_Redials.f k t392 t393 t394 t395 t396 t397 t398 t399 t400 t401 t402 t403 t404 t405 t406).bind fun t411 => (some ((t411.length : Int) == 0)))) = some r := H
  have A5 := Aside0.mk A50
  clear A50
  by_cases c6 : t410 = true
  ·
   subst c6
   have H1 : ((impl_StepsToCap.f k t392 t393 t394 t395 t396 t397 t398 t399 t400 t401 t402 t403 t404 t405).bind fun t414 => (laws_FnWaits.l0 k l0 t406 t414 1 t392 t393 t394 t395 t396 t397 t398 t399 t400 t401 t402 t403 t404 t405)) = some r := by rw [if_pos rfl] at H; exact H
   clear H
   have H := H1
   clear H1
   replace H := Option.bind_eq_some_iff.mp H
   obtain ⟨t414, A70, H⟩ := H
   replace H : (laws_FnWaits.l0 k l0 t406 t414 1 t392 t393 t394 t395 t396 t397 t398 t399 t400 t401 t402 t403 t404 t405) = some r := H
   have A7 := Aside0.mk A70
   clear A70
   have H' := Aside0.mk H
   clear H
   go_enter Try.func11, Try.ntmps11
   go_wp2_with (first | ((with_reducible refine gate_callee (f := 34) rfl ?_); refine goesL_ (some 13) rfl rfl Try.func34 (by kernel_rfl) rfl #[.slice A0 l0.length c0] rfl (by (try simp only [List.map_toArray, List.map_cons, List.map_nil]); first | done | rfl | (simp only [List.length_drop, List.length_take]; rfl)) ?_; (with_reducible refine (laws_big.calls _ _ l0 false _ ?side1 ?side2 A2.out).mono ?_); (case side1 => repeat (first | exact HR0.out | (with_reducible refine Kd.C_alloc ?_ _) | (with_reducible refine Kd.C_drewN ?_ _) | (with_reducible refine Kd.C_drew ?_))); (case side2 => exact HC0.out); rintro e w' ⟨rfl, ⟨nd, rfl⟩⟩; refine ⟨_, rfl, ?_⟩) | ((with_reducible refine gate_callee (f := 35) rfl ?_); refine goesL_ (some 16) rfl rfl Try.func35 (by kernel_rfl) rfl #[.slice A0 l0.length c0] rfl (by (try simp only [List.map_toArray, List.map_cons, List.map_nil]); first | done | rfl | (simp only [List.length_drop, List.length_take]; rfl)) ?_; (with_reducible refine (spec_DrawRedials.calls k _ _ l0 t392 t393 t394 t395 t396 t397 t398 t399 t400 t401 t402 t403 t404 t405 t406 _ ?side1 ?side2 A4.out).mono ?_); (case side1 => repeat (first | exact HR0.out | (with_reducible refine Kd.C_alloc ?_ _) | (with_reducible refine Kd.C_drewN ?_ _) | (with_reducible refine Kd.C_drew ?_))); (case side2 => exact HC0.out); rintro e w8 ⟨v407, rfl, ho0, hb⟩; refine ⟨_, rfl, ?_⟩; have n0_ := Aside0.mk (Kd.R_lower ho0 (below_size (be_ HB.out))); have n1_ := Aside0.mk (below_step (be_ HB.out) hb); clear HB; have HO408 := n0_; have HB := n1_; clear n0_ n1_; (try clear hb); (try clear hb2); (try clear hk); (try clear hi); (try clear ho0)) | ((with_reducible refine gate_dst (N := 3) rfl ?_); refine box_event ?hg (N := 3) ?hd (cs := #[.int .i64 0, .int .i64 0, .int .i64 0, .int .i64 0, .int .i64 0, .int .i64 0, .int .i64 0, .int .i64 0, .int .i64 0, .int .i64 0, .int .i64 0, .int .i64 0, .int .i64 0, .int .i64 0]) (t := 30) ?hr ?_; (case hd => rfl); (case hg => rfl); (case hr => first | (go_simp; done) | (go_simp; rfl)); intro gb409 hg w9 hbox hb; have n0_ := Aside0.mk (Kd.R_below (ro_ HO408.out) hb); have n1_ := Aside0.mk (below_step (be_ HB.out) hb); have n2_ := Aside0.mk (hbox); have n3_ := Aside0.mk ((by rw [hg]; exact (below_size (be_ HB.out)) : w.heap.size ≤ gb409)); have n4_ := Aside0.mk ((by rw [hg]; exact (below_size (be_ HB.out)) : w.heap.size ≤ gb409)); clear HO408 HB; have HO408 := n0_; have HB := n1_; have BK409 := n2_; have GW409 := n3_; have GE409 := n4_; clear n0_ n1_ n2_ n3_ n4_; clear hb hbox hg; obtain ⟨hcz10_0, hcz10_1, hcz10_2, hcz10_3, hcz10_4, hcz10_5, hcz10_6, hcz10_7, hcz10_8, hcz10_9, hcz10_10, hcz10_11, hcz10_12, hcz10_13, hfz10_0, hfz10_1, hfz10_2, hfz10_3, hfz10_4, hfz10_5, hfz10_6, hfz10_7, hfz10_8, hfz10_9, hfz10_10, hfz10_11, hfz10_12, hfz10_13⟩ := cz14_ BK409.out) | ((with_reducible refine gate_callee (f := 36) rfl ?_); refine goesL_ (some 20) rfl rfl Try.func36 (by kernel_rfl) rfl #[.agg #[.int .i64 t392, .int .i64 t393, .int .i64 t394, .int .i64 t395, .int .i64 t396, .int .i64 t397, .int .i64 t398, .int .i64 t399, .int .i64 t400, .int .i64 t401, .int .i64 t402, .int .i64 t403, .int .i64 t404, .int .i64 t405]] rfl (by (try simp only [List.map_toArray, List.map_cons, List.map_nil]); first | done | rfl | (simp only [List.length_drop, List.length_take]; rfl)) ?_; (with_reducible refine (spec_ConfigOk.calls k t392 t393 t394 t395 t396 t397 t398 t399 t400 t401 t402 t403 t404 t405 true _ A5.out).mono ?_); rintro e w11 ⟨rfl, hb⟩; refine ⟨_, rfl, ?_⟩; have n0_ := Aside0.mk (Kd.R_below (by (with_reducible repeat (first | apply Kd.R_alloc | apply Kd.R_drewN | apply Kd.R_drew)); exact (Kd.R_mono (Kd.R_far (p := ⟨gb409, 13, none⟩) (Kd.R_far (p := ⟨gb409, 12, none⟩) (Kd.R_far (p := ⟨gb409, 11, none⟩) (Kd.R_far (p := ⟨gb409, 10, none⟩) (Kd.R_far (p := ⟨gb409, 9, none⟩) (Kd.R_far (p := ⟨gb409, 8, none⟩) (Kd.R_far (p := ⟨gb409, 7, none⟩) (Kd.R_far (p := ⟨gb409, 6, none⟩) (Kd.R_far (p := ⟨gb409, 5, none⟩) (Kd.R_far (p := ⟨gb409, 4, none⟩) (Kd.R_far (p := ⟨gb409, 3, none⟩) (Kd.R_far (p := ⟨gb409, 2, none⟩) (Kd.R_far (p := ⟨gb409, 1, none⟩) (Kd.R_far (p := ⟨gb409, 0, none⟩) (Kd.R_types HO408.out BK409.out (by decide)) (fun _ hk => hk.2) (.int .i64 t392)) (fun _ hk => hk.2) (.int .i64 t393)) (fun _ hk => hk.2) (.int .i64 t394)) (fun _ hk => hk.2) (.int .i64 t395)) (fun _ hk => hk.2) (.int .i64 t396)) (fun _ hk => hk.2) (.int .i64 t397)) (fun _ hk => hk.2) (.int .i64 t398)) (fun _ hk => hk.2) (.int .i64 t399)) (fun _ hk => hk.2) (.int .i64 t400)) (fun _ hk => hk.2) (.int .i64 t401)) (fun _ hk => hk.2) (.int .i64 t402)) (fun _ hk => hk.2) (.int .i64 t403)) (fun _ hk => hk.2) (.int .i64 t404)) (fun _ hk => hk.2) (.int .i64 t405)) (fun _ h_ => h_.1))) hb); have n1_ := Aside0.mk (blk_below (g := gb409) (o := .cells #[.int .i64 t392, .int .i64 t393, .int .i64 t394, .int .i64 t395, .int .i64 t396, .int .i64 t397, .int .i64 t398, .int .i64 t399, .int .i64 t400, .int .i64 t401, .int .i64 t402, .int .i64 t403, .int .i64 t404, .int .i64 t405] 30 (0, 0)) (by refine bl_ ?_; refine blk_put (cs := #[.int .i64 t392, .int .i64 t393, .int .i64 t394, .int .i64 t395, .int .i64 t396, .int .i64 t397, .int .i64 t398, .int .i64 t399, .int .i64 t400, .int .i64 t401, .int .i64 t402, .int .i64 t403, .int .i64 t404, .int .i64 0]) ?_ 13 _ rfl; refine bl_ ?_; refine blk_put (cs := #[.int .i64 t392, .int .i64 t393, .int .i64 t394, .int .i64 t395, .int .i64 t396, .int .i64 t397, .int .i64 t398, .int .i64 t399, .int .i64 t400, .int .i64 t401, .int .i64 t402, .int .i64 t403, .int .i64 0, .int .i64 0]) ?_ 12 _ rfl; refine bl_ ?_; refine blk_put (cs := #[.int .i64 t392, .int .i64 t393, .int .i64 t394, .int .i64 t395, .int .i64 t396, .int .i64 t397, .int .i64 t398, .int .i64 t399, .int .i64 t400, .int .i64 t401, .int .i64 t402, .int .i64 0, .int .i64 0, .int .i64 0]) ?_ 11 _ rfl; refine bl_ ?_; refine blk_put (cs := #[.int .i64 t392, .int .i64 t393, .int .i64 t394, .int .i64 t395, .int .i64 t396, .int .i64 t397, .int .i64 t398, .int .i64 t399, .int .i64 t400, .int .i64 t401, .int .i64 0, .int .i64 0, .int .i64 0, .int .i64 0]) ?_ 10 _ rfl; refine bl_ ?_; refine blk_put (cs := #[.int .i64 t392, .int .i64 t393, .int .i64 t394, .int .i64 t395, .int .i64 t396, .int .i64 t397, .int .i64 t398, .int .i64 t399, .int .i64 t400, .int .i64 0, .int .i64 0, .int .i64 0, .int .i64 0, .int .i64 0]) ?_ 9 _ rfl; refine bl_ ?_; refine blk_put (cs := #[.int .i64 t392, .int .i64 t393, .int .i64 t394, .int .i64 t395, .int .i64 t396, .int .i64 t397, .int .i64 t398, .int .i64 t399, .int .i64 0, .int .i64 0, .int .i64 0, .int .i64 0, .int .i64 0, .int .i64 0]) ?_ 8 _ rfl; refine bl_ ?_; refine blk_put (cs := #[.int .i64 t392, .int .i64 t393, .int .i64 t394, .int .i64 t395, .int .i64 t396, .int .i64 t397, .int .i64 t398, .int .i64 0, .int .i64 0, .int .i64 0, .int .i64 0, .int .i64 0, .int .i64 0, .int .i64 0]) ?_ 7 _ rfl; refine bl_ ?_; refine blk_put (cs := #[.int .i64 t392, .int .i64 t393, .int .i64 t394, .int .i64 t395, .int .i64 t396, .int .i64 t397, .int .i64 0, .int .i64 0, .int .i64 0, .int .i64 0, .int .i64 0, .int .i64 0, .int .i64 0, .int .i64 0]) ?_ 6 _ rfl; refine bl_ ?_; refine blk_put (cs := #[.int .i64 t392, .int .i64 t393, .int .i64 t394, .int .i64 t395, .int .i64 t396, .int .i64 0, .int .i64 0, .int .i64 0, .int .i64 0, .int .i64 0, .int .i64 0, .int .i64 0, .int .i64 0, .int .i64 0]) ?_ 5 _ rfl; refine bl_ ?_; refine blk_put (cs := #[.int .i64 t392, .int .i64 t393, .int .i64 t394, .int .i64 t395, .int .i64 0, .int .i64 0, .int .i64 0, .int .i64 0, .int .i64 0, .int .i64 0, .int .i64 0, .int .i64 0, .int .i64 0, .int .i64 0]) ?_ 4 _ rfl; refine bl_ ?_; refine blk_put (cs := #[.int .i64 t392, .int .i64 t393, .int .i64 t394, .int .i64 0, .int .i64 0, .int .i64 0, .int .i64 0, .int .i64 0, .int .i64 0, .int .i64 0, .int .i64 0, .int .i64 0, .int .i64 0, .int .i64 0]) ?_ 3 _ rfl; refine bl_ ?_; refine blk_put (cs := #[.int .i64 t392, .int .i64 t393, .int .i64 0, .int .i64 0, .int .i64 0, .int .i64 0, .int .i64 0, .int .i64 0, .int .i64 0, .int .i64 0, .int .i64 0, .int .i64 0, .int .i64 0, .int .i64 0]) ?_ 2 _ rfl; refine bl_ ?_; refine blk_put (cs := #[.int .i64 t392, .int .i64 0, .int .i64 0, .int .i64 0, .int .i64 0, .int .i64 0, .int .i64 0, .int .i64 0, .int .i64 0, .int .i64 0, .int .i64 0, .int .i64 0, .int .i64 0, .int .i64 0]) ?_ 1 _ rfl; refine bl_ ?_; refine blk_put (cs := #[.int .i64 0, .int .i64 0, .int .i64 0, .int .i64 0, .int .i64 0, .int .i64 0, .int .i64 0, .int .i64 0, .int .i64 0, .int .i64 0, .int .i64 0, .int .i64 0, .int .i64 0, .int .i64 0]) ?_ 0 _ rfl; refine bl_ ?_; exact BK409.out) hb); have n2_ := Aside0.mk (below_step (be_ HB.out) hb); clear HO408 BK409 HB; have HO408 := n0_; have BK409 := n1_; have HB := n2_; clear n0_ n1_ n2_; (try clear hb); (try clear hb2); (try clear hk); (try clear hi); obtain ⟨hcz12_0, hcz12_1, hcz12_2, hcz12_3, hcz12_4, hcz12_5, hcz12_6, hcz12_7, hcz12_8, hcz12_9, hcz12_10, hcz12_11, hcz12_12, hcz12_13, hfz12_0, hfz12_1, hfz12_2, hfz12_3, hfz12_4, hfz12_5, hfz12_6, hfz12_7, hfz12_8, hfz12_9, hfz12_10, hfz12_11, hfz12_12, hfz12_13⟩ := cz14_ BK409.out) | ((with_reducible refine gate_callee (f := 24) rfl ?_); refine goesL_ (some 28) rfl rfl Try.func24 (by kernel_rfl) rfl #[.agg #[.int .i64 t392, .int .i64 t393, .int .i64 t394, .int .i64 t395, .int .i64 t396, .int .i64 t397, .int .i64 t398, .int .i64 t399, .int .i64 t400, .int .i64 t401, .int .i64 t402, .int .i64 t403, .int .i64 t404, .int .i64 t405]] rfl (by (try simp only [List.map_toArray, List.map_cons, List.map_nil]); first | done | rfl | (simp only [List.length_drop, List.length_take]; rfl)) ?_; (with_reducible refine (impl_StepsToCap.calls k t392 t393 t394 t395 t396 t397 t398 t399 t400 t401 t402 t403 t404 t405 t414 _ A7.out).mono ?_); rintro e w13 ⟨rfl, hb⟩; refine ⟨_, rfl, ?_⟩; have n0_ := Aside0.mk (Kd.R_below (ro_ HO408.out) hb); have n1_ := Aside0.mk (blk_below (bl_ BK409.out) hb); have n2_ := Aside0.mk (below_step (be_ HB.out) hb); clear HO408 BK409 HB; have HO408 := n0_; have BK409 := n1_; have HB := n2_; clear n0_ n1_ n2_; (try clear hb); (try clear hb2); (try clear hk); (try clear hi)))
   go_loopg [6] k (fun kq zv6 w' => ∃ (x6_1 : Int), zv6 = .int .i64 x6_1 ∧ Aside0 (laws_FnWaits.l0 kq l0 t406 t414 x6_1 t392 t393 t394 t395 t396 t397 t398 t399 t400 t401 t402 t403 t404 t405 = some r) ∧ Aside0 (kq ≤ k) ∧ Aside0 (Kd.R (Kd.int .i64) 3 w' w.heap.size (fun _ => True) v407 t406) ∧ Aside0 (w'.heap[gb409]? = some (.cells #[.int .i64 t392, .int .i64 t393, .int .i64 t394, .int .i64 t395, .int .i64 t396, .int .i64 t397, .int .i64 t398, .int .i64 t399, .int .i64 t400, .int .i64 t401, .int .i64 t402, .int .i64 t403, .int .i64 t404, .int .i64 t405] 30 (0, 0))) ∧ Aside0 (Below w.heap.size w w'))
   case atStart => exact ⟨(1), (by first | rfl | (simp; done) | (simp [*]; done)), H', ⟨Nat.le_refl _⟩, ⟨by (with_reducible repeat (first | apply Kd.R_alloc | apply Kd.R_drewN | apply Kd.R_drew)); exact HO408.out⟩, ⟨by refine bl_ ?_; exact BK409.out⟩, ⟨be_ HB.out⟩⟩
   case round => as_aux_lemma =>
    clear H'
    try clear c1
    try clear c2
    try clear p2
    try clear c3
    try clear c6
    try clear c11
    try clear hcz10_0
    try clear hcz10_1
    try clear hcz10_10
    try clear hcz10_11
    try clear hcz10_12
    try clear hcz10_13
    try clear hcz10_2
    try clear hcz10_3
    try clear hcz10_4
    try clear hcz10_5
    try clear hcz10_6
    try clear hcz10_7
    try clear hcz10_8
    try clear hcz10_9
    try clear hcz12_0
    try clear hcz12_1
    try clear hcz12_10
    try clear hcz12_11
    try clear hcz12_12
    try clear hcz12_13
    try clear hcz12_2
    try clear hcz12_3
    try clear hcz12_4
    try clear hcz12_5
    try clear hcz12_6
    try clear hcz12_7
    try clear hcz12_8
    try clear hcz12_9
    try clear hfz10_0
    try clear hfz10_1
    try clear hfz10_10
    try clear hfz10_11
    try clear hfz10_12
    try clear hfz10_13
    try clear hfz10_2
    try clear hfz10_3
    try clear hfz10_4
    try clear hfz10_5
    try clear hfz10_6
    try clear hfz10_7
    try clear hfz10_8
    try clear hfz10_9
    try clear hfz12_0
    try clear hfz12_1
    try clear hfz12_10
    try clear hfz12_11
    try clear hfz12_12
    try clear hfz12_13
    try clear hfz12_2
    try clear hfz12_3
    try clear hfz12_4
    try clear hfz12_5
    try clear hfz12_6
    try clear hfz12_7
    try clear hfz12_8
    try clear hfz12_9
    obtain ⟨x6_1, rfl, HA, HK1, HO_4, BK409, HB⟩ := hrel
    cases gk with
    | zero => exact absurd HA.out (by simp [laws_FnWaits.l0])
    | succ k1 =>
     have H := HA.out
     clear HA
     simp only [laws_FnWaits.l0] at H
     by_cases c14 : x6_1 < 12
     ·
      rw [if_pos c14] at H
      have c14b0 : decide (x6_1 < 12) = true := decide_eq_true c14
      clear c14
      replace H := Option.bind_eq_some_iff.mp H
      obtain ⟨t415, A150, H⟩ := H
      replace H : ((impl_FullWait.f k1 t392 t393 t394 t395 t396 t397 t398 t399 t400 t401 t402 t403 t404 t405 (wrap64 (x6_1 + 1))).bind fun t416 => ((spec_FullWait.f k1 t392 t393 t394 t395 t396 t397 t398 t399 t400 t401 t402 t403 t404 t405 x6_1).bind fun t417 => (if t415 = t417 then (if t416 < t415 then (laws_FnWaits.j1 k1 l0 t406 t414 x6_1 t415 true t392 t393 t394 t395 t396 t397 t398 t399 t400 t401 t402 t403 t404 t405) else (if t415 > t400 then (laws_FnWaits.j1 k1 l0 t406 t414 x6_1 t415 true t392 t393 t394 t395 t396 t397 t398 t399 t400 t401 t402 t403 t404 t405) else (if ((t415 == t400) != (decide (x6_1 ≥ t414))) = true then (laws_FnWaits.j1 k1 l0 t406 t414 x6_1 t415 true t392 t393 t394 t395 t396 t397 t398 t399 t400 t401 t402 t403 t404 t405) else (if (wrap64 (2 * t415)) ≤ t400 then (laws_FnWaits.j1 k1 l0 t406 t414 x6_1 t415 (t416 != (wrap64 (2 * t415))) t392 t393 t394 t395 t396 t397 t398 t399 t400 t401 t402 t403 t404 t405) else (laws_FnWaits.j1 k1 l0 t406 t414 x6_1 t415 false t392 t393 t394 t395 t396 t397 t398 t399 t400 t401 t402 t403 t404 t405))))) else (laws_FnWaits.j1 k1 l0 t406 t414 x6_1 t415 true t392 t393 t394 t395 t396 t397 t398 t399 t400 t401 t402 t403 t404 t405)))) = some r := H
      have A15 := Aside0.mk A150
      clear A150
      replace H := Option.bind_eq_some_iff.mp H
      obtain ⟨t416, A160, H⟩ := H
      replace H : ((spec_FullWait.f k1 t392 t393 t394 t395 t396 t397 t398 t399 t400 t401 t402 t403 t404 t405 x6_1).bind fun t417 => (if t415 = t417 then (if t416 < t415 then (laws_FnWaits.j1 k1 l0 t406 t414 x6_1 t415 true t392 t393 t394 t395 t396 t397 t398 t399 t400 t401 t402 t403 t404 t405) else (if t415 > t400 then (laws_FnWaits.j1 k1 l0 t406 t414 x6_1 t415 true t392 t393 t394 t395 t396 t397 t398 t399 t400 t401 t402 t403 t404 t405) else (if ((t415 == t400) != (decide (x6_1 ≥ t414))) = true then (laws_FnWaits.j1 k1 l0 t406 t414 x6_1 t415 true t392 t393 t394 t395 t396 t397 t398 t399 t400 t401 t402 t403 t404 t405) else (if (wrap64 (2 * t415)) ≤ t400 then (laws_FnWaits.j1 k1 l0 t406 t414 x6_1 t415 (t416 != (wrap64 (2 * t415))) t392 t393 t394 t395 t396 t397 t398 t399 t400 t401 t402 t403 t404 t405) else (laws_FnWaits.j1 k1 l0 t406 t414 x6_1 t415 false t392 t393 t394 t395 t396 t397 t398 t399 t400 t401 t402 t403 t404 t405))))) else (laws_FnWaits.j1 k1 l0 t406 t414 x6_1 t415 true t392 t393 t394 t395 t396 t397 t398 t399 t400 t401 t402 t403 t404 t405))) = some r := H
      have A16 := Aside0.mk A160
      clear A160
      have HC17 := Aside0.mk H
      clear H
      obtain ⟨hcz18_0, hcz18_1, hcz18_2, hcz18_3, hcz18_4, hcz18_5, hcz18_6, hcz18_7, hcz18_8, hcz18_9, hcz18_10, hcz18_11, hcz18_12, hcz18_13, hfz18_0, hfz18_1, hfz18_2, hfz18_3, hfz18_4, hfz18_5, hfz18_6, hfz18_7, hfz18_8, hfz18_9, hfz18_10, hfz18_11, hfz18_12, hfz18_13⟩ := cz14_ BK409.out
      go_upto_region 12 with (first | ((with_reducible refine gate_callee (f := 18) rfl ?_); refine goesL_ (some 35) rfl rfl Try.func18 (by kernel_rfl) rfl #[.agg #[.int .i64 t392, .int .i64 t393, .int .i64 t394, .int .i64 t395, .int .i64 t396, .int .i64 t397, .int .i64 t398, .int .i64 t399, .int .i64 t400, .int .i64 t401, .int .i64 t402, .int .i64 t403, .int .i64 t404, .int .i64 t405], .int .i64 x6_1] rfl (by (try simp only [List.map_toArray, List.map_cons, List.map_nil]); first | done | rfl | (simp only [List.length_drop, List.length_take]; rfl)) ?_; (with_reducible refine (impl_FullWait.calls k1 t392 t393 t394 t395 t396 t397 t398 t399 t400 t401 t402 t403 t404 t405 x6_1 t415 _ A15.out).mono ?_); rintro e w19 ⟨rfl, hb⟩; refine ⟨_, rfl, ?_⟩; have n0_ := Aside0.mk (Kd.R_below (ro_ HO_4.out) hb); have n1_ := Aside0.mk (blk_below (bl_ BK409.out) hb); have n2_ := Aside0.mk (below_step (be_ HB.out) hb); clear HO_4 BK409 HB; have HO_4 := n0_; have BK409 := n1_; have HB := n2_; clear n0_ n1_ n2_; (try clear hb); (try clear hb2); (try clear hk); (try clear hi); obtain ⟨hcz20_0, hcz20_1, hcz20_2, hcz20_3, hcz20_4, hcz20_5, hcz20_6, hcz20_7, hcz20_8, hcz20_9, hcz20_10, hcz20_11, hcz20_12, hcz20_13, hfz20_0, hfz20_1, hfz20_2, hfz20_3, hfz20_4, hfz20_5, hfz20_6, hfz20_7, hfz20_8, hfz20_9, hfz20_10, hfz20_11, hfz20_12, hfz20_13⟩ := cz14_ BK409.out) | ((with_reducible refine gate_callee (f := 18) rfl ?_); refine goesL_ (some 39) rfl rfl Try.func18 (by kernel_rfl) rfl #[.agg #[.int .i64 t392, .int .i64 t393, .int .i64 t394, .int .i64 t395, .int .i64 t396, .int .i64 t397, .int .i64 t398, .int .i64 t399, .int .i64 t400, .int .i64 t401, .int .i64 t402, .int .i64 t403, .int .i64 t404, .int .i64 t405], .int .i64 (wrap64 (x6_1 + 1))] rfl (by (try simp only [List.map_toArray, List.map_cons, List.map_nil]); first | done | rfl | (simp only [List.length_drop, List.length_take]; rfl)) ?_; (with_reducible refine (impl_FullWait.calls k1 t392 t393 t394 t395 t396 t397 t398 t399 t400 t401 t402 t403 t404 t405 (wrap64 (x6_1 + 1)) t416 _ A16.out).mono ?_); rintro e w21 ⟨rfl, hb⟩; refine ⟨_, rfl, ?_⟩; have n0_ := Aside0.mk (Kd.R_below (ro_ HO_4.out) hb); have n1_ := Aside0.mk (blk_below (bl_ BK409.out) hb); have n2_ := Aside0.mk (below_step (be_ HB.out) hb); clear HO_4 BK409 HB; have HO_4 := n0_; have BK409 := n1_; have HB := n2_; clear n0_ n1_ n2_; (try clear hb); (try clear hb2); (try clear hk); (try clear hi)))
      (try simp only [Act.put, List.setIfInBounds_toArray, List.set_cons_zero, List.set_cons_succ])
      go_cut [78] (fun zv78 wc => ∃ (kq : Nat) (x78_16 : Bool), zv78 = .bool x78_16 ∧ Aside0 (laws_FnWaits.j1 kq l0 t406 t414 x6_1 t415 x78_16 t392 t393 t394 t395 t396 t397 t398 t399 t400 t401 t402 t403 t404 t405 = some r) ∧ Aside0 (kq ≤ k1) ∧ Aside0 (Kd.R (Kd.int .i64) 3 wc w.heap.size (fun _ => True) v407 t406) ∧ Aside0 (wc.heap[gb409]? = some (.cells #[.int .i64 t392, .int .i64 t393, .int .i64 t394, .int .i64 t395, .int .i64 t396, .int .i64 t397, .int .i64 t398, .int .i64 t399, .int .i64 t400, .int .i64 t401, .int .i64 t402, .int .i64 t403, .int .i64 t404, .int .i64 t405] 30 (0, 0))) ∧ Aside0 (Below w.heap.size w wc))
      case first => as_aux_lemma =>
       have H := HC17.out
       clear HC17
       replace H := Option.bind_eq_some_iff.mp H
       obtain ⟨t417, A220, H⟩ := H
       replace H : (if t415 = t417 then (if t416 < t415 then (laws_FnWaits.j1 k1 l0 t406 t414 x6_1 t415 true t392 t393 t394 t395 t396 t397 t398 t399 t400 t401 t402 t403 t404 t405) else (if t415 > t400 then (laws_FnWaits.j1 k1 l0 t406 t414 x6_1 t415 true t392 t393 t394 t395 t396 t397 t398 t399 t400 t401 t402 t403 t404 t405) else (if ((t415 == t400) != (decide (x6_1 ≥ t414))) = true then (laws_FnWaits.j1 k1 l0 t406 t414 x6_1 t415 true t392 t393 t394 t395 t396 t397 t398 t399 t400 t401 t402 t403 t404 t405) else (if (wrap64 (2 * t415)) ≤ t400 then (laws_FnWaits.j1 k1 l0 t406 t414 x6_1 t415 (t416 != (wrap64 (2 * t415))) t392 t393 t394 t395 t396 t397 t398 t399 t400 t401 t402 t403 t404 t405) else (laws_FnWaits.j1 k1 l0 t406 t414 x6_1 t415 false t392 t393 t394 t395 t396 t397 t398 t399 t400 t401 t402 t403 t404 t405))))) else (laws_FnWaits.j1 k1 l0 t406 t414 x6_1 t415 true t392 t393 t394 t395 t396 t397 t398 t399 t400 t401 t402 t403 t404 t405)) = some r := H
       have A22 := Aside0.mk A220
       clear A220
       by_cases c23 : t415 = t417
       ·
        rw [if_pos c23] at H
        have c23b0 : (t415 == t417) = true := beq_iff_eq.mpr c23
        have c23b1 : (t415 != t417) = false := bne_eq_false_iff_eq.mpr c23
        clear c23
        (first | rw [c23b0] | (simp only [i64_w, i32_w]; rw [c23b0]) | skip)
        by_cases c24 : t416 < t415
        ·
         rw [if_pos c24] at H
         have c24b0 : decide (t416 < t415) = true := decide_eq_true c24
         clear c24
         have H' := Aside0.mk H
         clear H
         obtain ⟨hcz25_0, hcz25_1, hcz25_2, hcz25_3, hcz25_4, hcz25_5, hcz25_6, hcz25_7, hcz25_8, hcz25_9, hcz25_10, hcz25_11, hcz25_12, hcz25_13, hfz25_0, hfz25_1, hfz25_2, hfz25_3, hfz25_4, hfz25_5, hfz25_6, hfz25_7, hfz25_8, hfz25_9, hfz25_10, hfz25_11, hfz25_12, hfz25_13⟩ := cz14_ BK409.out
         go_wp2_with (first | ((with_reducible refine gate_callee (f := 16) rfl ?_); refine goesL_ (some 43) rfl rfl Try.func16 (by kernel_rfl) rfl #[.agg #[.int .i64 t392, .int .i64 t393, .int .i64 t394, .int .i64 t395, .int .i64 t396, .int .i64 t397, .int .i64 t398, .int .i64 t399, .int .i64 t400, .int .i64 t401, .int .i64 t402, .int .i64 t403, .int .i64 t404, .int .i64 t405], .int .i64 x6_1] rfl (by (try simp only [List.map_toArray, List.map_cons, List.map_nil]); first | done | rfl | (simp only [List.length_drop, List.length_take]; rfl)) ?_; (with_reducible refine (spec_FullWait.calls k1 t392 t393 t394 t395 t396 t397 t398 t399 t400 t401 t402 t403 t404 t405 x6_1 t417 _ A22.out).mono ?_); rintro e w26 ⟨rfl, hb⟩; refine ⟨_, rfl, ?_⟩; have n0_ := Aside0.mk (Kd.R_below (ro_ HO_4.out) hb); have n1_ := Aside0.mk (blk_below (bl_ BK409.out) hb); have n2_ := Aside0.mk (below_step (be_ HB.out) hb); clear HO_4 BK409 HB; have HO_4 := n0_; have BK409 := n1_; have HB := n2_; clear n0_ n1_ n2_; (try clear hb); (try clear hb2); (try clear hk); (try clear hi)))
         go_meet
         case rel => exact ⟨_, (true), (by first | rfl | (simp; done) | (simp [*]; done)), H', ⟨by have := HK1.out; first | omega | exact Nat.le_refl _⟩, ⟨by (with_reducible repeat (first | apply Kd.R_alloc | apply Kd.R_drewN | apply Kd.R_drew)); exact HO_4.out⟩, ⟨by refine bl_ ?_; exact BK409.out⟩, ⟨be_ HB.out⟩⟩
        ·
         rw [if_neg c24] at H
         have c24b0 : decide (t416 < t415) = false := decide_eq_false c24
         clear c24
         by_cases c27 : t415 > t400
         ·
          rw [if_pos c27] at H
          have c27b0 : decide (t400 < t415) = true := decide_eq_true c27
          clear c27
          have H' := Aside0.mk H
          clear H
          obtain ⟨hcz28_0, hcz28_1, hcz28_2, hcz28_3, hcz28_4, hcz28_5, hcz28_6, hcz28_7, hcz28_8, hcz28_9, hcz28_10, hcz28_11, hcz28_12, hcz28_13, hfz28_0, hfz28_1, hfz28_2, hfz28_3, hfz28_4, hfz28_5, hfz28_6, hfz28_7, hfz28_8, hfz28_9, hfz28_10, hfz28_11, hfz28_12, hfz28_13⟩ := cz14_ BK409.out
          go_wp2_with (first | ((with_reducible refine gate_callee (f := 16) rfl ?_); refine goesL_ (some 43) rfl rfl Try.func16 (by kernel_rfl) rfl #[.agg #[.int .i64 t392, .int .i64 t393, .int .i64 t394, .int .i64 t395, .int .i64 t396, .int .i64 t397, .int .i64 t398, .int .i64 t399, .int .i64 t400, .int .i64 t401, .int .i64 t402, .int .i64 t403, .int .i64 t404, .int .i64 t405], .int .i64 x6_1] rfl (by (try simp only [List.map_toArray, List.map_cons, List.map_nil]); first | done | rfl | (simp only [List.length_drop, List.length_take]; rfl)) ?_; (with_reducible refine (spec_FullWait.calls k1 t392 t393 t394 t395 t396 t397 t398 t399 t400 t401 t402 t403 t404 t405 x6_1 t417 _ A22.out).mono ?_); rintro e w29 ⟨rfl, hb⟩; refine ⟨_, rfl, ?_⟩; have n0_ := Aside0.mk (Kd.R_below (ro_ HO_4.out) hb); have n1_ := Aside0.mk (blk_below (bl_ BK409.out) hb); have n2_ := Aside0.mk (below_step (be_ HB.out) hb); clear HO_4 BK409 HB; have HO_4 := n0_; have BK409 := n1_; have HB := n2_; clear n0_ n1_ n2_; (try clear hb); (try clear hb2); (try clear hk); (try clear hi); obtain ⟨hcz30_0, hcz30_1, hcz30_2, hcz30_3, hcz30_4, hcz30_5, hcz30_6, hcz30_7, hcz30_8, hcz30_9, hcz30_10, hcz30_11, hcz30_12, hcz30_13, hfz30_0, hfz30_1, hfz30_2, hfz30_3, hfz30_4, hfz30_5, hfz30_6, hfz30_7, hfz30_8, hfz30_9, hfz30_10, hfz30_11, hfz30_12, hfz30_13⟩ := cz14_ BK409.out))
          go_meet
          case rel => exact ⟨_, (true), (by first | rfl | (simp; done) | (simp [*]; done)), H', ⟨by have := HK1.out; first | omega | exact Nat.le_refl _⟩, ⟨by (with_reducible repeat (first | apply Kd.R_alloc | apply Kd.R_drewN | apply Kd.R_drew)); exact HO_4.out⟩, ⟨by refine bl_ ?_; exact BK409.out⟩, ⟨be_ HB.out⟩⟩
         ·
          rw [if_neg c27] at H
          have c27b0 : decide (t400 < t415) = false := decide_eq_false c27
          clear c27
          by_cases c31 : ((t415 == t400) != (decide (x6_1 ≥ t414))) = true
          ·
           rw [if_pos c31] at H
           have c31b0 : ((t415 == t400) != (decide (x6_1 ≥ t414))) = true := c31
           (try (have c31b1 : decide ((t415 == t400) = (decide (x6_1 ≥ t414))) = false := by simpa using c31))
           (try (have c31b2 : ((t415 == t400) == (decide (x6_1 ≥ t414))) = false := by simpa using c31))
           (try (have c31b3 : ¬ ((t415 == t400) = (decide (x6_1 ≥ t414))) := by simpa using c31))
           clear c31
           have H' := Aside0.mk H
           clear H
           obtain ⟨hcz32_0, hcz32_1, hcz32_2, hcz32_3, hcz32_4, hcz32_5, hcz32_6, hcz32_7, hcz32_8, hcz32_9, hcz32_10, hcz32_11, hcz32_12, hcz32_13, hfz32_0, hfz32_1, hfz32_2, hfz32_3, hfz32_4, hfz32_5, hfz32_6, hfz32_7, hfz32_8, hfz32_9, hfz32_10, hfz32_11, hfz32_12, hfz32_13⟩ := cz14_ BK409.out
           go_wp2_with (first | ((with_reducible refine gate_callee (f := 16) rfl ?_); refine goesL_ (some 43) rfl rfl Try.func16 (by kernel_rfl) rfl #[.agg #[.int .i64 t392, .int .i64 t393, .int .i64 t394, .int .i64 t395, .int .i64 t396, .int .i64 t397, .int .i64 t398, .int .i64 t399, .int .i64 t400, .int .i64 t401, .int .i64 t402, .int .i64 t403, .int .i64 t404, .int .i64 t405], .int .i64 x6_1] rfl (by (try simp only [List.map_toArray, List.map_cons, List.map_nil]); first | done | rfl | (simp only [List.length_drop, List.length_take]; rfl)) ?_; (with_reducible refine (spec_FullWait.calls k1 t392 t393 t394 t395 t396 t397 t398 t399 t400 t401 t402 t403 t404 t405 x6_1 t417 _ A22.out).mono ?_); rintro e w33 ⟨rfl, hb⟩; refine ⟨_, rfl, ?_⟩; have n0_ := Aside0.mk (Kd.R_below (ro_ HO_4.out) hb); have n1_ := Aside0.mk (blk_below (bl_ BK409.out) hb); have n2_ := Aside0.mk (below_step (be_ HB.out) hb); clear HO_4 BK409 HB; have HO_4 := n0_; have BK409 := n1_; have HB := n2_; clear n0_ n1_ n2_; (try clear hb); (try clear hb2); (try clear hk); (try clear hi); obtain ⟨hcz34_0, hcz34_1, hcz34_2, hcz34_3, hcz34_4, hcz34_5, hcz34_6, hcz34_7, hcz34_8, hcz34_9, hcz34_10, hcz34_11, hcz34_12, hcz34_13, hfz34_0, hfz34_1, hfz34_2, hfz34_3, hfz34_4, hfz34_5, hfz34_6, hfz34_7, hfz34_8, hfz34_9, hfz34_10, hfz34_11, hfz34_12, hfz34_13⟩ := cz14_ BK409.out))
           go_meet
           case rel => exact ⟨_, (true), (by first | rfl | (simp; done) | (simp [*]; done)), H', ⟨by have := HK1.out; first | omega | exact Nat.le_refl _⟩, ⟨by (with_reducible repeat (first | apply Kd.R_alloc | apply Kd.R_drewN | apply Kd.R_drew)); exact HO_4.out⟩, ⟨by refine bl_ ?_; exact BK409.out⟩, ⟨be_ HB.out⟩⟩
          ·
           rw [if_neg c31] at H
           have c31b0 : ((t415 == t400) != (decide (x6_1 ≥ t414))) = false := by simpa using c31
           (try (have c31b1 : decide ((t415 == t400) = (decide (x6_1 ≥ t414))) = true := by simpa using c31))
           (try (have c31b2 : ((t415 == t400) == (decide (x6_1 ≥ t414))) = true := by simpa using c31))
           clear c31
           by_cases c35 : (wrap64 (2 * t415)) ≤ t400
           ·
            rw [if_pos c35] at H
            have c35b0 : decide ((wrap64 (2 * t415)) ≤ t400) = true := decide_eq_true c35
            clear c35
            have H' := Aside0.mk H
            clear H
            obtain ⟨hcz36_0, hcz36_1, hcz36_2, hcz36_3, hcz36_4, hcz36_5, hcz36_6, hcz36_7, hcz36_8, hcz36_9, hcz36_10, hcz36_11, hcz36_12, hcz36_13, hfz36_0, hfz36_1, hfz36_2, hfz36_3, hfz36_4, hfz36_5, hfz36_6, hfz36_7, hfz36_8, hfz36_9, hfz36_10, hfz36_11, hfz36_12, hfz36_13⟩ := cz14_ BK409.out
            go_wp2_with (first | ((with_reducible refine gate_callee (f := 16) rfl ?_); refine goesL_ (some 43) rfl rfl Try.func16 (by kernel_rfl) rfl #[.agg #[.int .i64 t392, .int .i64 t393, .int .i64 t394, .int .i64 t395, .int .i64 t396, .int .i64 t397, .int .i64 t398, .int .i64 t399, .int .i64 t400, .int .i64 t401, .int .i64 t402, .int .i64 t403, .int .i64 t404, .int .i64 t405], .int .i64 x6_1] rfl (by (try simp only [List.map_toArray, List.map_cons, List.map_nil]); first | done | rfl | (simp only [List.length_drop, List.length_take]; rfl)) ?_; (with_reducible refine (spec_FullWait.calls k1 t392 t393 t394 t395 t396 t397 t398 t399 t400 t401 t402 t403 t404 t405 x6_1 t417 _ A22.out).mono ?_); rintro e w37 ⟨rfl, hb⟩; refine ⟨_, rfl, ?_⟩; have n0_ := Aside0.mk (Kd.R_below (ro_ HO_4.out) hb); have n1_ := Aside0.mk (blk_below (bl_ BK409.out) hb); have n2_ := Aside0.mk (below_step (be_ HB.out) hb); clear HO_4 BK409 HB; have HO_4 := n0_; have BK409 := n1_; have HB := n2_; clear n0_ n1_ n2_; (try clear hb); (try clear hb2); (try clear hk); (try clear hi); obtain ⟨hcz38_0, hcz38_1, hcz38_2, hcz38_3, hcz38_4, hcz38_5, hcz38_6, hcz38_7, hcz38_8, hcz38_9, hcz38_10, hcz38_11, hcz38_12, hcz38_13, hfz38_0, hfz38_1, hfz38_2, hfz38_3, hfz38_4, hfz38_5, hfz38_6, hfz38_7, hfz38_8, hfz38_9, hfz38_10, hfz38_11, hfz38_12, hfz38_13⟩ := cz14_ BK409.out))
            go_meet
            case rel => exact ⟨_, ((t416 != (wrap64 (2 * t415)))), (by first | rfl | (simp; done) | (simp [*]; done)), H', ⟨by have := HK1.out; first | omega | exact Nat.le_refl _⟩, ⟨by (with_reducible repeat (first | apply Kd.R_alloc | apply Kd.R_drewN | apply Kd.R_drew)); exact HO_4.out⟩, ⟨by refine bl_ ?_; exact BK409.out⟩, ⟨be_ HB.out⟩⟩
           ·
            rw [if_neg c35] at H
            have c35b0 : decide ((wrap64 (2 * t415)) ≤ t400) = false := decide_eq_false c35
            clear c35
            have H' := Aside0.mk H
            clear H
            obtain ⟨hcz39_0, hcz39_1, hcz39_2, hcz39_3, hcz39_4, hcz39_5, hcz39_6, hcz39_7, hcz39_8, hcz39_9, hcz39_10, hcz39_11, hcz39_12, hcz39_13, hfz39_0, hfz39_1, hfz39_2, hfz39_3, hfz39_4, hfz39_5, hfz39_6, hfz39_7, hfz39_8, hfz39_9, hfz39_10, hfz39_11, hfz39_12, hfz39_13⟩ := cz14_ BK409.out
            go_wp2_with (first | ((with_reducible refine gate_callee (f := 16) rfl ?_); refine goesL_ (some 43) rfl rfl Try.func16 (by kernel_rfl) rfl #[.agg #[.int .i64 t392, .int .i64 t393, .int .i64 t394, .int .i64 t395, .int .i64 t396, .int .i64 t397, .int .i64 t398, .int .i64 t399, .int .i64 t400, .int .i64 t401, .int .i64 t402, .int .i64 t403, .int .i64 t404, .int .i64 t405], .int .i64 x6_1] rfl (by (try simp only [List.map_toArray, List.map_cons, List.map_nil]); first | done | rfl | (simp only [List.length_drop, List.length_take]; rfl)) ?_; (with_reducible refine (spec_FullWait.calls k1 t392 t393 t394 t395 t396 t397 t398 t399 t400 t401 t402 t403 t404 t405 x6_1 t417 _ A22.out).mono ?_); rintro e w40 ⟨rfl, hb⟩; refine ⟨_, rfl, ?_⟩; have n0_ := Aside0.mk (Kd.R_below (ro_ HO_4.out) hb); have n1_ := Aside0.mk (blk_below (bl_ BK409.out) hb); have n2_ := Aside0.mk (below_step (be_ HB.out) hb); clear HO_4 BK409 HB; have HO_4 := n0_; have BK409 := n1_; have HB := n2_; clear n0_ n1_ n2_; (try clear hb); (try clear hb2); (try clear hk); (try clear hi); obtain ⟨hcz41_0, hcz41_1, hcz41_2, hcz41_3, hcz41_4, hcz41_5, hcz41_6, hcz41_7, hcz41_8, hcz41_9, hcz41_10, hcz41_11, hcz41_12, hcz41_13, hfz41_0, hfz41_1, hfz41_2, hfz41_3, hfz41_4, hfz41_5, hfz41_6, hfz41_7, hfz41_8, hfz41_9, hfz41_10, hfz41_11, hfz41_12, hfz41_13⟩ := cz14_ BK409.out))
            go_meet
            case rel => exact ⟨_, (false), (by first | rfl | (simp; done) | (simp [*]; done)), H', ⟨by have := HK1.out; first | omega | exact Nat.le_refl _⟩, ⟨by (with_reducible repeat (first | apply Kd.R_alloc | apply Kd.R_drewN | apply Kd.R_drew)); exact HO_4.out⟩, ⟨by refine bl_ ?_; exact BK409.out⟩, ⟨be_ HB.out⟩⟩
       ·
        rw [if_neg c23] at H
        have c23b0 : (t415 == t417) = false := beq_eq_false_iff_ne.mpr c23
        have c23b1 : (t415 != t417) = true := bne_iff_ne.mpr c23
        (first | rw [c23b0] | (simp only [i64_w, i32_w]; rw [c23b0]) | skip)
        have H' := Aside0.mk H
        clear H
        obtain ⟨hcz42_0, hcz42_1, hcz42_2, hcz42_3, hcz42_4, hcz42_5, hcz42_6, hcz42_7, hcz42_8, hcz42_9, hcz42_10, hcz42_11, hcz42_12, hcz42_13, hfz42_0, hfz42_1, hfz42_2, hfz42_3, hfz42_4, hfz42_5, hfz42_6, hfz42_7, hfz42_8, hfz42_9, hfz42_10, hfz42_11, hfz42_12, hfz42_13⟩ := cz14_ BK409.out
        go_wp2_with (first | ((with_reducible refine gate_callee (f := 16) rfl ?_); refine goesL_ (some 43) rfl rfl Try.func16 (by kernel_rfl) rfl #[.agg #[.int .i64 t392, .int .i64 t393, .int .i64 t394, .int .i64 t395, .int .i64 t396, .int .i64 t397, .int .i64 t398, .int .i64 t399, .int .i64 t400, .int .i64 t401, .int .i64 t402, .int .i64 t403, .int .i64 t404, .int .i64 t405], .int .i64 x6_1] rfl (by (try simp only [List.map_toArray, List.map_cons, List.map_nil]); first | done | rfl | (simp only [List.length_drop, List.length_take]; rfl)) ?_; (with_reducible refine (spec_FullWait.calls k1 t392 t393 t394 t395 t396 t397 t398 t399 t400 t401 t402 t403 t404 t405 x6_1 t417 _ A22.out).mono ?_); rintro e w43 ⟨rfl, hb⟩; refine ⟨_, rfl, ?_⟩; have n0_ := Aside0.mk (Kd.R_below (ro_ HO_4.out) hb); have n1_ := Aside0.mk (blk_below (bl_ BK409.out) hb); have n2_ := Aside0.mk (below_step (be_ HB.out) hb); clear HO_4 BK409 HB; have HO_4 := n0_; have BK409 := n1_; have HB := n2_; clear n0_ n1_ n2_; (try clear hb); (try clear hb2); (try clear hk); (try clear hi)))
        go_meet
        case rel => exact ⟨_, (true), (by first | rfl | (simp; done) | (simp [*]; done)), H', ⟨by have := HK1.out; first | omega | exact Nat.le_refl _⟩, ⟨by (with_reducible repeat (first | apply Kd.R_alloc | apply Kd.R_drewN | apply Kd.R_drew)); exact HO_4.out⟩, ⟨by refine bl_ ?_; exact BK409.out⟩, ⟨be_ HB.out⟩⟩
      case rest => as_aux_lemma =>
       clear HC17
       try clear c1
       try clear c2
       try clear p2
       try clear c3
       try clear c6
       try clear p6
       try clear c11
       try clear c14
       try clear c14b0
       try clear c16
       try clear c18
       try clear c23
       try clear c23b0
       try clear c23b1
       try clear c24
       try clear c24b0
       try clear c27
       try clear c27b0
       try clear c31
       try clear c31b0
       try clear c31b1
       try clear c31b2
       try clear c34
       try clear c35
       try clear c35b0
       try clear c36
       try clear hcz10_0
       try clear hcz10_1
       try clear hcz10_10
       try clear hcz10_11
       try clear hcz10_12
       try clear hcz10_13
       try clear hcz10_2
       try clear hcz10_3
       try clear hcz10_4
       try clear hcz10_5
       try clear hcz10_6
       try clear hcz10_7
       try clear hcz10_8
       try clear hcz10_9
       try clear hcz12_0
       try clear hcz12_1
       try clear hcz12_10
       try clear hcz12_11
       try clear hcz12_12
       try clear hcz12_13
       try clear hcz12_2
       try clear hcz12_3
       try clear hcz12_4
       try clear hcz12_5
       try clear hcz12_6
       try clear hcz12_7
       try clear hcz12_8
       try clear hcz12_9
       try clear hcz18_0
       try clear hcz18_1
       try clear hcz18_10
       try clear hcz18_11
       try clear hcz18_12
       try clear hcz18_13
       try clear hcz18_2
       try clear hcz18_3
       try clear hcz18_4
       try clear hcz18_5
       try clear hcz18_6
       try clear hcz18_7
       try clear hcz18_8
       try clear hcz18_9
       try clear hcz20_0
       try clear hcz20_1
       try clear hcz20_10
       try clear hcz20_11
       try clear hcz20_12
       try clear hcz20_13
       try clear hcz20_2
       try clear hcz20_3
       try clear hcz20_4
       try clear hcz20_5
       try clear hcz20_6
       try clear hcz20_7
       try clear hcz20_8
       try clear hcz20_9
       try clear hcz25_0
       try clear hcz25_1
       try clear hcz25_10
       try clear hcz25_11
       try clear hcz25_12
       try clear hcz25_13
       try clear hcz25_2
       try clear hcz25_3
       try clear hcz25_4
       try clear hcz25_5
       try clear hcz25_6
       try clear hcz25_7
       try clear hcz25_8
       try clear hcz25_9
       try clear hcz28_0
       try clear hcz28_1
       try clear hcz28_10
       try clear hcz28_11
       try clear hcz28_12
       try clear hcz28_13
       try clear hcz28_2
       try clear hcz28_3
       try clear hcz28_4
       try clear hcz28_5
       try clear hcz28_6
       try clear hcz28_7
       try clear hcz28_8
       try clear hcz28_9
       try clear hcz30_0
       try clear hcz30_1
       try clear hcz30_10
       try clear hcz30_11
       try clear hcz30_12
       try clear hcz30_13
       try clear hcz30_2
       try clear hcz30_3
       try clear hcz30_4
       try clear hcz30_5
       try clear hcz30_6
       try clear hcz30_7
       try clear hcz30_8
       try clear hcz30_9
       try clear hcz32_0
       try clear hcz32_1
       try clear hcz32_10
       try clear hcz32_11
       try clear hcz32_12
       try clear hcz32_13
       try clear hcz32_2
       try clear hcz32_3
       try clear hcz32_4
       try clear hcz32_5
       try clear hcz32_6
       try clear hcz32_7
       try clear hcz32_8
       try clear hcz32_9
       try clear hcz34_0
       try clear hcz34_1
       try clear hcz34_10
       try clear hcz34_11
       try clear hcz34_12
       try clear hcz34_13
       try clear hcz34_2
       try clear hcz34_3
       try clear hcz34_4
       try clear hcz34_5
       try clear hcz34_6
       try clear hcz34_7
       try clear hcz34_8
       try clear hcz34_9
       try clear hcz36_0
       try clear hcz36_1
       try clear hcz36_10
       try clear hcz36_11
       try clear hcz36_12
       try clear hcz36_13
       try clear hcz36_2
       try clear hcz36_3
       try clear hcz36_4
       try clear hcz36_5
       try clear hcz36_6
       try clear hcz36_7
       try clear hcz36_8
       try clear hcz36_9
       try clear hcz38_0
       try clear hcz38_1
       try clear hcz38_10
       try clear hcz38_11
       try clear hcz38_12
       try clear hcz38_13
       try clear hcz38_2
       try clear hcz38_3
       try clear hcz38_4
       try clear hcz38_5
       try clear hcz38_6
       try clear hcz38_7
       try clear hcz38_8
       try clear hcz38_9
       try clear hcz39_0
       try clear hcz39_1
       try clear hcz39_10
       try clear hcz39_11
       try clear hcz39_12
       try clear hcz39_13
       try clear hcz39_2
       try clear hcz39_3
       try clear hcz39_4
       try clear hcz39_5
       try clear hcz39_6
       try clear hcz39_7
       try clear hcz39_8
       try clear hcz39_9
       try clear hcz41_0
       try clear hcz41_1
       try clear hcz41_10
       try clear hcz41_11
       try clear hcz41_12
       try clear hcz41_13
       try clear hcz41_2
       try clear hcz41_3
       try clear hcz41_4
       try clear hcz41_5
       try clear hcz41_6
       try clear hcz41_7
       try clear hcz41_8
       try clear hcz41_9
       try clear hcz42_0
       try clear hcz42_1
       try clear hcz42_10
       try clear hcz42_11
       try clear hcz42_12
       try clear hcz42_13
       try clear hcz42_2
       try clear hcz42_3
       try clear hcz42_4
       try clear hcz42_5
       try clear hcz42_6
       try clear hcz42_7
       try clear hcz42_8
       try clear hcz42_9
       try clear hfz10_0
       try clear hfz10_1
       try clear hfz10_10
       try clear hfz10_11
       try clear hfz10_12
       try clear hfz10_13
       try clear hfz10_2
       try clear hfz10_3
       try clear hfz10_4
       try clear hfz10_5
       try clear hfz10_6
       try clear hfz10_7
       try clear hfz10_8
       try clear hfz10_9
       try clear hfz12_0
       try clear hfz12_1
       try clear hfz12_10
       try clear hfz12_11
       try clear hfz12_12
       try clear hfz12_13
       try clear hfz12_2
       try clear hfz12_3
       try clear hfz12_4
       try clear hfz12_5
       try clear hfz12_6
       try clear hfz12_7
       try clear hfz12_8
       try clear hfz12_9
       try clear hfz18_0
       try clear hfz18_1
       try clear hfz18_10
       try clear hfz18_11
       try clear hfz18_12
       try clear hfz18_13
       try clear hfz18_2
       try clear hfz18_3
       try clear hfz18_4
       try clear hfz18_5
       try clear hfz18_6
       try clear hfz18_7
       try clear hfz18_8
       try clear hfz18_9
       try clear hfz20_0
       try clear hfz20_1
       try clear hfz20_10
       try clear hfz20_11
       try clear hfz20_12
       try clear hfz20_13
       try clear hfz20_2
       try clear hfz20_3
       try clear hfz20_4
       try clear hfz20_5
       try clear hfz20_6
       try clear hfz20_7
       try clear hfz20_8
       try clear hfz20_9
       try clear hfz25_0
       try clear hfz25_1
       try clear hfz25_10
       try clear hfz25_11
       try clear hfz25_12
       try clear hfz25_13
       try clear hfz25_2
       try clear hfz25_3
       try clear hfz25_4
       try clear hfz25_5
       try clear hfz25_6
       try clear hfz25_7
       try clear hfz25_8
       try clear hfz25_9
       try clear hfz28_0
       try clear hfz28_1
       try clear hfz28_10
       try clear hfz28_11
       try clear hfz28_12
       try clear hfz28_13
       try clear hfz28_2
       try clear hfz28_3
       try clear hfz28_4
       try clear hfz28_5
       try clear hfz28_6
       try clear hfz28_7
       try clear hfz28_8
       try clear hfz28_9
       try clear hfz30_0
       try clear hfz30_1
       try clear hfz30_10
       try clear hfz30_11
       try clear hfz30_12
       try clear hfz30_13
       try clear hfz30_2
       try clear hfz30_3
       try clear hfz30_4
       try clear hfz30_5
       try clear hfz30_6
       try clear hfz30_7
       try clear hfz30_8
       try clear hfz30_9
       try clear hfz32_0
       try clear hfz32_1
       try clear hfz32_10
       try clear hfz32_11
       try clear hfz32_12
       try clear hfz32_13
       try clear hfz32_2
       try clear hfz32_3
       try clear hfz32_4
       try clear hfz32_5
       try clear hfz32_6
       try clear hfz32_7
       try clear hfz32_8
       try clear hfz32_9
       try clear hfz34_0
       try clear hfz34_1
       try clear hfz34_10
       try clear hfz34_11
       try clear hfz34_12
       try clear hfz34_13
       try clear hfz34_2
       try clear hfz34_3
       try clear hfz34_4
       try clear hfz34_5
       try clear hfz34_6
       try clear hfz34_7
       try clear hfz34_8
       try clear hfz34_9
       try clear hfz36_0
       try clear hfz36_1
       try clear hfz36_10
       try clear hfz36_11
       try clear hfz36_12
       try clear hfz36_13
       try clear hfz36_2
       try clear hfz36_3
       try clear hfz36_4
       try clear hfz36_5
       try clear hfz36_6
       try clear hfz36_7
       try clear hfz36_8
       try clear hfz36_9
       try clear hfz38_0
       try clear hfz38_1
       try clear hfz38_10
       try clear hfz38_11
       try clear hfz38_12
       try clear hfz38_13
       try clear hfz38_2
       try clear hfz38_3
       try clear hfz38_4
       try clear hfz38_5
       try clear hfz38_6
       try clear hfz38_7
       try clear hfz38_8
       try clear hfz38_9
       try clear hfz39_0
       try clear hfz39_1
       try clear hfz39_10
       try clear hfz39_11
       try clear hfz39_12
       try clear hfz39_13
       try clear hfz39_2
       try clear hfz39_3
       try clear hfz39_4
       try clear hfz39_5
       try clear hfz39_6
       try clear hfz39_7
       try clear hfz39_8
       try clear hfz39_9
       try clear hfz41_0
       try clear hfz41_1
       try clear hfz41_10
       try clear hfz41_11
       try clear hfz41_12
       try clear hfz41_13
       try clear hfz41_2
       try clear hfz41_3
       try clear hfz41_4
       try clear hfz41_5
       try clear hfz41_6
       try clear hfz41_7
       try clear hfz41_8
       try clear hfz41_9
       try clear hfz42_0
       try clear hfz42_1
       try clear hfz42_10
       try clear hfz42_11
       try clear hfz42_12
       try clear hfz42_13
       try clear hfz42_2
       try clear hfz42_3
       try clear hfz42_4
       try clear hfz42_5
       try clear hfz42_6
       try clear hfz42_7
       try clear hfz42_8
       try clear hfz42_9
       try clear p2
       obtain ⟨kq, x78_16, rfl, HA, HJ16, HO_4, BK409, HB⟩ := hcut
       cases kq with
       | zero => exact absurd HA.out (by simp [laws_FnWaits.j1])
       | succ kj16 =>
        have H := HA.out
        clear HA
        simp only [laws_FnWaits.j1] at H
        by_cases c44 : x78_16 = true
        ·
         subst c44
         have H1 : (some false) = some r := by rw [if_pos rfl] at H; exact H
         clear H
         have H := H1
         clear H1
         obtain rfl := Option.some.inj H
         go_wp2
         go_ret
         exact ⟨by first | rfl | (simp [errW_none, errW_some] <;> rfl) | (simp [*, errW_none, errW_some] <;> rfl), be_ HB.out⟩
        ·
         replace c44 := Bool.eq_false_iff.mpr c44
         subst c44
         have H1 : ((laws_at.f l0 x6_1).bind fun t418 => ((impl_JitteredWait.f kj16 t392 t393 t394 t395 t396 t397 t398 t399 t400 t401 t402 t403 t404 t405 x6_1 (wrap64 (t418 * 4))).bind fun t419 => ((impl_LeastWait.f kj16 t392 t393 t394 t395 t396 t397 t398 t399 t400 t401 t402 t403 t404 t405 x6_1).bind fun t420 => (if t419 < t420 then (laws_FnWaits.j2 kj16 l0 t406 t414 x6_1 t415 true t392 t393 t394 t395 t396 t397 t398 t399 t400 t401 t402 t403 t404 t405) else (if t419 > t415 then (laws_FnWaits.j2 kj16 l0 t406 t414 x6_1 t415 true t392 t393 t394 t395 t396 t397 t398 t399 t400 t401 t402 t403 t404 t405) else ((impl_JitteredWait.f kj16 t392 t393 t394 t395 t396 t397 t398 t399 t400 t401 t402 t403 t404 t405 x6_1 0).bind fun t421 => (if t421 = t415 then ((impl_JitteredWait.f kj16 t392 t393 t394 t395 t396 t397 t398 t399 t400 t401 t402 t403 t404 t405 x6_1 1000).bind fun t422 => ((impl_LeastWait.f kj16 t392 t393 t394 t395 t396 t397 t398 t399 t400 t401 t402 t403 t404 t405 x6_1).bind fun t423 => (laws_FnWaits.j2 kj16 l0 t406 t414 x6_1 t415 (t422 != t423) t392 t393 t394 t395 t396 t397 t398 t399 t400 t401 t402 t403 t404 t405))) else (laws_FnWaits.j2 kj16 l0 t406 t414 x6_1 t415 true t392 t393 t394 t395 t396 t397 t398 t399 t400 t401 t402 t403 t404 t405)))))))) = some r := by rw [if_neg (show ¬ (false = true) by decide)] at H; exact H
         clear H
         have H := H1
         clear H1
         replace H := Option.bind_eq_some_iff.mp H
         obtain ⟨t418, A450, H⟩ := H
         replace H : ((impl_JitteredWait.f kj16 t392 t393 t394 t395 t396 t397 t398 t399 t400 t401 t402 t403 t404 t405 x6_1 (wrap64 (t418 * 4))).bind fun t419 => ((impl_LeastWait.f kj16 t392 t393 t394 t395 t396 t397 t398 t399 t400 t401 t402 t403 t404 t405 x6_1).bind fun t420 => (if t419 < t420 then (laws_FnWaits.j2 kj16 l0 t406 t414 x6_1 t415 true t392 t393 t394 t395 t396 t397 t398 t399 t400 t401 t402 t403 t404 t405) else (if t419 > t415 then (laws_FnWaits.j2 kj16 l0 t406 t414 x6_1 t415 true t392 t393 t394 t395 t396 t397 t398 t399 t400 t401 t402 t403 t404 t405) else ((impl_JitteredWait.f kj16 t392 t393 t394 t395 t396 t397 t398 t399 t400 t401 t402 t403 t404 t405 x6_1 0).bind fun t421 => (if t421 = t415 then ((impl_JitteredWait.f kj16 t392 t393 t394 t395 t396 t397 t398 t399 t400 t401 t402 t403 t404 t405 x6_1 1000).bind fun t422 => ((impl_LeastWait.f kj16 t392 t393 t394 t395 t396 t397 t398 t399 t400 t401 t402 t403 t404 t405 x6_1).bind fun t423 => (laws_FnWaits.j2 kj16 l0 t406 t414 x6_1 t415 (t422 != t423) t392 t393 t394 t395 t396 t397 t398 t399 t400 t401 t402 t403 t404 t405))) else (laws_FnWaits.j2 kj16 l0 t406 t414 x6_1 t415 true t392 t393 t394 t395 t396 t397 t398 t399 t400 t401 t402 t403 t404 t405))))))) = some r := H
         have A45 := Aside0.mk A450
         clear A450
         replace H := Option.bind_eq_some_iff.mp H
         obtain ⟨t419, A460, H⟩ := H
         replace H : ((impl_LeastWait.f kj16 t392 t393 t394 t395 t396 t397 t398 t399 t400 t401 t402 t403 t404 t405 x6_1).bind fun t420 => (if t419 < t420 then (laws_FnWaits.j2 kj16 l0 t406 t414 x6_1 t415 true t392 t393 t394 t395 t396 t397 t398 t399 t400 t401 t402 t403 t404 t405) else (if t419 > t415 then (laws_FnWaits.j2 kj16 l0 t406 t414 x6_1 t415 true t392 t393 t394 t395 t396 t397 t398 t399 t400 t401 t402 t403 t404 t405) else ((impl_JitteredWait.f kj16 t392 t393 t394 t395 t396 t397 t398 t399 t400 t401 t402 t403 t404 t405 x6_1 0).bind fun t421 => (if t421 = t415 then ((impl_JitteredWait.f kj16 t392 t393 t394 t395 t396 t397 t398 t399 t400 t401 t402 t403 t404 t405 x6_1 1000).bind fun t422 => ((impl_LeastWait.f kj16 t392 t393 t394 t395 t396 t397 t398 t399 t400 t401 t402 t403 t404 t405 x6_1).bind fun t423 => (laws_FnWaits.j2 kj16 l0 t406 t414 x6_1 t415 (t422 != t423) t392 t393 t394 t395 t396 t397 t398 t399 t400 t401 t402 t403 t404 t405))) else (laws_FnWaits.j2 kj16 l0 t406 t414 x6_1 t415 true t392 t393 t394 t395 t396 t397 t398 t399 t400 t401 t402 t403 t404 t405)))))) = some r := H
         have A46 := Aside0.mk A460
         clear A460
         have HC47 := Aside0.mk H
         clear H
         try go_wp2
         have n0_ := Aside0.mk (Kd.R_drew HO_4.out)
         have n1_ := Aside0.mk (blk_drew BK409.out)
         have n2_ := Aside0.mk (below_drew1 HB.out)
         clear HO_4
         clear BK409
         clear HB
         have HO_4 := n0_
         have BK409 := n1_
         have HB := n2_
         clear n0_ n1_ n2_
         refine start_ (n := 8) (S := fun w' => w'.cell? ⟨gb409, 0, none⟩ = some (.int .i64 t392) ∧ w'.cell? ⟨gb409, 1, none⟩ = some (.int .i64 t393) ∧ w'.cell? ⟨gb409, 2, none⟩ = some (.int .i64 t394) ∧ w'.cell? ⟨gb409, 3, none⟩ = some (.int .i64 t395) ∧ w'.cell? ⟨gb409, 4, none⟩ = some (.int .i64 t396) ∧ w'.cell? ⟨gb409, 5, none⟩ = some (.int .i64 t397) ∧ w'.cell? ⟨gb409, 6, none⟩ = some (.int .i64 t398) ∧ w'.cell? ⟨gb409, 7, none⟩ = some (.int .i64 t399) ∧ w'.cell? ⟨gb409, 8, none⟩ = some (.int .i64 t400) ∧ w'.cell? ⟨gb409, 9, none⟩ = some (.int .i64 t401) ∧ w'.cell? ⟨gb409, 10, none⟩ = some (.int .i64 t402) ∧ w'.cell? ⟨gb409, 11, none⟩ = some (.int .i64 t403) ∧ w'.cell? ⟨gb409, 12, none⟩ = some (.int .i64 t404) ∧ w'.cell? ⟨gb409, 13, none⟩ = some (.int .i64 t405)) (ds := []) #[false, false, false, false, false, false, false, false] (by kernel_rfl) rfl rfl ⟨(blk_cell BK409.out 0).trans rfl, (blk_cell BK409.out 1).trans rfl, (blk_cell BK409.out 2).trans rfl, (blk_cell BK409.out 3).trans rfl, (blk_cell BK409.out 4).trans rfl, (blk_cell BK409.out 5).trans rfl, (blk_cell BK409.out 6).trans rfl, (blk_cell BK409.out 7).trans rfl, (blk_cell BK409.out 8).trans rfl, (blk_cell BK409.out 9).trans rfl, (blk_cell BK409.out 10).trans rfl, (blk_cell BK409.out 11).trans rfl, (blk_cell BK409.out 12).trans rfl, (blk_cell BK409.out 13).trans rfl⟩ (fun hHeld => ?_); refine with_tabW laws_FnWaits.tab14 laws_FnWaits.bits14 (fun HT_ HW_ => ?_)
         generalize wc.drew = w48 at HO_4 BK409 HB hHeld ⊢
         refine pure_ (i := 1) (N := some 80) (v := ?_) (a' := ?_) #[false, true, false, false, false, false, false, false] rfl rfl (any_of HT_.out (by kernel_rfl)) (fun _ _ _ h => h) (Or.inl ⟨by rfl, ?_⟩) ?_ ?_
         rotate_left
         ·
          intro w'
          go_simp
          with_reducible rfl
         rotate_left
         ·
          simp only [Act.put, List.setIfInBounds_toArray, List.set_cons_zero, List.set_cons_succ, i64_w, i32_w]
          rfl
         refine pure_ (i := 2) (N := some 81) (v := ?_) (a' := ?_) #[false, true, true, false, false, false, false, false] rfl rfl (any_of HT_.out (by kernel_rfl)) (fun _ _ _ h => h) (Or.inl ⟨by rfl, ?_⟩) ?_ ?_
         rotate_left
         ·
          intro w'
          go_simp
          with_reducible rfl
         rotate_left
         ·
          simp only [Act.put, List.setIfInBounds_toArray, List.set_cons_zero, List.set_cons_succ, i64_w, i32_w]
          rfl
         refine pure_ (i := 3) (N := some 82) (v := ?_) (a' := ?_) #[false, true, true, true, false, false, false, false] rfl rfl (any_of HT_.out (by kernel_rfl)) (fun _ _ _ h => h) (Or.inl ⟨by rfl, ?_⟩) ?_ ?_
         rotate_left
         ·
          intro w'
          go_simp
          with_reducible rfl
         rotate_left
         ·
          simp only [Act.put, List.setIfInBounds_toArray, List.set_cons_zero, List.set_cons_succ, i64_w, i32_w]
          rfl
         refine take_ (i := 0) (N := some 79) (v := ?_) (a' := ?_) #[true, true, true, true, false, false, false, false] rfl rfl (take_ofW HT_.out HW_.out (by kernel_rfl)) (fun _ _ _ h => h) (Or.inl ⟨by rfl, ?_⟩) hHeld ?_ ?_
         rotate_left
         ·
          rintro w' ⟨s0, s1, s2, s3, s4, s5, s6, s7, s8, s9, s10, s11, s12, s13⟩
          go_simp
          with_reducible rfl
         rotate_left
         ·
          simp only [Act.put, List.setIfInBounds_toArray, List.set_cons_zero, List.set_cons_succ, i64_w, i32_w]
          rfl
         refine one_ (i := 4) (N := some 83) #[true, true, true, true, true, false, false, false] rfl rfl (one_of HT_.out (by kernel_rfl)) (by decide) (fun K hK => ?_)
         refine goes_ Try.func37 (by kernel_rfl) rfl #[.slice A0 l0.length c0, .int .i64 x6_1] (by rfl) rfl rfl (by (try simp only [List.map_toArray, List.map_cons, List.map_nil]); first | done | rfl | (simp only [List.length_drop, List.length_take]; rfl)) ?_
         with_reducible refine (laws_at.calls _ _ l0 x6_1 t418 _ ?side1 ?side2 A45.out).mono ?_
         (case side1 => repeat (first | exact (Kd.C_below HR0.out HB.out) | (with_reducible refine Kd.C_alloc ?_ _) | (with_reducible refine Kd.C_drewN ?_ _) | (with_reducible refine Kd.C_drew ?_)))
         (case side2 => exact HC0.out)
         rintro e w' ⟨rfl, ⟨nd, rfl⟩⟩
         refine ⟨_, rfl, ?_⟩
         refine hK.out _ _ ⟨(blk_cell BK409.out 0).trans rfl, (blk_cell BK409.out 1).trans rfl, (blk_cell BK409.out 2).trans rfl, (blk_cell BK409.out 3).trans rfl, (blk_cell BK409.out 4).trans rfl, (blk_cell BK409.out 5).trans rfl, (blk_cell BK409.out 6).trans rfl, (blk_cell BK409.out 7).trans rfl, (blk_cell BK409.out 8).trans rfl, (blk_cell BK409.out 9).trans rfl, (blk_cell BK409.out 10).trans rfl, (blk_cell BK409.out 11).trans rfl, (blk_cell BK409.out 12).trans rfl, (blk_cell BK409.out 13).trans rfl⟩ (fun hHeld => ?_)
         clear hK K
         refine norm_ (a' := ?_) ?_ ?_
         rotate_left
         ·
          show Act.put _ (some 83) _ = _
          simp only [Act.put, List.setIfInBounds_toArray, List.set_cons_zero, List.set_cons_succ, i64_w, i32_w]
          rfl
         refine pure_ (i := 5) (N := some 84) (v := ?_) (a' := ?_) #[true, true, true, true, true, true, false, false] rfl rfl (any_of HT_.out (by kernel_rfl)) (fun _ _ _ h => h) (Or.inl ⟨by rfl, ?_⟩) ?_ ?_
         rotate_left
         ·
          intro w'
          go_simp
          with_reducible rfl
         rotate_left
         ·
          simp only [Act.put, List.setIfInBounds_toArray, List.set_cons_zero, List.set_cons_succ, i64_w, i32_w]
          rfl
         refine one_ (i := 6) (N := some 85) #[true, true, true, true, true, true, true, false] rfl rfl (one_of HT_.out (by kernel_rfl)) (by decide) (fun K hK => ?_)
         refine goes_ Try.func22 (by kernel_rfl) rfl #[.agg #[.int .i64 t392, .int .i64 t393, .int .i64 t394, .int .i64 t395, .int .i64 t396, .int .i64 t397, .int .i64 t398, .int .i64 t399, .int .i64 t400, .int .i64 t401, .int .i64 t402, .int .i64 t403, .int .i64 t404, .int .i64 t405], .int .i64 x6_1, .int .i64 (wrap64 (t418 * 4))] (by rfl) rfl rfl (by (try simp only [List.map_toArray, List.map_cons, List.map_nil]); first | done | rfl | (simp only [List.length_drop, List.length_take]; rfl)) ?_
         with_reducible refine (impl_JitteredWait.calls kj16 t392 t393 t394 t395 t396 t397 t398 t399 t400 t401 t402 t403 t404 t405 x6_1 (wrap64 (t418 * 4)) t419 _ A46.out).mono ?_
         rintro e w49 ⟨rfl, hb⟩
         refine ⟨_, rfl, ?_⟩
         have n0_ := Aside0.mk (Kd.R_below (ro_ HO_4.out) hb)
         have n1_ := Aside0.mk (blk_below (bl_ BK409.out) hb)
         have n2_ := Aside0.mk (below_step (be_ HB.out) hb)
         clear HO_4
         clear BK409
         clear HB
         have HO_4 := n0_
         have BK409 := n1_
         have HB := n2_
         clear n0_ n1_ n2_
         (try clear hb)
         (try clear hb2)
         (try clear hk)
         (try clear hi)
         refine hK.out _ _ ⟨(blk_cell BK409.out 0).trans rfl, (blk_cell BK409.out 1).trans rfl, (blk_cell BK409.out 2).trans rfl, (blk_cell BK409.out 3).trans rfl, (blk_cell BK409.out 4).trans rfl, (blk_cell BK409.out 5).trans rfl, (blk_cell BK409.out 6).trans rfl, (blk_cell BK409.out 7).trans rfl, (blk_cell BK409.out 8).trans rfl, (blk_cell BK409.out 9).trans rfl, (blk_cell BK409.out 10).trans rfl, (blk_cell BK409.out 11).trans rfl, (blk_cell BK409.out 12).trans rfl, (blk_cell BK409.out 13).trans rfl⟩ (fun hHeld => ?_)
         clear hK K
         refine norm_ (a' := ?_) ?_ ?_
         rotate_left
         ·
          show Act.put _ (some 85) _ = _
          simp only [Act.put, List.setIfInBounds_toArray, List.set_cons_zero, List.set_cons_succ, i64_w, i32_w]
          rfl
         refine pure_ (i := 7) (N := some 9) (v := ?_) (a' := ?_) #[true, true, true, true, true, true, true, true] rfl rfl (any_of HT_.out (by kernel_rfl)) (fun _ _ _ h => h) (Or.inl ⟨by rfl, ?_⟩) ?_ ?_
         rotate_left
         ·
          intro w'
          go_simp
          with_reducible rfl
         rotate_left
         ·
          simp only [Act.put, List.setIfInBounds_toArray, List.set_cons_zero, List.set_cons_succ, i64_w, i32_w]
          rfl
         refine done_ (done_of HT_.out (by kernel_rfl)) ?_
         go_upto_region 15 with (fail)
         go_cut [111] (fun zv111 wc => ∃ (kq : Nat) (x111_46 : Bool), zv111 = .bool x111_46 ∧ Aside0 (laws_FnWaits.j2 kq l0 t406 t414 x6_1 t415 x111_46 t392 t393 t394 t395 t396 t397 t398 t399 t400 t401 t402 t403 t404 t405 = some r) ∧ Aside0 (kq ≤ kj16) ∧ Aside0 (Kd.R (Kd.int .i64) 3 wc w.heap.size (fun _ => True) v407 t406) ∧ Aside0 (wc.heap[gb409]? = some (.cells #[.int .i64 t392, .int .i64 t393, .int .i64 t394, .int .i64 t395, .int .i64 t396, .int .i64 t397, .int .i64 t398, .int .i64 t399, .int .i64 t400, .int .i64 t401, .int .i64 t402, .int .i64 t403, .int .i64 t404, .int .i64 t405] 30 (0, 0))) ∧ Aside0 (Below w.heap.size w wc))
         case first => as_aux_lemma =>
          have H := HC47.out
          clear HC47
          replace H := Option.bind_eq_some_iff.mp H
          obtain ⟨t420, A500, H⟩ := H
          replace H : (if t419 < t420 then (laws_FnWaits.j2 kj16 l0 t406 t414 x6_1 t415 true t392 t393 t394 t395 t396 t397 t398 t399 t400 t401 t402 t403 t404 t405) else (if t419 > t415 then (laws_FnWaits.j2 kj16 l0 t406 t414 x6_1 t415 true t392 t393 t394 t395 t396 t397 t398 t399 t400 t401 t402 t403 t404 t405) else ((impl_JitteredWait.f kj16 t392 t393 t394 t395 t396 t397 t398 t399 t400 t401 t402 t403 t404 t405 x6_1 0).bind fun t421 => (if t421 = t415 then ((impl_JitteredWait.f kj16 t392 t393 t394 t395 t396 t397 t398 t399 t400 t401 t402 t403 t404 t405 x6_1 1000).bind fun t422 => ((impl_LeastWait.f kj16 t392 t393 t394 t395 t396 t397 t398 t399 t400 t401 t402 t403 t404 t405 x6_1).bind fun t423 => (laws_FnWaits.j2 kj16 l0 t406 t414 x6_1 t415 (t422 != t423) t392 t393 t394 t395 t396 t397 t398 t399 t400 t401 t402 t403 t404 t405))) else (laws_FnWaits.j2 kj16 l0 t406 t414 x6_1 t415 true t392 t393 t394 t395 t396 t397 t398 t399 t400 t401 t402 t403 t404 t405))))) = some r := H
          have A50 := Aside0.mk A500
          clear A500
          by_cases c51 : t419 < t420
          ·
           rw [if_pos c51] at H
           have c51b0 : decide (t419 < t420) = true := decide_eq_true c51
           clear c51
           (first | rw [c51b0] | (simp only [i64_w, i32_w]; rw [c51b0]) | skip)
           have H' := Aside0.mk H
           clear H
           try go_wp2
           have n0_ := Aside0.mk (Kd.R_drew HO_4.out)
           have n1_ := Aside0.mk (blk_drew BK409.out)
           have n2_ := Aside0.mk (below_drew1 HB.out)
           clear HO_4
           clear BK409
           clear HB
           have HO_4 := n0_
           have BK409 := n1_
           have HB := n2_
           clear n0_ n1_ n2_
           refine start_ (n := 26) (S := fun w' => w'.cell? ⟨gb409, 0, none⟩ = some (.int .i64 t392) ∧ w'.cell? ⟨gb409, 1, none⟩ = some (.int .i64 t393) ∧ w'.cell? ⟨gb409, 2, none⟩ = some (.int .i64 t394) ∧ w'.cell? ⟨gb409, 3, none⟩ = some (.int .i64 t395) ∧ w'.cell? ⟨gb409, 4, none⟩ = some (.int .i64 t396) ∧ w'.cell? ⟨gb409, 5, none⟩ = some (.int .i64 t397) ∧ w'.cell? ⟨gb409, 6, none⟩ = some (.int .i64 t398) ∧ w'.cell? ⟨gb409, 7, none⟩ = some (.int .i64 t399) ∧ w'.cell? ⟨gb409, 8, none⟩ = some (.int .i64 t400) ∧ w'.cell? ⟨gb409, 9, none⟩ = some (.int .i64 t401) ∧ w'.cell? ⟨gb409, 10, none⟩ = some (.int .i64 t402) ∧ w'.cell? ⟨gb409, 11, none⟩ = some (.int .i64 t403) ∧ w'.cell? ⟨gb409, 12, none⟩ = some (.int .i64 t404) ∧ w'.cell? ⟨gb409, 13, none⟩ = some (.int .i64 t405)) (ds := []) #[false, false, false, false, false, false, false, false, false, false, false, false, false, false, false, false, false, false, false, false, false, false, false, false, false, false] (by kernel_rfl) rfl rfl ⟨(blk_cell BK409.out 0).trans rfl, (blk_cell BK409.out 1).trans rfl, (blk_cell BK409.out 2).trans rfl, (blk_cell BK409.out 3).trans rfl, (blk_cell BK409.out 4).trans rfl, (blk_cell BK409.out 5).trans rfl, (blk_cell BK409.out 6).trans rfl, (blk_cell BK409.out 7).trans rfl, (blk_cell BK409.out 8).trans rfl, (blk_cell BK409.out 9).trans rfl, (blk_cell BK409.out 10).trans rfl, (blk_cell BK409.out 11).trans rfl, (blk_cell BK409.out 12).trans rfl, (blk_cell BK409.out 13).trans rfl⟩ (fun hHeld => ?_); refine with_tabW laws_FnWaits.tab15 laws_FnWaits.bits15 (fun HT_ HW_ => ?_)
           generalize w49.drew = w52 at HO_4 BK409 HB hHeld ⊢
           refine pure_ (i := 0) (N := some 86) (v := ?_) (a' := ?_) #[true, false, false, false, false, false, false, false, false, false, false, false, false, false, false, false, false, false, false, false, false, false, false, false, false, false] rfl rfl (any_of HT_.out (by kernel_rfl)) (fun _ _ _ h => h) (Or.inl ⟨by rfl, ?_⟩) ?_ ?_
           rotate_left
           ·
            intro w'
            go_simp
            with_reducible rfl
           rotate_left
           ·
            simp only [Act.put, List.setIfInBounds_toArray, List.set_cons_zero, List.set_cons_succ, i64_w, i32_w]
            rfl
           refine pure_ (i := 2) (N := some 88) (v := ?_) (a' := ?_) #[true, false, true, false, false, false, false, false, false, false, false, false, false, false, false, false, false, false, false, false, false, false, false, false, false, false] rfl rfl (any_of HT_.out (by kernel_rfl)) (fun _ _ _ h => h) (Or.inl ⟨by rfl, ?_⟩) ?_ ?_
           rotate_left
           ·
            intro w'
            go_simp
            with_reducible rfl
           rotate_left
           ·
            simp only [Act.put, List.setIfInBounds_toArray, List.set_cons_zero, List.set_cons_succ, i64_w, i32_w]
            rfl
           refine take_ (i := 1) (N := some 87) (v := ?_) (a' := ?_) #[true, true, true, false, false, false, false, false, false, false, false, false, false, false, false, false, false, false, false, false, false, false, false, false, false, false] rfl rfl (take_ofW HT_.out HW_.out (by kernel_rfl)) (fun _ _ _ h => h) (Or.inl ⟨by rfl, ?_⟩) hHeld ?_ ?_
           rotate_left
           ·
            rintro w' ⟨s0, s1, s2, s3, s4, s5, s6, s7, s8, s9, s10, s11, s12, s13⟩
            go_simp
            with_reducible rfl
           rotate_left
           ·
            simp only [Act.put, List.setIfInBounds_toArray, List.set_cons_zero, List.set_cons_succ, i64_w, i32_w]
            rfl
           refine one_ (i := 3) (N := some 89) #[true, true, true, true, false, false, false, false, false, false, false, false, false, false, false, false, false, false, false, false, false, false, false, false, false, false] rfl rfl (one_of HT_.out (by kernel_rfl)) (by decide) (fun K hK => ?_)
           refine goes_ Try.func20 (by kernel_rfl) rfl #[.agg #[.int .i64 t392, .int .i64 t393, .int .i64 t394, .int .i64 t395, .int .i64 t396, .int .i64 t397, .int .i64 t398, .int .i64 t399, .int .i64 t400, .int .i64 t401, .int .i64 t402, .int .i64 t403, .int .i64 t404, .int .i64 t405], .int .i64 x6_1] (by rfl) rfl rfl (by (try simp only [List.map_toArray, List.map_cons, List.map_nil]); first | done | rfl | (simp only [List.length_drop, List.length_take]; rfl)) ?_
           with_reducible refine (impl_LeastWait.calls kj16 t392 t393 t394 t395 t396 t397 t398 t399 t400 t401 t402 t403 t404 t405 x6_1 t420 _ A50.out).mono ?_
           rintro e w53 ⟨rfl, hb⟩
           refine ⟨_, rfl, ?_⟩
           have n0_ := Aside0.mk (Kd.R_below (ro_ HO_4.out) hb)
           have n1_ := Aside0.mk (blk_below (bl_ BK409.out) hb)
           have n2_ := Aside0.mk (below_step (be_ HB.out) hb)
           clear HO_4
           clear BK409
           clear HB
           have HO_4 := n0_
           have BK409 := n1_
           have HB := n2_
           clear n0_ n1_ n2_
           (try clear hb)
           (try clear hb2)
           (try clear hk)
           (try clear hi)
           refine hK.out _ _ ⟨(blk_cell BK409.out 0).trans rfl, (blk_cell BK409.out 1).trans rfl, (blk_cell BK409.out 2).trans rfl, (blk_cell BK409.out 3).trans rfl, (blk_cell BK409.out 4).trans rfl, (blk_cell BK409.out 5).trans rfl, (blk_cell BK409.out 6).trans rfl, (blk_cell BK409.out 7).trans rfl, (blk_cell BK409.out 8).trans rfl, (blk_cell BK409.out 9).trans rfl, (blk_cell BK409.out 10).trans rfl, (blk_cell BK409.out 11).trans rfl, (blk_cell BK409.out 12).trans rfl, (blk_cell BK409.out 13).trans rfl⟩ (fun hHeld => ?_)
           clear hK K
           refine norm_ (a' := ?_) ?_ ?_
           rotate_left
           ·
            show Act.put _ (some 89) _ = _
            simp only [Act.put, List.setIfInBounds_toArray, List.set_cons_zero, List.set_cons_succ, i64_w, i32_w]
            rfl
           refine pure_ (i := 4) (N := some 90) (v := ?_) (a' := ?_) #[true, true, true, true, true, false, false, false, false, false, false, false, false, false, false, false, false, false, false, false, false, false, false, false, false, false] rfl rfl (any_of HT_.out (by kernel_rfl)) (fun _ _ _ h => h) (Or.inl ⟨by rfl, ?_⟩) ?_ ?_
           rotate_left
           ·
            intro w'
            go_simp
            with_reducible rfl
           rotate_left
           ·
            simp only [Act.put, List.setIfInBounds_toArray, List.set_cons_zero, List.set_cons_succ, i64_w, i32_w]
            rfl
           refine pure_ (i := 5) (N := some 91) (v := ?_) (a' := ?_) #[true, true, true, true, true, true, false, false, false, false, false, false, false, false, false, false, false, false, false, false, false, false, false, false, false, false] rfl rfl (any_of HT_.out (by kernel_rfl)) (fun _ _ _ h => h) (Or.inl ⟨by rfl, ?_⟩) ?_ ?_
           rotate_left
           ·
            intro w'
            go_simp
            with_reducible rfl
           rotate_left
           ·
            simp only [Act.put, List.setIfInBounds_toArray, List.set_cons_zero, List.set_cons_succ, i64_w, i32_w]
            rfl
           refine pure_ (i := 6) (N := some 92) (v := undef) (a' := ?_) #[true, true, true, true, true, true, true, false, false, false, false, false, false, false, false, false, false, false, false, false, false, false, false, false, false, false] rfl rfl (any_of HT_.out (by kernel_rfl)) (fun _ _ _ h => h) (Or.inr ⟨by rfl, rfl⟩) ?_ ?_
           rotate_left
           ·
            simp only [Act.put, List.setIfInBounds_toArray, List.set_cons_zero, List.set_cons_succ, i64_w, i32_w]
            rfl
           refine pure_ (i := 7) (N := some 93) (v := undef) (a' := ?_) #[true, true, true, true, true, true, true, true, false, false, false, false, false, false, false, false, false, false, false, false, false, false, false, false, false, false] rfl rfl (any_of HT_.out (by kernel_rfl)) (fun _ _ _ h => h) (Or.inr ⟨by rfl, rfl⟩) ?_ ?_
           rotate_left
           ·
            simp only [Act.put, List.setIfInBounds_toArray, List.set_cons_zero, List.set_cons_succ, i64_w, i32_w]
            rfl
           refine pure_ (i := 8) (N := some 94) (v := undef) (a' := ?_) #[true, true, true, true, true, true, true, true, true, false, false, false, false, false, false, false, false, false, false, false, false, false, false, false, false, false] rfl rfl (any_of HT_.out (by kernel_rfl)) (fun _ _ _ h => h) (Or.inr ⟨by rfl, rfl⟩) ?_ ?_
           rotate_left
           ·
            simp only [Act.put, List.setIfInBounds_toArray, List.set_cons_zero, List.set_cons_succ, i64_w, i32_w]
            rfl
           refine pure_ (i := 9) (N := some 95) (v := ?_) (a' := ?_) #[true, true, true, true, true, true, true, true, true, true, false, false, false, false, false, false, false, false, false, false, false, false, false, false, false, false] rfl rfl (any_of HT_.out (by kernel_rfl)) (fun _ _ _ h => h) (Or.inl ⟨by rfl, ?_⟩) ?_ ?_
           rotate_left
           ·
            intro w'
            go_simp
            with_reducible rfl
           rotate_left
           ·
            simp only [Act.put, List.setIfInBounds_toArray, List.set_cons_zero, List.set_cons_succ, i64_w, i32_w]
            rfl
           refine pure_ (i := 10) (N := some 96) (v := ?_) (a' := ?_) #[true, true, true, true, true, true, true, true, true, true, true, false, false, false, false, false, false, false, false, false, false, false, false, false, false, false] rfl rfl (any_of HT_.out (by kernel_rfl)) (fun _ _ _ h => h) (Or.inl ⟨by rfl, ?_⟩) ?_ ?_
           rotate_left
           ·
            intro w'
            go_simp
            with_reducible rfl
           rotate_left
           ·
            simp only [Act.put, List.setIfInBounds_toArray, List.set_cons_zero, List.set_cons_succ, i64_w, i32_w]
            rfl
           refine pure_ (i := 11) (N := some 97) (v := undef) (a' := ?_) #[true, true, true, true, true, true, true, true, true, true, true, true, false, false, false, false, false, false, false, false, false, false, false, false, false, false] rfl rfl (any_of HT_.out (by kernel_rfl)) (fun _ _ _ h => h) (Or.inr ⟨by rfl, rfl⟩) ?_ ?_
           rotate_left
           ·
            simp only [Act.put, List.setIfInBounds_toArray, List.set_cons_zero, List.set_cons_succ, i64_w, i32_w]
            rfl
           refine pure_ (i := 12) (N := some 98) (v := undef) (a' := ?_) #[true, true, true, true, true, true, true, true, true, true, true, true, true, false, false, false, false, false, false, false, false, false, false, false, false, false] rfl rfl (any_of HT_.out (by kernel_rfl)) (fun _ _ _ h => h) (Or.inr ⟨by rfl, rfl⟩) ?_ ?_
           rotate_left
           ·
            simp only [Act.put, List.setIfInBounds_toArray, List.set_cons_zero, List.set_cons_succ, i64_w, i32_w]
            rfl
           refine pure_ (i := 13) (N := some 99) (v := undef) (a' := ?_) #[true, true, true, true, true, true, true, true, true, true, true, true, true, true, false, false, false, false, false, false, false, false, false, false, false, false] rfl rfl (any_of HT_.out (by kernel_rfl)) (fun _ _ _ h => h) (Or.inr ⟨by rfl, rfl⟩) ?_ ?_
           rotate_left
           ·
            simp only [Act.put, List.setIfInBounds_toArray, List.set_cons_zero, List.set_cons_succ, i64_w, i32_w]
            rfl
           refine pure_ (i := 14) (N := some 100) (v := undef) (a' := ?_) #[true, true, true, true, true, true, true, true, true, true, true, true, true, true, true, false, false, false, false, false, false, false, false, false, false, false] rfl rfl (any_of HT_.out (by kernel_rfl)) (fun _ _ _ h => h) (Or.inr ⟨by rfl, rfl⟩) ?_ ?_
           rotate_left
           ·
            simp only [Act.put, List.setIfInBounds_toArray, List.set_cons_zero, List.set_cons_succ, i64_w, i32_w]
            rfl
           refine pure_ (i := 15) (N := some 101) (v := undef) (a' := ?_) #[true, true, true, true, true, true, true, true, true, true, true, true, true, true, true, true, false, false, false, false, false, false, false, false, false, false] rfl rfl (any_of HT_.out (by kernel_rfl)) (fun _ _ _ h => h) (Or.inr ⟨by rfl, rfl⟩) ?_ ?_
           rotate_left
           ·
            simp only [Act.put, List.setIfInBounds_toArray, List.set_cons_zero, List.set_cons_succ, i64_w, i32_w]
            rfl
           refine pure_ (i := 16) (N := some 102) (v := ?_) (a' := ?_) #[true, true, true, true, true, true, true, true, true, true, true, true, true, true, true, true, true, false, false, false, false, false, false, false, false, false] rfl rfl (any_of HT_.out (by kernel_rfl)) (fun _ _ _ h => h) (Or.inl ⟨by rfl, ?_⟩) ?_ ?_
           rotate_left
           ·
            intro w'
            go_simp
            with_reducible rfl
           rotate_left
           ·
            simp only [Act.put, List.setIfInBounds_toArray, List.set_cons_zero, List.set_cons_succ, i64_w, i32_w]
            rfl
           refine pure_ (i := 17) (N := some 103) (v := ?_) (a' := ?_) #[true, true, true, true, true, true, true, true, true, true, true, true, true, true, true, true, true, true, false, false, false, false, false, false, false, false] rfl rfl (any_of HT_.out (by kernel_rfl)) (fun _ _ _ h => h) (Or.inl ⟨by rfl, ?_⟩) ?_ ?_
           rotate_left
           ·
            intro w'
            go_simp
            with_reducible rfl
           rotate_left
           ·
            simp only [Act.put, List.setIfInBounds_toArray, List.set_cons_zero, List.set_cons_succ, i64_w, i32_w]
            rfl
           refine pure_ (i := 18) (N := some 104) (v := undef) (a' := ?_) #[true, true, true, true, true, true, true, true, true, true, true, true, true, true, true, true, true, true, true, false, false, false, false, false, false, false] rfl rfl (any_of HT_.out (by kernel_rfl)) (fun _ _ _ h => h) (Or.inr ⟨by rfl, rfl⟩) ?_ ?_
           rotate_left
           ·
            simp only [Act.put, List.setIfInBounds_toArray, List.set_cons_zero, List.set_cons_succ, i64_w, i32_w]
            rfl
           refine pure_ (i := 19) (N := some 105) (v := undef) (a' := ?_) #[true, true, true, true, true, true, true, true, true, true, true, true, true, true, true, true, true, true, true, true, false, false, false, false, false, false] rfl rfl (any_of HT_.out (by kernel_rfl)) (fun _ _ _ h => h) (Or.inr ⟨by rfl, rfl⟩) ?_ ?_
           rotate_left
           ·
            simp only [Act.put, List.setIfInBounds_toArray, List.set_cons_zero, List.set_cons_succ, i64_w, i32_w]
            rfl
           refine pure_ (i := 20) (N := some 106) (v := undef) (a' := ?_) #[true, true, true, true, true, true, true, true, true, true, true, true, true, true, true, true, true, true, true, true, true, false, false, false, false, false] rfl rfl (any_of HT_.out (by kernel_rfl)) (fun _ _ _ h => h) (Or.inr ⟨by rfl, rfl⟩) ?_ ?_
           rotate_left
           ·
            simp only [Act.put, List.setIfInBounds_toArray, List.set_cons_zero, List.set_cons_succ, i64_w, i32_w]
            rfl
           refine pure_ (i := 21) (N := some 107) (v := undef) (a' := ?_) #[true, true, true, true, true, true, true, true, true, true, true, true, true, true, true, true, true, true, true, true, true, true, false, false, false, false] rfl rfl (any_of HT_.out (by kernel_rfl)) (fun _ _ _ h => h) (Or.inr ⟨by rfl, rfl⟩) ?_ ?_
           rotate_left
           ·
            simp only [Act.put, List.setIfInBounds_toArray, List.set_cons_zero, List.set_cons_succ, i64_w, i32_w]
            rfl
           refine pure_ (i := 22) (N := some 108) (v := undef) (a' := ?_) #[true, true, true, true, true, true, true, true, true, true, true, true, true, true, true, true, true, true, true, true, true, true, true, false, false, false] rfl rfl (any_of HT_.out (by kernel_rfl)) (fun _ _ _ h => h) (Or.inr ⟨by rfl, rfl⟩) ?_ ?_
           rotate_left
           ·
            simp only [Act.put, List.setIfInBounds_toArray, List.set_cons_zero, List.set_cons_succ, i64_w, i32_w]
            rfl
           refine pure_ (i := 23) (N := some 109) (v := undef) (a' := ?_) #[true, true, true, true, true, true, true, true, true, true, true, true, true, true, true, true, true, true, true, true, true, true, true, true, false, false] rfl rfl (any_of HT_.out (by kernel_rfl)) (fun _ _ _ h => h) (Or.inr ⟨by rfl, rfl⟩) ?_ ?_
           rotate_left
           ·
            simp only [Act.put, List.setIfInBounds_toArray, List.set_cons_zero, List.set_cons_succ, i64_w, i32_w]
            rfl
           refine pure_ (i := 24) (N := some 110) (v := undef) (a' := ?_) #[true, true, true, true, true, true, true, true, true, true, true, true, true, true, true, true, true, true, true, true, true, true, true, true, true, false] rfl rfl (any_of HT_.out (by kernel_rfl)) (fun _ _ _ h => h) (Or.inr ⟨by rfl, rfl⟩) ?_ ?_
           rotate_left
           ·
            simp only [Act.put, List.setIfInBounds_toArray, List.set_cons_zero, List.set_cons_succ, i64_w, i32_w]
            rfl
           refine pure_ (i := 25) (N := some 111) (v := ?_) (a' := ?_) #[true, true, true, true, true, true, true, true, true, true, true, true, true, true, true, true, true, true, true, true, true, true, true, true, true, true] rfl rfl (any_of HT_.out (by kernel_rfl)) (fun _ _ _ h => h) (Or.inl ⟨by rfl, ?_⟩) ?_ ?_
           rotate_left
           ·
            intro w'
            go_simp
            with_reducible rfl
           rotate_left
           ·
            simp only [Act.put, List.setIfInBounds_toArray, List.set_cons_zero, List.set_cons_succ, i64_w, i32_w]
            rfl
           refine done_ (done_of HT_.out (by kernel_rfl)) ?_
           try go_wp2
           go_meet
           case rel => exact ⟨_, (true), (by first | rfl | (simp; done) | (simp [*]; done)), H', ⟨by have := HK1.out; have := HJ16.out; first | omega | exact Nat.le_refl _⟩, ⟨by (with_reducible repeat (first | apply Kd.R_alloc | apply Kd.R_drewN | apply Kd.R_drew)); exact HO_4.out⟩, ⟨by refine bl_ ?_; exact BK409.out⟩, ⟨be_ HB.out⟩⟩
          ·
           rw [if_neg c51] at H
           have c51b0 : decide (t419 < t420) = false := decide_eq_false c51
           clear c51
           (first | rw [c51b0] | (simp only [i64_w, i32_w]; rw [c51b0]) | skip)
           by_cases c54 : t419 > t415
           ·
            rw [if_pos c54] at H
            have c54b0 : decide (t415 < t419) = true := decide_eq_true c54
            clear c54
            have H' := Aside0.mk H
            clear H
            try go_wp2
            have n0_ := Aside0.mk (Kd.R_drew HO_4.out)
            have n1_ := Aside0.mk (blk_drew BK409.out)
            have n2_ := Aside0.mk (below_drew1 HB.out)
            clear HO_4
            clear BK409
            clear HB
            have HO_4 := n0_
            have BK409 := n1_
            have HB := n2_
            clear n0_ n1_ n2_
            refine start_ (n := 26) (S := fun w' => w'.cell? ⟨gb409, 0, none⟩ = some (.int .i64 t392) ∧ w'.cell? ⟨gb409, 1, none⟩ = some (.int .i64 t393) ∧ w'.cell? ⟨gb409, 2, none⟩ = some (.int .i64 t394) ∧ w'.cell? ⟨gb409, 3, none⟩ = some (.int .i64 t395) ∧ w'.cell? ⟨gb409, 4, none⟩ = some (.int .i64 t396) ∧ w'.cell? ⟨gb409, 5, none⟩ = some (.int .i64 t397) ∧ w'.cell? ⟨gb409, 6, none⟩ = some (.int .i64 t398) ∧ w'.cell? ⟨gb409, 7, none⟩ = some (.int .i64 t399) ∧ w'.cell? ⟨gb409, 8, none⟩ = some (.int .i64 t400) ∧ w'.cell? ⟨gb409, 9, none⟩ = some (.int .i64 t401) ∧ w'.cell? ⟨gb409, 10, none⟩ = some (.int .i64 t402) ∧ w'.cell? ⟨gb409, 11, none⟩ = some (.int .i64 t403) ∧ w'.cell? ⟨gb409, 12, none⟩ = some (.int .i64 t404) ∧ w'.cell? ⟨gb409, 13, none⟩ = some (.int .i64 t405)) (ds := []) #[false, false, false, false, false, false, false, false, false, false, false, false, false, false, false, false, false, false, false, false, false, false, false, false, false, false] (by kernel_rfl) rfl rfl ⟨(blk_cell BK409.out 0).trans rfl, (blk_cell BK409.out 1).trans rfl, (blk_cell BK409.out 2).trans rfl, (blk_cell BK409.out 3).trans rfl, (blk_cell BK409.out 4).trans rfl, (blk_cell BK409.out 5).trans rfl, (blk_cell BK409.out 6).trans rfl, (blk_cell BK409.out 7).trans rfl, (blk_cell BK409.out 8).trans rfl, (blk_cell BK409.out 9).trans rfl, (blk_cell BK409.out 10).trans rfl, (blk_cell BK409.out 11).trans rfl, (blk_cell BK409.out 12).trans rfl, (blk_cell BK409.out 13).trans rfl⟩ (fun hHeld => ?_); refine with_tabW laws_FnWaits.tab15 laws_FnWaits.bits15 (fun HT_ HW_ => ?_)
            generalize w49.drew = w55 at HO_4 BK409 HB hHeld ⊢
            refine pure_ (i := 0) (N := some 86) (v := ?_) (a' := ?_) #[true, false, false, false, false, false, false, false, false, false, false, false, false, false, false, false, false, false, false, false, false, false, false, false, false, false] rfl rfl (any_of HT_.out (by kernel_rfl)) (fun _ _ _ h => h) (Or.inl ⟨by rfl, ?_⟩) ?_ ?_
            rotate_left
            ·
             intro w'
             go_simp
             with_reducible rfl
            rotate_left
            ·
             simp only [Act.put, List.setIfInBounds_toArray, List.set_cons_zero, List.set_cons_succ, i64_w, i32_w]
             rfl
            refine pure_ (i := 2) (N := some 88) (v := ?_) (a' := ?_) #[true, false, true, false, false, false, false, false, false, false, false, false, false, false, false, false, false, false, false, false, false, false, false, false, false, false] rfl rfl (any_of HT_.out (by kernel_rfl)) (fun _ _ _ h => h) (Or.inl ⟨by rfl, ?_⟩) ?_ ?_
            rotate_left
            ·
             intro w'
             go_simp
             with_reducible rfl
            rotate_left
            ·
             simp only [Act.put, List.setIfInBounds_toArray, List.set_cons_zero, List.set_cons_succ, i64_w, i32_w]
             rfl
            refine take_ (i := 1) (N := some 87) (v := ?_) (a' := ?_) #[true, true, true, false, false, false, false, false, false, false, false, false, false, false, false, false, false, false, false, false, false, false, false, false, false, false] rfl rfl (take_ofW HT_.out HW_.out (by kernel_rfl)) (fun _ _ _ h => h) (Or.inl ⟨by rfl, ?_⟩) hHeld ?_ ?_
            rotate_left
            ·
             rintro w' ⟨s0, s1, s2, s3, s4, s5, s6, s7, s8, s9, s10, s11, s12, s13⟩
             go_simp
             with_reducible rfl
            rotate_left
            ·
             simp only [Act.put, List.setIfInBounds_toArray, List.set_cons_zero, List.set_cons_succ, i64_w, i32_w]
             rfl
            refine one_ (i := 3) (N := some 89) #[true, true, true, true, false, false, false, false, false, false, false, false, false, false, false, false, false, false, false, false, false, false, false, false, false, false] rfl rfl (one_of HT_.out (by kernel_rfl)) (by decide) (fun K hK => ?_)
            refine goes_ Try.func20 (by kernel_rfl) rfl #[.agg #[.int .i64 t392, .int .i64 t393, .int .i64 t394, .int .i64 t395, .int .i64 t396, .int .i64 t397, .int .i64 t398, .int .i64 t399, .int .i64 t400, .int .i64 t401, .int .i64 t402, .int .i64 t403, .int .i64 t404, .int .i64 t405], .int .i64 x6_1] (by rfl) rfl rfl (by (try simp only [List.map_toArray, List.map_cons, List.map_nil]); first | done | rfl | (simp only [List.length_drop, List.length_take]; rfl)) ?_
            with_reducible refine (impl_LeastWait.calls kj16 t392 t393 t394 t395 t396 t397 t398 t399 t400 t401 t402 t403 t404 t405 x6_1 t420 _ A50.out).mono ?_
            rintro e w56 ⟨rfl, hb⟩
            refine ⟨_, rfl, ?_⟩
            have n0_ := Aside0.mk (Kd.R_below (ro_ HO_4.out) hb)
            have n1_ := Aside0.mk (blk_below (bl_ BK409.out) hb)
            have n2_ := Aside0.mk (below_step (be_ HB.out) hb)
            clear HO_4
            clear BK409
            clear HB
            have HO_4 := n0_
            have BK409 := n1_
            have HB := n2_
            clear n0_ n1_ n2_
            (try clear hb)
            (try clear hb2)
            (try clear hk)
            (try clear hi)
            refine hK.out _ _ ⟨(blk_cell BK409.out 0).trans rfl, (blk_cell BK409.out 1).trans rfl, (blk_cell BK409.out 2).trans rfl, (blk_cell BK409.out 3).trans rfl, (blk_cell BK409.out 4).trans rfl, (blk_cell BK409.out 5).trans rfl, (blk_cell BK409.out 6).trans rfl, (blk_cell BK409.out 7).trans rfl, (blk_cell BK409.out 8).trans rfl, (blk_cell BK409.out 9).trans rfl, (blk_cell BK409.out 10).trans rfl, (blk_cell BK409.out 11).trans rfl, (blk_cell BK409.out 12).trans rfl, (blk_cell BK409.out 13).trans rfl⟩ (fun hHeld => ?_)
            clear hK K
            refine norm_ (a' := ?_) ?_ ?_
            rotate_left
            ·
             show Act.put _ (some 89) _ = _
             simp only [Act.put, List.setIfInBounds_toArray, List.set_cons_zero, List.set_cons_succ, i64_w, i32_w]
             rfl
            refine pure_ (i := 4) (N := some 90) (v := ?_) (a' := ?_) #[true, true, true, true, true, false, false, false, false, false, false, false, false, false, false, false, false, false, false, false, false, false, false, false, false, false] rfl rfl (any_of HT_.out (by kernel_rfl)) (fun _ _ _ h => h) (Or.inl ⟨by rfl, ?_⟩) ?_ ?_
            rotate_left
            ·
             intro w'
             go_simp
             with_reducible rfl
            rotate_left
            ·
             simp only [Act.put, List.setIfInBounds_toArray, List.set_cons_zero, List.set_cons_succ, i64_w, i32_w]
             rfl
            refine pure_ (i := 5) (N := some 91) (v := ?_) (a' := ?_) #[true, true, true, true, true, true, false, false, false, false, false, false, false, false, false, false, false, false, false, false, false, false, false, false, false, false] rfl rfl (any_of HT_.out (by kernel_rfl)) (fun _ _ _ h => h) (Or.inl ⟨by rfl, ?_⟩) ?_ ?_
            rotate_left
            ·
             intro w'
             go_simp
             with_reducible rfl
            rotate_left
            ·
             simp only [Act.put, List.setIfInBounds_toArray, List.set_cons_zero, List.set_cons_succ, i64_w, i32_w]
             rfl
            refine pure_ (i := 6) (N := some 92) (v := ?_) (a' := ?_) #[true, true, true, true, true, true, true, false, false, false, false, false, false, false, false, false, false, false, false, false, false, false, false, false, false, false] rfl rfl (any_of HT_.out (by kernel_rfl)) (fun _ _ _ h => h) (Or.inl ⟨by rfl, ?_⟩) ?_ ?_
            rotate_left
            ·
             intro w'
             go_simp
             with_reducible rfl
            rotate_left
            ·
             simp only [Act.put, List.setIfInBounds_toArray, List.set_cons_zero, List.set_cons_succ, i64_w, i32_w]
             rfl
            refine pure_ (i := 7) (N := some 93) (v := ?_) (a' := ?_) #[true, true, true, true, true, true, true, true, false, false, false, false, false, false, false, false, false, false, false, false, false, false, false, false, false, false] rfl rfl (any_of HT_.out (by kernel_rfl)) (fun _ _ _ h => h) (Or.inl ⟨by rfl, ?_⟩) ?_ ?_
            rotate_left
            ·
             intro w'
             go_simp
             with_reducible rfl
            rotate_left
            ·
             simp only [Act.put, List.setIfInBounds_toArray, List.set_cons_zero, List.set_cons_succ, i64_w, i32_w]
             rfl
            refine pure_ (i := 8) (N := some 94) (v := ?_) (a' := ?_) #[true, true, true, true, true, true, true, true, true, false, false, false, false, false, false, false, false, false, false, false, false, false, false, false, false, false] rfl rfl (any_of HT_.out (by kernel_rfl)) (fun _ _ _ h => h) (Or.inl ⟨by rfl, ?_⟩) ?_ ?_
            rotate_left
            ·
             intro w'
             go_simp
             with_reducible rfl
            rotate_left
            ·
             simp only [Act.put, List.setIfInBounds_toArray, List.set_cons_zero, List.set_cons_succ, i64_w, i32_w]
             rfl
            refine pure_ (i := 9) (N := some 95) (v := ?_) (a' := ?_) #[true, true, true, true, true, true, true, true, true, true, false, false, false, false, false, false, false, false, false, false, false, false, false, false, false, false] rfl rfl (any_of HT_.out (by kernel_rfl)) (fun _ _ _ h => h) (Or.inl ⟨by rfl, ?_⟩) ?_ ?_
            rotate_left
            ·
             intro w'
             go_simp
             with_reducible rfl
            rotate_left
            ·
             simp only [Act.put, List.setIfInBounds_toArray, List.set_cons_zero, List.set_cons_succ, i64_w, i32_w]
             rfl
            refine pure_ (i := 10) (N := some 96) (v := ?_) (a' := ?_) #[true, true, true, true, true, true, true, true, true, true, true, false, false, false, false, false, false, false, false, false, false, false, false, false, false, false] rfl rfl (any_of HT_.out (by kernel_rfl)) (fun _ _ _ h => h) (Or.inl ⟨by rfl, ?_⟩) ?_ ?_
            rotate_left
            ·
             intro w'
             go_simp
             with_reducible rfl
            rotate_left
            ·
             simp only [Act.put, List.setIfInBounds_toArray, List.set_cons_zero, List.set_cons_succ, i64_w, i32_w]
             rfl
            refine pure_ (i := 11) (N := some 97) (v := undef) (a' := ?_) #[true, true, true, true, true, true, true, true, true, true, true, true, false, false, false, false, false, false, false, false, false, false, false, false, false, false] rfl rfl (any_of HT_.out (by kernel_rfl)) (fun _ _ _ h => h) (Or.inr ⟨by rfl, rfl⟩) ?_ ?_
            rotate_left
            ·
             simp only [Act.put, List.setIfInBounds_toArray, List.set_cons_zero, List.set_cons_succ, i64_w, i32_w]
             rfl
            refine pure_ (i := 12) (N := some 98) (v := undef) (a' := ?_) #[true, true, true, true, true, true, true, true, true, true, true, true, true, false, false, false, false, false, false, false, false, false, false, false, false, false] rfl rfl (any_of HT_.out (by kernel_rfl)) (fun _ _ _ h => h) (Or.inr ⟨by rfl, rfl⟩) ?_ ?_
            rotate_left
            ·
             simp only [Act.put, List.setIfInBounds_toArray, List.set_cons_zero, List.set_cons_succ, i64_w, i32_w]
             rfl
            refine pure_ (i := 13) (N := some 99) (v := undef) (a' := ?_) #[true, true, true, true, true, true, true, true, true, true, true, true, true, true, false, false, false, false, false, false, false, false, false, false, false, false] rfl rfl (any_of HT_.out (by kernel_rfl)) (fun _ _ _ h => h) (Or.inr ⟨by rfl, rfl⟩) ?_ ?_
            rotate_left
            ·
             simp only [Act.put, List.setIfInBounds_toArray, List.set_cons_zero, List.set_cons_succ, i64_w, i32_w]
             rfl
            refine pure_ (i := 14) (N := some 100) (v := undef) (a' := ?_) #[true, true, true, true, true, true, true, true, true, true, true, true, true, true, true, false, false, false, false, false, false, false, false, false, false, false] rfl rfl (any_of HT_.out (by kernel_rfl)) (fun _ _ _ h => h) (Or.inr ⟨by rfl, rfl⟩) ?_ ?_
            rotate_left
            ·
             simp only [Act.put, List.setIfInBounds_toArray, List.set_cons_zero, List.set_cons_succ, i64_w, i32_w]
             rfl
            refine pure_ (i := 15) (N := some 101) (v := undef) (a' := ?_) #[true, true, true, true, true, true, true, true, true, true, true, true, true, true, true, true, false, false, false, false, false, false, false, false, false, false] rfl rfl (any_of HT_.out (by kernel_rfl)) (fun _ _ _ h => h) (Or.inr ⟨by rfl, rfl⟩) ?_ ?_
            rotate_left
            ·
             simp only [Act.put, List.setIfInBounds_toArray, List.set_cons_zero, List.set_cons_succ, i64_w, i32_w]
             rfl
            refine pure_ (i := 16) (N := some 102) (v := ?_) (a' := ?_) #[true, true, true, true, true, true, true, true, true, true, true, true, true, true, true, true, true, false, false, false, false, false, false, false, false, false] rfl rfl (any_of HT_.out (by kernel_rfl)) (fun _ _ _ h => h) (Or.inl ⟨by rfl, ?_⟩) ?_ ?_
            rotate_left
            ·
             intro w'
             go_simp
             with_reducible rfl
            rotate_left
            ·
             simp only [Act.put, List.setIfInBounds_toArray, List.set_cons_zero, List.set_cons_succ, i64_w, i32_w]
             rfl
            refine pure_ (i := 17) (N := some 103) (v := ?_) (a' := ?_) #[true, true, true, true, true, true, true, true, true, true, true, true, true, true, true, true, true, true, false, false, false, false, false, false, false, false] rfl rfl (any_of HT_.out (by kernel_rfl)) (fun _ _ _ h => h) (Or.inl ⟨by rfl, ?_⟩) ?_ ?_
            rotate_left
            ·
             intro w'
             go_simp
             with_reducible rfl
            rotate_left
            ·
             simp only [Act.put, List.setIfInBounds_toArray, List.set_cons_zero, List.set_cons_succ, i64_w, i32_w]
             rfl
            refine pure_ (i := 18) (N := some 104) (v := undef) (a' := ?_) #[true, true, true, true, true, true, true, true, true, true, true, true, true, true, true, true, true, true, true, false, false, false, false, false, false, false] rfl rfl (any_of HT_.out (by kernel_rfl)) (fun _ _ _ h => h) (Or.inr ⟨by rfl, rfl⟩) ?_ ?_
            rotate_left
            ·
             simp only [Act.put, List.setIfInBounds_toArray, List.set_cons_zero, List.set_cons_succ, i64_w, i32_w]
             rfl
            refine pure_ (i := 19) (N := some 105) (v := undef) (a' := ?_) #[true, true, true, true, true, true, true, true, true, true, true, true, true, true, true, true, true, true, true, true, false, false, false, false, false, false] rfl rfl (any_of HT_.out (by kernel_rfl)) (fun _ _ _ h => h) (Or.inr ⟨by rfl, rfl⟩) ?_ ?_
            rotate_left
            ·
             simp only [Act.put, List.setIfInBounds_toArray, List.set_cons_zero, List.set_cons_succ, i64_w, i32_w]
             rfl
            refine pure_ (i := 20) (N := some 106) (v := undef) (a' := ?_) #[true, true, true, true, true, true, true, true, true, true, true, true, true, true, true, true, true, true, true, true, true, false, false, false, false, false] rfl rfl (any_of HT_.out (by kernel_rfl)) (fun _ _ _ h => h) (Or.inr ⟨by rfl, rfl⟩) ?_ ?_
            rotate_left
            ·
             simp only [Act.put, List.setIfInBounds_toArray, List.set_cons_zero, List.set_cons_succ, i64_w, i32_w]
             rfl
            refine pure_ (i := 21) (N := some 107) (v := undef) (a' := ?_) #[true, true, true, true, true, true, true, true, true, true, true, true, true, true, true, true, true, true, true, true, true, true, false, false, false, false] rfl rfl (any_of HT_.out (by kernel_rfl)) (fun _ _ _ h => h) (Or.inr ⟨by rfl, rfl⟩) ?_ ?_
            rotate_left
            ·
             simp only [Act.put, List.setIfInBounds_toArray, List.set_cons_zero, List.set_cons_succ, i64_w, i32_w]
             rfl
            refine pure_ (i := 22) (N := some 108) (v := undef) (a' := ?_) #[true, true, true, true, true, true, true, true, true, true, true, true, true, true, true, true, true, true, true, true, true, true, true, false, false, false] rfl rfl (any_of HT_.out (by kernel_rfl)) (fun _ _ _ h => h) (Or.inr ⟨by rfl, rfl⟩) ?_ ?_
            rotate_left
            ·
             simp only [Act.put, List.setIfInBounds_toArray, List.set_cons_zero, List.set_cons_succ, i64_w, i32_w]
             rfl
            refine pure_ (i := 23) (N := some 109) (v := undef) (a' := ?_) #[true, true, true, true, true, true, true, true, true, true, true, true, true, true, true, true, true, true, true, true, true, true, true, true, false, false] rfl rfl (any_of HT_.out (by kernel_rfl)) (fun _ _ _ h => h) (Or.inr ⟨by rfl, rfl⟩) ?_ ?_
            rotate_left
            ·
             simp only [Act.put, List.setIfInBounds_toArray, List.set_cons_zero, List.set_cons_succ, i64_w, i32_w]
             rfl
            refine pure_ (i := 24) (N := some 110) (v := undef) (a' := ?_) #[true, true, true, true, true, true, true, true, true, true, true, true, true, true, true, true, true, true, true, true, true, true, true, true, true, false] rfl rfl (any_of HT_.out (by kernel_rfl)) (fun _ _ _ h => h) (Or.inr ⟨by rfl, rfl⟩) ?_ ?_
            rotate_left
            ·
             simp only [Act.put, List.setIfInBounds_toArray, List.set_cons_zero, List.set_cons_succ, i64_w, i32_w]
             rfl
            refine pure_ (i := 25) (N := some 111) (v := ?_) (a' := ?_) #[true, true, true, true, true, true, true, true, true, true, true, true, true, true, true, true, true, true, true, true, true, true, true, true, true, true] rfl rfl (any_of HT_.out (by kernel_rfl)) (fun _ _ _ h => h) (Or.inl ⟨by rfl, ?_⟩) ?_ ?_
            rotate_left
            ·
             intro w'
             go_simp
             with_reducible rfl
            rotate_left
            ·
             simp only [Act.put, List.setIfInBounds_toArray, List.set_cons_zero, List.set_cons_succ, i64_w, i32_w]
             rfl
            refine done_ (done_of HT_.out (by kernel_rfl)) ?_
            try go_wp2
            go_meet
            case rel => exact ⟨_, (true), (by first | rfl | (simp; done) | (simp [*]; done)), H', ⟨by have := HK1.out; have := HJ16.out; first | omega | exact Nat.le_refl _⟩, ⟨by (with_reducible repeat (first | apply Kd.R_alloc | apply Kd.R_drewN | apply Kd.R_drew)); exact HO_4.out⟩, ⟨by refine bl_ ?_; exact BK409.out⟩, ⟨be_ HB.out⟩⟩
           ·
            rw [if_neg c54] at H
            have c54b0 : decide (t415 < t419) = false := decide_eq_false c54
            clear c54
            replace H := Option.bind_eq_some_iff.mp H
            obtain ⟨t421, A570, H⟩ := H
            replace H : (if t421 = t415 then ((impl_JitteredWait.f kj16 t392 t393 t394 t395 t396 t397 t398 t399 t400 t401 t402 t403 t404 t405 x6_1 1000).bind fun t422 => ((impl_LeastWait.f kj16 t392 t393 t394 t395 t396 t397 t398 t399 t400 t401 t402 t403 t404 t405 x6_1).bind fun t423 => (laws_FnWaits.j2 kj16 l0 t406 t414 x6_1 t415 (t422 != t423) t392 t393 t394 t395 t396 t397 t398 t399 t400 t401 t402 t403 t404 t405))) else (laws_FnWaits.j2 kj16 l0 t406 t414 x6_1 t415 true t392 t393 t394 t395 t396 t397 t398 t399 t400 t401 t402 t403 t404 t405)) = some r := H
            have A57 := Aside0.mk A570
            clear A570
            by_cases c58 : t421 = t415
            ·
             rw [if_pos c58] at H
             have c58b0 : (t421 == t415) = true := beq_iff_eq.mpr c58
             have c58b1 : (t421 != t415) = false := bne_eq_false_iff_eq.mpr c58
             clear c58
             replace H := Option.bind_eq_some_iff.mp H
             obtain ⟨t422, A590, H⟩ := H
             replace H : ((impl_LeastWait.f kj16 t392 t393 t394 t395 t396 t397 t398 t399 t400 t401 t402 t403 t404 t405 x6_1).bind fun t423 => (laws_FnWaits.j2 kj16 l0 t406 t414 x6_1 t415 (t422 != t423) t392 t393 t394 t395 t396 t397 t398 t399 t400 t401 t402 t403 t404 t405)) = some r := H
             have A59 := Aside0.mk A590
             clear A590
             replace H := Option.bind_eq_some_iff.mp H
             obtain ⟨t423, A600, H⟩ := H
             replace H : (laws_FnWaits.j2 kj16 l0 t406 t414 x6_1 t415 (t422 != t423) t392 t393 t394 t395 t396 t397 t398 t399 t400 t401 t402 t403 t404 t405) = some r := H
             have A60 := Aside0.mk A600
             clear A600
             have H' := Aside0.mk H
             clear H
             try go_wp2
             have n0_ := Aside0.mk (Kd.R_drew HO_4.out)
             have n1_ := Aside0.mk (blk_drew BK409.out)
             have n2_ := Aside0.mk (below_drew1 HB.out)
             clear HO_4
             clear BK409
             clear HB
             have HO_4 := n0_
             have BK409 := n1_
             have HB := n2_
             clear n0_ n1_ n2_
             refine start_ (n := 26) (S := fun w' => w'.cell? ⟨gb409, 0, none⟩ = some (.int .i64 t392) ∧ w'.cell? ⟨gb409, 1, none⟩ = some (.int .i64 t393) ∧ w'.cell? ⟨gb409, 2, none⟩ = some (.int .i64 t394) ∧ w'.cell? ⟨gb409, 3, none⟩ = some (.int .i64 t395) ∧ w'.cell? ⟨gb409, 4, none⟩ = some (.int .i64 t396) ∧ w'.cell? ⟨gb409, 5, none⟩ = some (.int .i64 t397) ∧ w'.cell? ⟨gb409, 6, none⟩ = some (.int .i64 t398) ∧ w'.cell? ⟨gb409, 7, none⟩ = some (.int .i64 t399) ∧ w'.cell? ⟨gb409, 8, none⟩ = some (.int .i64 t400) ∧ w'.cell? ⟨gb409, 9, none⟩ = some (.int .i64 t401) ∧ w'.cell? ⟨gb409, 10, none⟩ = some (.int .i64 t402) ∧ w'.cell? ⟨gb409, 11, none⟩ = some (.int .i64 t403) ∧ w'.cell? ⟨gb409, 12, none⟩ = some (.int .i64 t404) ∧ w'.cell? ⟨gb409, 13, none⟩ = some (.int .i64 t405)) (ds := []) #[false, false, false, false, false, false, false, false, false, false, false, false, false, false, false, false, false, false, false, false, false, false, false, false, false, false] (by kernel_rfl) rfl rfl ⟨(blk_cell BK409.out 0).trans rfl, (blk_cell BK409.out 1).trans rfl, (blk_cell BK409.out 2).trans rfl, (blk_cell BK409.out 3).trans rfl, (blk_cell BK409.out 4).trans rfl, (blk_cell BK409.out 5).trans rfl, (blk_cell BK409.out 6).trans rfl, (blk_cell BK409.out 7).trans rfl, (blk_cell BK409.out 8).trans rfl, (blk_cell BK409.out 9).trans rfl, (blk_cell BK409.out 10).trans rfl, (blk_cell BK409.out 11).trans rfl, (blk_cell BK409.out 12).trans rfl, (blk_cell BK409.out 13).trans rfl⟩ (fun hHeld => ?_); refine with_tabW laws_FnWaits.tab15 laws_FnWaits.bits15 (fun HT_ HW_ => ?_)
             generalize w49.drew = w61 at HO_4 BK409 HB hHeld ⊢
             refine pure_ (i := 0) (N := some 86) (v := ?_) (a' := ?_) #[true, false, false, false, false, false, false, false, false, false, false, false, false, false, false, false, false, false, false, false, false, false, false, false, false, false] rfl rfl (any_of HT_.out (by kernel_rfl)) (fun _ _ _ h => h) (Or.inl ⟨by rfl, ?_⟩) ?_ ?_
             rotate_left
             ·
              intro w'
              go_simp
              with_reducible rfl
             rotate_left
             ·
              simp only [Act.put, List.setIfInBounds_toArray, List.set_cons_zero, List.set_cons_succ, i64_w, i32_w]
              rfl
             refine pure_ (i := 2) (N := some 88) (v := ?_) (a' := ?_) #[true, false, true, false, false, false, false, false, false, false, false, false, false, false, false, false, false, false, false, false, false, false, false, false, false, false] rfl rfl (any_of HT_.out (by kernel_rfl)) (fun _ _ _ h => h) (Or.inl ⟨by rfl, ?_⟩) ?_ ?_
             rotate_left
             ·
              intro w'
              go_simp
              with_reducible rfl
             rotate_left
             ·
              simp only [Act.put, List.setIfInBounds_toArray, List.set_cons_zero, List.set_cons_succ, i64_w, i32_w]
              rfl
             refine take_ (i := 1) (N := some 87) (v := ?_) (a' := ?_) #[true, true, true, false, false, false, false, false, false, false, false, false, false, false, false, false, false, false, false, false, false, false, false, false, false, false] rfl rfl (take_ofW HT_.out HW_.out (by kernel_rfl)) (fun _ _ _ h => h) (Or.inl ⟨by rfl, ?_⟩) hHeld ?_ ?_
             rotate_left
             ·
              rintro w' ⟨s0, s1, s2, s3, s4, s5, s6, s7, s8, s9, s10, s11, s12, s13⟩
              go_simp
              with_reducible rfl
             rotate_left
             ·
              simp only [Act.put, List.setIfInBounds_toArray, List.set_cons_zero, List.set_cons_succ, i64_w, i32_w]
              rfl
             refine one_ (i := 3) (N := some 89) #[true, true, true, true, false, false, false, false, false, false, false, false, false, false, false, false, false, false, false, false, false, false, false, false, false, false] rfl rfl (one_of HT_.out (by kernel_rfl)) (by decide) (fun K hK => ?_)
             refine goes_ Try.func20 (by kernel_rfl) rfl #[.agg #[.int .i64 t392, .int .i64 t393, .int .i64 t394, .int .i64 t395, .int .i64 t396, .int .i64 t397, .int .i64 t398, .int .i64 t399, .int .i64 t400, .int .i64 t401, .int .i64 t402, .int .i64 t403, .int .i64 t404, .int .i64 t405], .int .i64 x6_1] (by rfl) rfl rfl (by (try simp only [List.map_toArray, List.map_cons, List.map_nil]); first | done | rfl | (simp only [List.length_drop, List.length_take]; rfl)) ?_
             with_reducible refine (impl_LeastWait.calls kj16 t392 t393 t394 t395 t396 t397 t398 t399 t400 t401 t402 t403 t404 t405 x6_1 t420 _ A50.out).mono ?_
             rintro e w62 ⟨rfl, hb⟩
             refine ⟨_, rfl, ?_⟩
             have n0_ := Aside0.mk (Kd.R_below (ro_ HO_4.out) hb)
             have n1_ := Aside0.mk (blk_below (bl_ BK409.out) hb)
             have n2_ := Aside0.mk (below_step (be_ HB.out) hb)
             clear HO_4
             clear BK409
             clear HB
             have HO_4 := n0_
             have BK409 := n1_
             have HB := n2_
             clear n0_ n1_ n2_
             (try clear hb)
             (try clear hb2)
             (try clear hk)
             (try clear hi)
             refine hK.out _ _ ⟨(blk_cell BK409.out 0).trans rfl, (blk_cell BK409.out 1).trans rfl, (blk_cell BK409.out 2).trans rfl, (blk_cell BK409.out 3).trans rfl, (blk_cell BK409.out 4).trans rfl, (blk_cell BK409.out 5).trans rfl, (blk_cell BK409.out 6).trans rfl, (blk_cell BK409.out 7).trans rfl, (blk_cell BK409.out 8).trans rfl, (blk_cell BK409.out 9).trans rfl, (blk_cell BK409.out 10).trans rfl, (blk_cell BK409.out 11).trans rfl, (blk_cell BK409.out 12).trans rfl, (blk_cell BK409.out 13).trans rfl⟩ (fun hHeld => ?_)
             clear hK K
             refine norm_ (a' := ?_) ?_ ?_
             rotate_left
             ·
              show Act.put _ (some 89) _ = _
              simp only [Act.put, List.setIfInBounds_toArray, List.set_cons_zero, List.set_cons_succ, i64_w, i32_w]
              rfl
             refine pure_ (i := 4) (N := some 90) (v := ?_) (a' := ?_) #[true, true, true, true, true, false, false, false, false, false, false, false, false, false, false, false, false, false, false, false, false, false, false, false, false, false] rfl rfl (any_of HT_.out (by kernel_rfl)) (fun _ _ _ h => h) (Or.inl ⟨by rfl, ?_⟩) ?_ ?_
             rotate_left
             ·
              intro w'
              go_simp
              with_reducible rfl
             rotate_left
             ·
              simp only [Act.put, List.setIfInBounds_toArray, List.set_cons_zero, List.set_cons_succ, i64_w, i32_w]
              rfl
             refine pure_ (i := 5) (N := some 91) (v := ?_) (a' := ?_) #[true, true, true, true, true, true, false, false, false, false, false, false, false, false, false, false, false, false, false, false, false, false, false, false, false, false] rfl rfl (any_of HT_.out (by kernel_rfl)) (fun _ _ _ h => h) (Or.inl ⟨by rfl, ?_⟩) ?_ ?_
             rotate_left
             ·
              intro w'
              go_simp
              with_reducible rfl
             rotate_left
             ·
              simp only [Act.put, List.setIfInBounds_toArray, List.set_cons_zero, List.set_cons_succ, i64_w, i32_w]
              rfl
             refine pure_ (i := 6) (N := some 92) (v := ?_) (a' := ?_) #[true, true, true, true, true, true, true, false, false, false, false, false, false, false, false, false, false, false, false, false, false, false, false, false, false, false] rfl rfl (any_of HT_.out (by kernel_rfl)) (fun _ _ _ h => h) (Or.inl ⟨by rfl, ?_⟩) ?_ ?_
             rotate_left
             ·
              intro w'
              go_simp
              with_reducible rfl
             rotate_left
             ·
              simp only [Act.put, List.setIfInBounds_toArray, List.set_cons_zero, List.set_cons_succ, i64_w, i32_w]
              rfl
             refine pure_ (i := 7) (N := some 93) (v := ?_) (a' := ?_) #[true, true, true, true, true, true, true, true, false, false, false, false, false, false, false, false, false, false, false, false, false, false, false, false, false, false] rfl rfl (any_of HT_.out (by kernel_rfl)) (fun _ _ _ h => h) (Or.inl ⟨by rfl, ?_⟩) ?_ ?_
             rotate_left
             ·
              intro w'
              go_simp
              with_reducible rfl
             rotate_left
             ·
              simp only [Act.put, List.setIfInBounds_toArray, List.set_cons_zero, List.set_cons_succ, i64_w, i32_w]
              rfl
             refine pure_ (i := 8) (N := some 94) (v := ?_) (a' := ?_) #[true, true, true, true, true, true, true, true, true, false, false, false, false, false, false, false, false, false, false, false, false, false, false, false, false, false] rfl rfl (any_of HT_.out (by kernel_rfl)) (fun _ _ _ h => h) (Or.inl ⟨by rfl, ?_⟩) ?_ ?_
             rotate_left
             ·
              intro w'
              go_simp
              with_reducible rfl
             rotate_left
             ·
              simp only [Act.put, List.setIfInBounds_toArray, List.set_cons_zero, List.set_cons_succ, i64_w, i32_w]
              rfl
             refine pure_ (i := 9) (N := some 95) (v := ?_) (a' := ?_) #[true, true, true, true, true, true, true, true, true, true, false, false, false, false, false, false, false, false, false, false, false, false, false, false, false, false] rfl rfl (any_of HT_.out (by kernel_rfl)) (fun _ _ _ h => h) (Or.inl ⟨by rfl, ?_⟩) ?_ ?_
             rotate_left
             ·
              intro w'
              go_simp
              with_reducible rfl
             rotate_left
             ·
              simp only [Act.put, List.setIfInBounds_toArray, List.set_cons_zero, List.set_cons_succ, i64_w, i32_w]
              rfl
             refine pure_ (i := 10) (N := some 96) (v := ?_) (a' := ?_) #[true, true, true, true, true, true, true, true, true, true, true, false, false, false, false, false, false, false, false, false, false, false, false, false, false, false] rfl rfl (any_of HT_.out (by kernel_rfl)) (fun _ _ _ h => h) (Or.inl ⟨by rfl, ?_⟩) ?_ ?_
             rotate_left
             ·
              intro w'
              go_simp
              with_reducible rfl
             rotate_left
             ·
              simp only [Act.put, List.setIfInBounds_toArray, List.set_cons_zero, List.set_cons_succ, i64_w, i32_w]
              rfl
             refine pure_ (i := 12) (N := some 98) (v := ?_) (a' := ?_) #[true, true, true, true, true, true, true, true, true, true, true, false, true, false, false, false, false, false, false, false, false, false, false, false, false, false] rfl rfl (any_of HT_.out (by kernel_rfl)) (fun _ _ _ h => h) (Or.inl ⟨by rfl, ?_⟩) ?_ ?_
             rotate_left
             ·
              intro w'
              go_simp
              with_reducible rfl
             rotate_left
             ·
              simp only [Act.put, List.setIfInBounds_toArray, List.set_cons_zero, List.set_cons_succ, i64_w, i32_w]
              rfl
             refine pure_ (i := 14) (N := some 100) (v := ?_) (a' := ?_) #[true, true, true, true, true, true, true, true, true, true, true, false, true, false, true, false, false, false, false, false, false, false, false, false, false, false] rfl rfl (any_of HT_.out (by kernel_rfl)) (fun _ _ _ h => h) (Or.inl ⟨by rfl, ?_⟩) ?_ ?_
             rotate_left
             ·
              intro w'
              go_simp
              with_reducible rfl
             rotate_left
             ·
              simp only [Act.put, List.setIfInBounds_toArray, List.set_cons_zero, List.set_cons_succ, i64_w, i32_w]
              rfl
             refine take_ (i := 11) (N := some 97) (v := ?_) (a' := ?_) #[true, true, true, true, true, true, true, true, true, true, true, true, true, false, true, false, false, false, false, false, false, false, false, false, false, false] rfl rfl (take_ofW HT_.out HW_.out (by kernel_rfl)) (fun _ _ _ h => h) (Or.inl ⟨by rfl, ?_⟩) hHeld ?_ ?_
             rotate_left
             ·
              rintro w' ⟨s0, s1, s2, s3, s4, s5, s6, s7, s8, s9, s10, s11, s12, s13⟩
              go_simp
              with_reducible rfl
             rotate_left
             ·
              simp only [Act.put, List.setIfInBounds_toArray, List.set_cons_zero, List.set_cons_succ, i64_w, i32_w]
              rfl
             refine one_ (i := 13) (N := some 99) #[true, true, true, true, true, true, true, true, true, true, true, true, true, true, true, false, false, false, false, false, false, false, false, false, false, false] rfl rfl (one_of HT_.out (by kernel_rfl)) (by decide) (fun K hK => ?_)
             refine goes_ Try.func22 (by kernel_rfl) rfl #[.agg #[.int .i64 t392, .int .i64 t393, .int .i64 t394, .int .i64 t395, .int .i64 t396, .int .i64 t397, .int .i64 t398, .int .i64 t399, .int .i64 t400, .int .i64 t401, .int .i64 t402, .int .i64 t403, .int .i64 t404, .int .i64 t405], .int .i64 x6_1, .int .i64 0] (by rfl) rfl rfl (by (try simp only [List.map_toArray, List.map_cons, List.map_nil]); first | done | rfl | (simp only [List.length_drop, List.length_take]; rfl)) ?_
             with_reducible refine (impl_JitteredWait.calls kj16 t392 t393 t394 t395 t396 t397 t398 t399 t400 t401 t402 t403 t404 t405 x6_1 0 t421 _ A57.out).mono ?_
             rintro e w63 ⟨rfl, hb⟩
             refine ⟨_, rfl, ?_⟩
             have n0_ := Aside0.mk (Kd.R_below (ro_ HO_4.out) hb)
             have n1_ := Aside0.mk (blk_below (bl_ BK409.out) hb)
             have n2_ := Aside0.mk (below_step (be_ HB.out) hb)
             clear HO_4
             clear BK409
             clear HB
             have HO_4 := n0_
             have BK409 := n1_
             have HB := n2_
             clear n0_ n1_ n2_
             (try clear hb)
             (try clear hb2)
             (try clear hk)
             (try clear hi)
             refine hK.out _ _ ⟨(blk_cell BK409.out 0).trans rfl, (blk_cell BK409.out 1).trans rfl, (blk_cell BK409.out 2).trans rfl, (blk_cell BK409.out 3).trans rfl, (blk_cell BK409.out 4).trans rfl, (blk_cell BK409.out 5).trans rfl, (blk_cell BK409.out 6).trans rfl, (blk_cell BK409.out 7).trans rfl, (blk_cell BK409.out 8).trans rfl, (blk_cell BK409.out 9).trans rfl, (blk_cell BK409.out 10).trans rfl, (blk_cell BK409.out 11).trans rfl, (blk_cell BK409.out 12).trans rfl, (blk_cell BK409.out 13).trans rfl⟩ (fun hHeld => ?_)
             clear hK K
             refine norm_ (a' := ?_) ?_ ?_
             rotate_left
             ·
              show Act.put _ (some 99) _ = _
              simp only [Act.put, List.setIfInBounds_toArray, List.set_cons_zero, List.set_cons_succ, i64_w, i32_w]
              rfl
             refine pure_ (i := 15) (N := some 101) (v := ?_) (a' := ?_) #[true, true, true, true, true, true, true, true, true, true, true, true, true, true, true, true, false, false, false, false, false, false, false, false, false, false] rfl rfl (any_of HT_.out (by kernel_rfl)) (fun _ _ _ h => h) (Or.inl ⟨by rfl, ?_⟩) ?_ ?_
             rotate_left
             ·
              intro w'
              go_simp
              with_reducible rfl
             rotate_left
             ·
              simp only [Act.put, List.setIfInBounds_toArray, List.set_cons_zero, List.set_cons_succ, i64_w, i32_w]
              rfl
             refine pure_ (i := 16) (N := some 102) (v := ?_) (a' := ?_) #[true, true, true, true, true, true, true, true, true, true, true, true, true, true, true, true, true, false, false, false, false, false, false, false, false, false] rfl rfl (any_of HT_.out (by kernel_rfl)) (fun _ _ _ h => h) (Or.inl ⟨by rfl, ?_⟩) ?_ ?_
             rotate_left
             ·
              intro w'
              go_simp
              with_reducible rfl
             rotate_left
             ·
              simp only [Act.put, List.setIfInBounds_toArray, List.set_cons_zero, List.set_cons_succ, i64_w, i32_w]
              rfl
             refine pure_ (i := 17) (N := some 103) (v := ?_) (a' := ?_) #[true, true, true, true, true, true, true, true, true, true, true, true, true, true, true, true, true, true, false, false, false, false, false, false, false, false] rfl rfl (any_of HT_.out (by kernel_rfl)) (fun _ _ _ h => h) (Or.inl ⟨by rfl, ?_⟩) ?_ ?_
             rotate_left
             ·
              intro w'
              go_simp
              with_reducible rfl
             rotate_left
             ·
              simp only [Act.put, List.setIfInBounds_toArray, List.set_cons_zero, List.set_cons_succ, i64_w, i32_w]
              rfl
             refine pure_ (i := 19) (N := some 105) (v := ?_) (a' := ?_) #[true, true, true, true, true, true, true, true, true, true, true, true, true, true, true, true, true, true, false, true, false, false, false, false, false, false] rfl rfl (any_of HT_.out (by kernel_rfl)) (fun _ _ _ h => h) (Or.inl ⟨by rfl, ?_⟩) ?_ ?_
             rotate_left
             ·
              intro w'
              go_simp
              with_reducible rfl
             rotate_left
             ·
              simp only [Act.put, List.setIfInBounds_toArray, List.set_cons_zero, List.set_cons_succ, i64_w, i32_w]
              rfl
             refine pure_ (i := 22) (N := some 108) (v := ?_) (a' := ?_) #[true, true, true, true, true, true, true, true, true, true, true, true, true, true, true, true, true, true, false, true, false, false, true, false, false, false] rfl rfl (any_of HT_.out (by kernel_rfl)) (fun _ _ _ h => h) (Or.inl ⟨by rfl, ?_⟩) ?_ ?_
             rotate_left
             ·
              intro w'
              go_simp
              with_reducible rfl
             rotate_left
             ·
              simp only [Act.put, List.setIfInBounds_toArray, List.set_cons_zero, List.set_cons_succ, i64_w, i32_w]
              rfl
             refine take_ (i := 18) (N := some 104) (v := ?_) (a' := ?_) #[true, true, true, true, true, true, true, true, true, true, true, true, true, true, true, true, true, true, true, true, false, false, true, false, false, false] rfl rfl (take_ofW HT_.out HW_.out (by kernel_rfl)) (fun _ _ _ h => h) (Or.inl ⟨by rfl, ?_⟩) hHeld ?_ ?_
             rotate_left
             ·
              rintro w' ⟨s0, s1, s2, s3, s4, s5, s6, s7, s8, s9, s10, s11, s12, s13⟩
              go_simp
              with_reducible rfl
             rotate_left
             ·
              simp only [Act.put, List.setIfInBounds_toArray, List.set_cons_zero, List.set_cons_succ, i64_w, i32_w]
              rfl
             refine take_ (i := 21) (N := some 107) (v := ?_) (a' := ?_) #[true, true, true, true, true, true, true, true, true, true, true, true, true, true, true, true, true, true, true, true, false, true, true, false, false, false] rfl rfl (take_ofW HT_.out HW_.out (by kernel_rfl)) (fun _ _ _ h => h) (Or.inl ⟨by rfl, ?_⟩) hHeld ?_ ?_
             rotate_left
             ·
              rintro w' ⟨s0, s1, s2, s3, s4, s5, s6, s7, s8, s9, s10, s11, s12, s13⟩
              go_simp
              with_reducible rfl
             rotate_left
             ·
              simp only [Act.put, List.setIfInBounds_toArray, List.set_cons_zero, List.set_cons_succ, i64_w, i32_w]
              rfl
             refine one_ (i := 20) (N := some 106) #[true, true, true, true, true, true, true, true, true, true, true, true, true, true, true, true, true, true, true, true, true, true, true, false, false, false] rfl rfl (one_of HT_.out (by kernel_rfl)) (by decide) (fun K hK => ?_)
             refine goes_ Try.func22 (by kernel_rfl) rfl #[.agg #[.int .i64 t392, .int .i64 t393, .int .i64 t394, .int .i64 t395, .int .i64 t396, .int .i64 t397, .int .i64 t398, .int .i64 t399, .int .i64 t400, .int .i64 t401, .int .i64 t402, .int .i64 t403, .int .i64 t404, .int .i64 t405], .int .i64 x6_1, .int .i64 1000] (by rfl) rfl rfl (by (try simp only [List.map_toArray, List.map_cons, List.map_nil]); first | done | rfl | (simp only [List.length_drop, List.length_take]; rfl)) ?_
             with_reducible refine (impl_JitteredWait.calls kj16 t392 t393 t394 t395 t396 t397 t398 t399 t400 t401 t402 t403 t404 t405 x6_1 1000 t422 _ A59.out).mono ?_
             rintro e w64 ⟨rfl, hb⟩
             refine ⟨_, rfl, ?_⟩
             have n0_ := Aside0.mk (Kd.R_below (ro_ HO_4.out) hb)
             have n1_ := Aside0.mk (blk_below (bl_ BK409.out) hb)
             have n2_ := Aside0.mk (below_step (be_ HB.out) hb)
             clear HO_4
             clear BK409
             clear HB
             have HO_4 := n0_
             have BK409 := n1_
             have HB := n2_
             clear n0_ n1_ n2_
             (try clear hb)
             (try clear hb2)
             (try clear hk)
             (try clear hi)
             refine hK.out _ _ ⟨(blk_cell BK409.out 0).trans rfl, (blk_cell BK409.out 1).trans rfl, (blk_cell BK409.out 2).trans rfl, (blk_cell BK409.out 3).trans rfl, (blk_cell BK409.out 4).trans rfl, (blk_cell BK409.out 5).trans rfl, (blk_cell BK409.out 6).trans rfl, (blk_cell BK409.out 7).trans rfl, (blk_cell BK409.out 8).trans rfl, (blk_cell BK409.out 9).trans rfl, (blk_cell BK409.out 10).trans rfl, (blk_cell BK409.out 11).trans rfl, (blk_cell BK409.out 12).trans rfl, (blk_cell BK409.out 13).trans rfl⟩ (fun hHeld => ?_)
             clear hK K
             refine norm_ (a' := ?_) ?_ ?_
             rotate_left
             ·
              show Act.put _ (some 106) _ = _
              simp only [Act.put, List.setIfInBounds_toArray, List.set_cons_zero, List.set_cons_succ, i64_w, i32_w]
              rfl
             refine one_ (i := 23) (N := some 109) #[true, true, true, true, true, true, true, true, true, true, true, true, true, true, true, true, true, true, true, true, true, true, true, true, false, false] rfl rfl (one_of HT_.out (by kernel_rfl)) (by decide) (fun K hK => ?_)
             refine goes_ Try.func20 (by kernel_rfl) rfl #[.agg #[.int .i64 t392, .int .i64 t393, .int .i64 t394, .int .i64 t395, .int .i64 t396, .int .i64 t397, .int .i64 t398, .int .i64 t399, .int .i64 t400, .int .i64 t401, .int .i64 t402, .int .i64 t403, .int .i64 t404, .int .i64 t405], .int .i64 x6_1] (by rfl) rfl rfl (by (try simp only [List.map_toArray, List.map_cons, List.map_nil]); first | done | rfl | (simp only [List.length_drop, List.length_take]; rfl)) ?_
             with_reducible refine (impl_LeastWait.calls kj16 t392 t393 t394 t395 t396 t397 t398 t399 t400 t401 t402 t403 t404 t405 x6_1 t423 _ A60.out).mono ?_
             rintro e w65 ⟨rfl, hb⟩
             refine ⟨_, rfl, ?_⟩
             have n0_ := Aside0.mk (Kd.R_below (ro_ HO_4.out) hb)
             have n1_ := Aside0.mk (blk_below (bl_ BK409.out) hb)
             have n2_ := Aside0.mk (below_step (be_ HB.out) hb)
             clear HO_4
             clear BK409
             clear HB
             have HO_4 := n0_
             have BK409 := n1_
             have HB := n2_
             clear n0_ n1_ n2_
             (try clear hb)
             (try clear hb2)
             (try clear hk)
             (try clear hi)
             refine hK.out _ _ ⟨(blk_cell BK409.out 0).trans rfl, (blk_cell BK409.out 1).trans rfl, (blk_cell BK409.out 2).trans rfl, (blk_cell BK409.out 3).trans rfl, (blk_cell BK409.out 4).trans rfl, (blk_cell BK409.out 5).trans rfl, (blk_cell BK409.out 6).trans rfl, (blk_cell BK409.out 7).trans rfl, (blk_cell BK409.out 8).trans rfl, (blk_cell BK409.out 9).trans rfl, (blk_cell BK409.out 10).trans rfl, (blk_cell BK409.out 11).trans rfl, (blk_cell BK409.out 12).trans rfl, (blk_cell BK409.out 13).trans rfl⟩ (fun hHeld => ?_)
             clear hK K
             refine norm_ (a' := ?_) ?_ ?_
             rotate_left
             ·
              show Act.put _ (some 109) _ = _
              simp only [Act.put, List.setIfInBounds_toArray, List.set_cons_zero, List.set_cons_succ, i64_w, i32_w]
              rfl
             refine pure_ (i := 24) (N := some 110) (v := ?_) (a' := ?_) #[true, true, true, true, true, true, true, true, true, true, true, true, true, true, true, true, true, true, true, true, true, true, true, true, true, false] rfl rfl (any_of HT_.out (by kernel_rfl)) (fun _ _ _ h => h) (Or.inl ⟨by rfl, ?_⟩) ?_ ?_
             rotate_left
             ·
              intro w'
              go_simp
              with_reducible rfl
             rotate_left
             ·
              simp only [Act.put, List.setIfInBounds_toArray, List.set_cons_zero, List.set_cons_succ, i64_w, i32_w]
              rfl
             refine pure_ (i := 25) (N := some 111) (v := ?_) (a' := ?_) #[true, true, true, true, true, true, true, true, true, true, true, true, true, true, true, true, true, true, true, true, true, true, true, true, true, true] rfl rfl (any_of HT_.out (by kernel_rfl)) (fun _ _ _ h => h) (Or.inl ⟨by rfl, ?_⟩) ?_ ?_
             rotate_left
             ·
              intro w'
              go_simp
              with_reducible rfl
             rotate_left
             ·
              simp only [Act.put, List.setIfInBounds_toArray, List.set_cons_zero, List.set_cons_succ, i64_w, i32_w]
              rfl
             refine done_ (done_of HT_.out (by kernel_rfl)) ?_
             try go_wp2
             go_meet
             case rel => exact ⟨_, ((t422 != t423)), (by first | rfl | (simp; done) | (simp [*]; done)), H', ⟨by have := HK1.out; have := HJ16.out; first | omega | exact Nat.le_refl _⟩, ⟨by (with_reducible repeat (first | apply Kd.R_alloc | apply Kd.R_drewN | apply Kd.R_drew)); exact HO_4.out⟩, ⟨by refine bl_ ?_; exact BK409.out⟩, ⟨be_ HB.out⟩⟩
            ·
             rw [if_neg c58] at H
             have c58b0 : (t421 == t415) = false := beq_eq_false_iff_ne.mpr c58
             have c58b1 : (t421 != t415) = true := bne_iff_ne.mpr c58
             have H' := Aside0.mk H
             clear H
             try go_wp2
             have n0_ := Aside0.mk (Kd.R_drew HO_4.out)
             have n1_ := Aside0.mk (blk_drew BK409.out)
             have n2_ := Aside0.mk (below_drew1 HB.out)
             clear HO_4
             clear BK409
             clear HB
             have HO_4 := n0_
             have BK409 := n1_
             have HB := n2_
             clear n0_ n1_ n2_
             refine start_ (n := 26) (S := fun w' => w'.cell? ⟨gb409, 0, none⟩ = some (.int .i64 t392) ∧ w'.cell? ⟨gb409, 1, none⟩ = some (.int .i64 t393) ∧ w'.cell? ⟨gb409, 2, none⟩ = some (.int .i64 t394) ∧ w'.cell? ⟨gb409, 3, none⟩ = some (.int .i64 t395) ∧ w'.cell? ⟨gb409, 4, none⟩ = some (.int .i64 t396) ∧ w'.cell? ⟨gb409, 5, none⟩ = some (.int .i64 t397) ∧ w'.cell? ⟨gb409, 6, none⟩ = some (.int .i64 t398) ∧ w'.cell? ⟨gb409, 7, none⟩ = some (.int .i64 t399) ∧ w'.cell? ⟨gb409, 8, none⟩ = some (.int .i64 t400) ∧ w'.cell? ⟨gb409, 9, none⟩ = some (.int .i64 t401) ∧ w'.cell? ⟨gb409, 10, none⟩ = some (.int .i64 t402) ∧ w'.cell? ⟨gb409, 11, none⟩ = some (.int .i64 t403) ∧ w'.cell? ⟨gb409, 12, none⟩ = some (.int .i64 t404) ∧ w'.cell? ⟨gb409, 13, none⟩ = some (.int .i64 t405)) (ds := []) #[false, false, false, false, false, false, false, false, false, false, false, false, false, false, false, false, false, false, false, false, false, false, false, false, false, false] (by kernel_rfl) rfl rfl ⟨(blk_cell BK409.out 0).trans rfl, (blk_cell BK409.out 1).trans rfl, (blk_cell BK409.out 2).trans rfl, (blk_cell BK409.out 3).trans rfl, (blk_cell BK409.out 4).trans rfl, (blk_cell BK409.out 5).trans rfl, (blk_cell BK409.out 6).trans rfl, (blk_cell BK409.out 7).trans rfl, (blk_cell BK409.out 8).trans rfl, (blk_cell BK409.out 9).trans rfl, (blk_cell BK409.out 10).trans rfl, (blk_cell BK409.out 11).trans rfl, (blk_cell BK409.out 12).trans rfl, (blk_cell BK409.out 13).trans rfl⟩ (fun hHeld => ?_); refine with_tabW laws_FnWaits.tab15 laws_FnWaits.bits15 (fun HT_ HW_ => ?_)
             generalize w49.drew = w66 at HO_4 BK409 HB hHeld ⊢
             refine pure_ (i := 0) (N := some 86) (v := ?_) (a' := ?_) #[true, false, false, false, false, false, false, false, false, false, false, false, false, false, false, false, false, false, false, false, false, false, false, false, false, false] rfl rfl (any_of HT_.out (by kernel_rfl)) (fun _ _ _ h => h) (Or.inl ⟨by rfl, ?_⟩) ?_ ?_
             rotate_left
             ·
              intro w'
              go_simp
              with_reducible rfl
             rotate_left
             ·
              simp only [Act.put, List.setIfInBounds_toArray, List.set_cons_zero, List.set_cons_succ, i64_w, i32_w]
              rfl
             refine pure_ (i := 2) (N := some 88) (v := ?_) (a' := ?_) #[true, false, true, false, false, false, false, false, false, false, false, false, false, false, false, false, false, false, false, false, false, false, false, false, false, false] rfl rfl (any_of HT_.out (by kernel_rfl)) (fun _ _ _ h => h) (Or.inl ⟨by rfl, ?_⟩) ?_ ?_
             rotate_left
             ·
              intro w'
              go_simp
              with_reducible rfl
             rotate_left
             ·
              simp only [Act.put, List.setIfInBounds_toArray, List.set_cons_zero, List.set_cons_succ, i64_w, i32_w]
              rfl
             refine take_ (i := 1) (N := some 87) (v := ?_) (a' := ?_) #[true, true, true, false, false, false, false, false, false, false, false, false, false, false, false, false, false, false, false, false, false, false, false, false, false, false] rfl rfl (take_ofW HT_.out HW_.out (by kernel_rfl)) (fun _ _ _ h => h) (Or.inl ⟨by rfl, ?_⟩) hHeld ?_ ?_
             rotate_left
             ·
              rintro w' ⟨s0, s1, s2, s3, s4, s5, s6, s7, s8, s9, s10, s11, s12, s13⟩
              go_simp
              with_reducible rfl
             rotate_left
             ·
              simp only [Act.put, List.setIfInBounds_toArray, List.set_cons_zero, List.set_cons_succ, i64_w, i32_w]
              rfl
             refine one_ (i := 3) (N := some 89) #[true, true, true, true, false, false, false, false, false, false, false, false, false, false, false, false, false, false, false, false, false, false, false, false, false, false] rfl rfl (one_of HT_.out (by kernel_rfl)) (by decide) (fun K hK => ?_)
             refine goes_ Try.func20 (by kernel_rfl) rfl #[.agg #[.int .i64 t392, .int .i64 t393, .int .i64 t394, .int .i64 t395, .int .i64 t396, .int .i64 t397, .int .i64 t398, .int .i64 t399, .int .i64 t400, .int .i64 t401, .int .i64 t402, .int .i64 t403, .int .i64 t404, .int .i64 t405], .int .i64 x6_1] (by rfl) rfl rfl (by (try simp only [List.map_toArray, List.map_cons, List.map_nil]); first | done | rfl | (simp only [List.length_drop, List.length_take]; rfl)) ?_
             with_reducible refine (impl_LeastWait.calls kj16 t392 t393 t394 t395 t396 t397 t398 t399 t400 t401 t402 t403 t404 t405 x6_1 t420 _ A50.out).mono ?_
             rintro e w67 ⟨rfl, hb⟩
             refine ⟨_, rfl, ?_⟩
             have n0_ := Aside0.mk (Kd.R_below (ro_ HO_4.out) hb)
             have n1_ := Aside0.mk (blk_below (bl_ BK409.out) hb)
             have n2_ := Aside0.mk (below_step (be_ HB.out) hb)
             clear HO_4
             clear BK409
             clear HB
             have HO_4 := n0_
             have BK409 := n1_
             have HB := n2_
             clear n0_ n1_ n2_
             (try clear hb)
             (try clear hb2)
             (try clear hk)
             (try clear hi)
             refine hK.out _ _ ⟨(blk_cell BK409.out 0).trans rfl, (blk_cell BK409.out 1).trans rfl, (blk_cell BK409.out 2).trans rfl, (blk_cell BK409.out 3).trans rfl, (blk_cell BK409.out 4).trans rfl, (blk_cell BK409.out 5).trans rfl, (blk_cell BK409.out 6).trans rfl, (blk_cell BK409.out 7).trans rfl, (blk_cell BK409.out 8).trans rfl, (blk_cell BK409.out 9).trans rfl, (blk_cell BK409.out 10).trans rfl, (blk_cell BK409.out 11).trans rfl, (blk_cell BK409.out 12).trans rfl, (blk_cell BK409.out 13).trans rfl⟩ (fun hHeld => ?_)
             clear hK K
             refine norm_ (a' := ?_) ?_ ?_
             rotate_left
             ·
              show Act.put _ (some 89) _ = _
              simp only [Act.put, List.setIfInBounds_toArray, List.set_cons_zero, List.set_cons_succ, i64_w, i32_w]
              rfl
             refine pure_ (i := 4) (N := some 90) (v := ?_) (a' := ?_) #[true, true, true, true, true, false, false, false, false, false, false, false, false, false, false, false, false, false, false, false, false, false, false, false, false, false] rfl rfl (any_of HT_.out (by kernel_rfl)) (fun _ _ _ h => h) (Or.inl ⟨by rfl, ?_⟩) ?_ ?_
             rotate_left
             ·
              intro w'
              go_simp
              with_reducible rfl
             rotate_left
             ·
              simp only [Act.put, List.setIfInBounds_toArray, List.set_cons_zero, List.set_cons_succ, i64_w, i32_w]
              rfl
             refine pure_ (i := 5) (N := some 91) (v := ?_) (a' := ?_) #[true, true, true, true, true, true, false, false, false, false, false, false, false, false, false, false, false, false, false, false, false, false, false, false, false, false] rfl rfl (any_of HT_.out (by kernel_rfl)) (fun _ _ _ h => h) (Or.inl ⟨by rfl, ?_⟩) ?_ ?_
             rotate_left
             ·
              intro w'
              go_simp
              with_reducible rfl
             rotate_left
             ·
              simp only [Act.put, List.setIfInBounds_toArray, List.set_cons_zero, List.set_cons_succ, i64_w, i32_w]
              rfl
             refine pure_ (i := 6) (N := some 92) (v := ?_) (a' := ?_) #[true, true, true, true, true, true, true, false, false, false, false, false, false, false, false, false, false, false, false, false, false, false, false, false, false, false] rfl rfl (any_of HT_.out (by kernel_rfl)) (fun _ _ _ h => h) (Or.inl ⟨by rfl, ?_⟩) ?_ ?_
             rotate_left
             ·
              intro w'
              go_simp
              with_reducible rfl
             rotate_left
             ·
              simp only [Act.put, List.setIfInBounds_toArray, List.set_cons_zero, List.set_cons_succ, i64_w, i32_w]
              rfl
             refine pure_ (i := 7) (N := some 93) (v := ?_) (a' := ?_) #[true, true, true, true, true, true, true, true, false, false, false, false, false, false, false, false, false, false, false, false, false, false, false, false, false, false] rfl rfl (any_of HT_.out (by kernel_rfl)) (fun _ _ _ h => h) (Or.inl ⟨by rfl, ?_⟩) ?_ ?_
             rotate_left
             ·
              intro w'
              go_simp
              with_reducible rfl
             rotate_left
             ·
              simp only [Act.put, List.setIfInBounds_toArray, List.set_cons_zero, List.set_cons_succ, i64_w, i32_w]
              rfl
             refine pure_ (i := 8) (N := some 94) (v := ?_) (a' := ?_) #[true, true, true, true, true, true, true, true, true, false, false, false, false, false, false, false, false, false, false, false, false, false, false, false, false, false] rfl rfl (any_of HT_.out (by kernel_rfl)) (fun _ _ _ h => h) (Or.inl ⟨by rfl, ?_⟩) ?_ ?_
             rotate_left
             ·
              intro w'
              go_simp
              with_reducible rfl
             rotate_left
             ·
              simp only [Act.put, List.setIfInBounds_toArray, List.set_cons_zero, List.set_cons_succ, i64_w, i32_w]
              rfl
             refine pure_ (i := 9) (N := some 95) (v := ?_) (a' := ?_) #[true, true, true, true, true, true, true, true, true, true, false, false, false, false, false, false, false, false, false, false, false, false, false, false, false, false] rfl rfl (any_of HT_.out (by kernel_rfl)) (fun _ _ _ h => h) (Or.inl ⟨by rfl, ?_⟩) ?_ ?_
             rotate_left
             ·
              intro w'
              go_simp
              with_reducible rfl
             rotate_left
             ·
              simp only [Act.put, List.setIfInBounds_toArray, List.set_cons_zero, List.set_cons_succ, i64_w, i32_w]
              rfl
             refine pure_ (i := 10) (N := some 96) (v := ?_) (a' := ?_) #[true, true, true, true, true, true, true, true, true, true, true, false, false, false, false, false, false, false, false, false, false, false, false, false, false, false] rfl rfl (any_of HT_.out (by kernel_rfl)) (fun _ _ _ h => h) (Or.inl ⟨by rfl, ?_⟩) ?_ ?_
             rotate_left
             ·
              intro w'
              go_simp
              with_reducible rfl
             rotate_left
             ·
              simp only [Act.put, List.setIfInBounds_toArray, List.set_cons_zero, List.set_cons_succ, i64_w, i32_w]
              rfl
             refine pure_ (i := 12) (N := some 98) (v := ?_) (a' := ?_) #[true, true, true, true, true, true, true, true, true, true, true, false, true, false, false, false, false, false, false, false, false, false, false, false, false, false] rfl rfl (any_of HT_.out (by kernel_rfl)) (fun _ _ _ h => h) (Or.inl ⟨by rfl, ?_⟩) ?_ ?_
             rotate_left
             ·
              intro w'
              go_simp
              with_reducible rfl
             rotate_left
             ·
              simp only [Act.put, List.setIfInBounds_toArray, List.set_cons_zero, List.set_cons_succ, i64_w, i32_w]
              rfl
             refine pure_ (i := 14) (N := some 100) (v := ?_) (a' := ?_) #[true, true, true, true, true, true, true, true, true, true, true, false, true, false, true, false, false, false, false, false, false, false, false, false, false, false] rfl rfl (any_of HT_.out (by kernel_rfl)) (fun _ _ _ h => h) (Or.inl ⟨by rfl, ?_⟩) ?_ ?_
             rotate_left
             ·
              intro w'
              go_simp
              with_reducible rfl
             rotate_left
             ·
              simp only [Act.put, List.setIfInBounds_toArray, List.set_cons_zero, List.set_cons_succ, i64_w, i32_w]
              rfl
             refine take_ (i := 11) (N := some 97) (v := ?_) (a' := ?_) #[true, true, true, true, true, true, true, true, true, true, true, true, true, false, true, false, false, false, false, false, false, false, false, false, false, false] rfl rfl (take_ofW HT_.out HW_.out (by kernel_rfl)) (fun _ _ _ h => h) (Or.inl ⟨by rfl, ?_⟩) hHeld ?_ ?_
             rotate_left
             ·
              rintro w' ⟨s0, s1, s2, s3, s4, s5, s6, s7, s8, s9, s10, s11, s12, s13⟩
              go_simp
              with_reducible rfl
             rotate_left
             ·
              simp only [Act.put, List.setIfInBounds_toArray, List.set_cons_zero, List.set_cons_succ, i64_w, i32_w]
              rfl
             refine one_ (i := 13) (N := some 99) #[true, true, true, true, true, true, true, true, true, true, true, true, true, true, true, false, false, false, false, false, false, false, false, false, false, false] rfl rfl (one_of HT_.out (by kernel_rfl)) (by decide) (fun K hK => ?_)
             refine goes_ Try.func22 (by kernel_rfl) rfl #[.agg #[.int .i64 t392, .int .i64 t393, .int .i64 t394, .int .i64 t395, .int .i64 t396, .int .i64 t397, .int .i64 t398, .int .i64 t399, .int .i64 t400, .int .i64 t401, .int .i64 t402, .int .i64 t403, .int .i64 t404, .int .i64 t405], .int .i64 x6_1, .int .i64 0] (by rfl) rfl rfl (by (try simp only [List.map_toArray, List.map_cons, List.map_nil]); first | done | rfl | (simp only [List.length_drop, List.length_take]; rfl)) ?_
             with_reducible refine (impl_JitteredWait.calls kj16 t392 t393 t394 t395 t396 t397 t398 t399 t400 t401 t402 t403 t404 t405 x6_1 0 t421 _ A57.out).mono ?_
             rintro e w68 ⟨rfl, hb⟩
             refine ⟨_, rfl, ?_⟩
             have n0_ := Aside0.mk (Kd.R_below (ro_ HO_4.out) hb)
             have n1_ := Aside0.mk (blk_below (bl_ BK409.out) hb)
             have n2_ := Aside0.mk (below_step (be_ HB.out) hb)
             clear HO_4
             clear BK409
             clear HB
             have HO_4 := n0_
             have BK409 := n1_
             have HB := n2_
             clear n0_ n1_ n2_
             (try clear hb)
             (try clear hb2)
             (try clear hk)
             (try clear hi)
             refine hK.out _ _ ⟨(blk_cell BK409.out 0).trans rfl, (blk_cell BK409.out 1).trans rfl, (blk_cell BK409.out 2).trans rfl, (blk_cell BK409.out 3).trans rfl, (blk_cell BK409.out 4).trans rfl, (blk_cell BK409.out 5).trans rfl, (blk_cell BK409.out 6).trans rfl, (blk_cell BK409.out 7).trans rfl, (blk_cell BK409.out 8).trans rfl, (blk_cell BK409.out 9).trans rfl, (blk_cell BK409.out 10).trans rfl, (blk_cell BK409.out 11).trans rfl, (blk_cell BK409.out 12).trans rfl, (blk_cell BK409.out 13).trans rfl⟩ (fun hHeld => ?_)
             clear hK K
             refine norm_ (a' := ?_) ?_ ?_
             rotate_left
             ·
              show Act.put _ (some 99) _ = _
              simp only [Act.put, List.setIfInBounds_toArray, List.set_cons_zero, List.set_cons_succ, i64_w, i32_w]
              rfl
             refine pure_ (i := 15) (N := some 101) (v := ?_) (a' := ?_) #[true, true, true, true, true, true, true, true, true, true, true, true, true, true, true, true, false, false, false, false, false, false, false, false, false, false] rfl rfl (any_of HT_.out (by kernel_rfl)) (fun _ _ _ h => h) (Or.inl ⟨by rfl, ?_⟩) ?_ ?_
             rotate_left
             ·
              intro w'
              go_simp
              with_reducible rfl
             rotate_left
             ·
              simp only [Act.put, List.setIfInBounds_toArray, List.set_cons_zero, List.set_cons_succ, i64_w, i32_w]
              rfl
             refine pure_ (i := 16) (N := some 102) (v := ?_) (a' := ?_) #[true, true, true, true, true, true, true, true, true, true, true, true, true, true, true, true, true, false, false, false, false, false, false, false, false, false] rfl rfl (any_of HT_.out (by kernel_rfl)) (fun _ _ _ h => h) (Or.inl ⟨by rfl, ?_⟩) ?_ ?_
             rotate_left
             ·
              intro w'
              go_simp
              with_reducible rfl
             rotate_left
             ·
              simp only [Act.put, List.setIfInBounds_toArray, List.set_cons_zero, List.set_cons_succ, i64_w, i32_w]
              rfl
             refine pure_ (i := 17) (N := some 103) (v := ?_) (a' := ?_) #[true, true, true, true, true, true, true, true, true, true, true, true, true, true, true, true, true, true, false, false, false, false, false, false, false, false] rfl rfl (any_of HT_.out (by kernel_rfl)) (fun _ _ _ h => h) (Or.inl ⟨by rfl, ?_⟩) ?_ ?_
             rotate_left
             ·
              intro w'
              go_simp
              with_reducible rfl
             rotate_left
             ·
              simp only [Act.put, List.setIfInBounds_toArray, List.set_cons_zero, List.set_cons_succ, i64_w, i32_w]
              rfl
             refine pure_ (i := 18) (N := some 104) (v := undef) (a' := ?_) #[true, true, true, true, true, true, true, true, true, true, true, true, true, true, true, true, true, true, true, false, false, false, false, false, false, false] rfl rfl (any_of HT_.out (by kernel_rfl)) (fun _ _ _ h => h) (Or.inr ⟨by rfl, rfl⟩) ?_ ?_
             rotate_left
             ·
              simp only [Act.put, List.setIfInBounds_toArray, List.set_cons_zero, List.set_cons_succ, i64_w, i32_w]
              rfl
             refine pure_ (i := 19) (N := some 105) (v := undef) (a' := ?_) #[true, true, true, true, true, true, true, true, true, true, true, true, true, true, true, true, true, true, true, true, false, false, false, false, false, false] rfl rfl (any_of HT_.out (by kernel_rfl)) (fun _ _ _ h => h) (Or.inr ⟨by rfl, rfl⟩) ?_ ?_
             rotate_left
             ·
              simp only [Act.put, List.setIfInBounds_toArray, List.set_cons_zero, List.set_cons_succ, i64_w, i32_w]
              rfl
             refine pure_ (i := 20) (N := some 106) (v := undef) (a' := ?_) #[true, true, true, true, true, true, true, true, true, true, true, true, true, true, true, true, true, true, true, true, true, false, false, false, false, false] rfl rfl (any_of HT_.out (by kernel_rfl)) (fun _ _ _ h => h) (Or.inr ⟨by rfl, rfl⟩) ?_ ?_
             rotate_left
             ·
              simp only [Act.put, List.setIfInBounds_toArray, List.set_cons_zero, List.set_cons_succ, i64_w, i32_w]
              rfl
             refine pure_ (i := 21) (N := some 107) (v := undef) (a' := ?_) #[true, true, true, true, true, true, true, true, true, true, true, true, true, true, true, true, true, true, true, true, true, true, false, false, false, false] rfl rfl (any_of HT_.out (by kernel_rfl)) (fun _ _ _ h => h) (Or.inr ⟨by rfl, rfl⟩) ?_ ?_
             rotate_left
             ·
              simp only [Act.put, List.setIfInBounds_toArray, List.set_cons_zero, List.set_cons_succ, i64_w, i32_w]
              rfl
             refine pure_ (i := 22) (N := some 108) (v := undef) (a' := ?_) #[true, true, true, true, true, true, true, true, true, true, true, true, true, true, true, true, true, true, true, true, true, true, true, false, false, false] rfl rfl (any_of HT_.out (by kernel_rfl)) (fun _ _ _ h => h) (Or.inr ⟨by rfl, rfl⟩) ?_ ?_
             rotate_left
             ·
              simp only [Act.put, List.setIfInBounds_toArray, List.set_cons_zero, List.set_cons_succ, i64_w, i32_w]
              rfl
             refine pure_ (i := 23) (N := some 109) (v := undef) (a' := ?_) #[true, true, true, true, true, true, true, true, true, true, true, true, true, true, true, true, true, true, true, true, true, true, true, true, false, false] rfl rfl (any_of HT_.out (by kernel_rfl)) (fun _ _ _ h => h) (Or.inr ⟨by rfl, rfl⟩) ?_ ?_
             rotate_left
             ·
              simp only [Act.put, List.setIfInBounds_toArray, List.set_cons_zero, List.set_cons_succ, i64_w, i32_w]
              rfl
             refine pure_ (i := 24) (N := some 110) (v := undef) (a' := ?_) #[true, true, true, true, true, true, true, true, true, true, true, true, true, true, true, true, true, true, true, true, true, true, true, true, true, false] rfl rfl (any_of HT_.out (by kernel_rfl)) (fun _ _ _ h => h) (Or.inr ⟨by rfl, rfl⟩) ?_ ?_
             rotate_left
             ·
              simp only [Act.put, List.setIfInBounds_toArray, List.set_cons_zero, List.set_cons_succ, i64_w, i32_w]
              rfl
             refine pure_ (i := 25) (N := some 111) (v := ?_) (a' := ?_) #[true, true, true, true, true, true, true, true, true, true, true, true, true, true, true, true, true, true, true, true, true, true, true, true, true, true] rfl rfl (any_of HT_.out (by kernel_rfl)) (fun _ _ _ h => h) (Or.inl ⟨by rfl, ?_⟩) ?_ ?_
             rotate_left
             ·
              intro w'
              go_simp
              with_reducible rfl
             rotate_left
             ·
              simp only [Act.put, List.setIfInBounds_toArray, List.set_cons_zero, List.set_cons_succ, i64_w, i32_w]
              rfl
             refine done_ (done_of HT_.out (by kernel_rfl)) ?_
             try go_wp2
             go_meet
             case rel => exact ⟨_, (true), (by first | rfl | (simp; done) | (simp [*]; done)), H', ⟨by have := HK1.out; have := HJ16.out; first | omega | exact Nat.le_refl _⟩, ⟨by (with_reducible repeat (first | apply Kd.R_alloc | apply Kd.R_drewN | apply Kd.R_drew)); exact HO_4.out⟩, ⟨by refine bl_ ?_; exact BK409.out⟩, ⟨be_ HB.out⟩⟩
         case rest => as_aux_lemma =>
          clear HC47
          try clear c2
          try clear p2
          try clear c5
          try clear c20
          try clear c22
          try clear c54
          try clear c54b0
          try clear c58
          try clear c58b0
          try clear c58b1
          obtain ⟨kq, x111_46, rfl, HA, HJ46, HO_4, BK409, HB⟩ := hcut
          cases kq with
          | zero => exact absurd HA.out (by simp [laws_FnWaits.j2])
          | succ kj46 =>
           have H := HA.out
           clear HA
           simp only [laws_FnWaits.j2] at H
           by_cases c69 : x111_46 = true
           ·
            subst c69
            have H1 : (some false) = some r := by rw [if_pos rfl] at H; exact H
            clear H
            have H := H1
            clear H1
            obtain rfl := Option.some.inj H
            go_wp2
            go_ret
            exact ⟨by first | rfl | (simp [errW_none, errW_some] <;> rfl) | (simp [*, errW_none, errW_some] <;> rfl), be_ HB.out⟩
           ·
            replace c69 := Bool.eq_false_iff.mpr c69
            subst c69
            have H1 : ((impl_WaitSum.f kj46 t392 t393 t394 t395 t396 t397 t398 t399 t400 t401 t402 t403 t404 t405 x6_1).bind fun t424 => ((impl_WaitSum.f kj46 t392 t393 t394 t395 t396 t397 t398 t399 t400 t401 t402 t403 t404 t405 (wrap64 (x6_1 - 1))).bind fun t425 => ((impl_AddTick.f t425 t415).bind fun t426 => (if t424 = t426 then (laws_FnWaits.l0 kj46 l0 t406 t414 (wrap64 (x6_1 + 1)) t392 t393 t394 t395 t396 t397 t398 t399 t400 t401 t402 t403 t404 t405) else (some false))))) = some r := by rw [if_neg (show ¬ (false = true) by decide)] at H; exact H
            clear H
            have H := H1
            clear H1
            replace H := Option.bind_eq_some_iff.mp H
            obtain ⟨t424, A700, H⟩ := H
            replace H : ((impl_WaitSum.f kj46 t392 t393 t394 t395 t396 t397 t398 t399 t400 t401 t402 t403 t404 t405 (wrap64 (x6_1 - 1))).bind fun t425 => ((impl_AddTick.f t425 t415).bind fun t426 => (if t424 = t426 then (laws_FnWaits.l0 kj46 l0 t406 t414 (wrap64 (x6_1 + 1)) t392 t393 t394 t395 t396 t397 t398 t399 t400 t401 t402 t403 t404 t405) else (some false)))) = some r := H
            have A70 := Aside0.mk A700
            clear A700
            replace H := Option.bind_eq_some_iff.mp H
            obtain ⟨t425, A710, H⟩ := H
            replace H : ((impl_AddTick.f t425 t415).bind fun t426 => (if t424 = t426 then (laws_FnWaits.l0 kj46 l0 t406 t414 (wrap64 (x6_1 + 1)) t392 t393 t394 t395 t396 t397 t398 t399 t400 t401 t402 t403 t404 t405) else (some false))) = some r := H
            have A71 := Aside0.mk A710
            clear A710
            replace H := Option.bind_eq_some_iff.mp H
            obtain ⟨t426, A720, H⟩ := H
            replace H : (if t424 = t426 then (laws_FnWaits.l0 kj46 l0 t406 t414 (wrap64 (x6_1 + 1)) t392 t393 t394 t395 t396 t397 t398 t399 t400 t401 t402 t403 t404 t405) else (some false)) = some r := H
            have A72 := Aside0.mk A720
            clear A720
            by_cases c73 : t424 = t426
            ·
             rw [if_pos c73] at H
             have c73b0 : (t424 == t426) = true := beq_iff_eq.mpr c73
             have c73b1 : (t424 != t426) = false := bne_eq_false_iff_eq.mpr c73
             clear c73
             have H' := Aside0.mk H
             clear H
             try go_wp2
             have n0_ := Aside0.mk (Kd.R_drew HO_4.out)
             have n1_ := Aside0.mk (blk_drew BK409.out)
             have n2_ := Aside0.mk (below_drew1 HB.out)
             clear HO_4
             clear BK409
             clear HB
             have HO_4 := n0_
             have BK409 := n1_
             have HB := n2_
             clear n0_ n1_ n2_
             refine start_ (n := 10) (S := fun w' => w'.cell? ⟨gb409, 0, none⟩ = some (.int .i64 t392) ∧ w'.cell? ⟨gb409, 1, none⟩ = some (.int .i64 t393) ∧ w'.cell? ⟨gb409, 2, none⟩ = some (.int .i64 t394) ∧ w'.cell? ⟨gb409, 3, none⟩ = some (.int .i64 t395) ∧ w'.cell? ⟨gb409, 4, none⟩ = some (.int .i64 t396) ∧ w'.cell? ⟨gb409, 5, none⟩ = some (.int .i64 t397) ∧ w'.cell? ⟨gb409, 6, none⟩ = some (.int .i64 t398) ∧ w'.cell? ⟨gb409, 7, none⟩ = some (.int .i64 t399) ∧ w'.cell? ⟨gb409, 8, none⟩ = some (.int .i64 t400) ∧ w'.cell? ⟨gb409, 9, none⟩ = some (.int .i64 t401) ∧ w'.cell? ⟨gb409, 10, none⟩ = some (.int .i64 t402) ∧ w'.cell? ⟨gb409, 11, none⟩ = some (.int .i64 t403) ∧ w'.cell? ⟨gb409, 12, none⟩ = some (.int .i64 t404) ∧ w'.cell? ⟨gb409, 13, none⟩ = some (.int .i64 t405)) (ds := []) #[false, false, false, false, false, false, false, false, false, false] (by kernel_rfl) rfl rfl ⟨(blk_cell BK409.out 0).trans rfl, (blk_cell BK409.out 1).trans rfl, (blk_cell BK409.out 2).trans rfl, (blk_cell BK409.out 3).trans rfl, (blk_cell BK409.out 4).trans rfl, (blk_cell BK409.out 5).trans rfl, (blk_cell BK409.out 6).trans rfl, (blk_cell BK409.out 7).trans rfl, (blk_cell BK409.out 8).trans rfl, (blk_cell BK409.out 9).trans rfl, (blk_cell BK409.out 10).trans rfl, (blk_cell BK409.out 11).trans rfl, (blk_cell BK409.out 12).trans rfl, (blk_cell BK409.out 13).trans rfl⟩ (fun hHeld => ?_); refine with_tabW laws_FnWaits.tab17 laws_FnWaits.bits17 (fun HT_ HW_ => ?_)
             generalize wc.drew = w74 at HO_4 BK409 HB hHeld ⊢
             refine pure_ (i := 1) (N := some 113) (v := ?_) (a' := ?_) #[false, true, false, false, false, false, false, false, false, false] rfl rfl (any_of HT_.out (by kernel_rfl)) (fun _ _ _ h => h) (Or.inl ⟨by rfl, ?_⟩) ?_ ?_
             rotate_left
             ·
              intro w'
              go_simp
              with_reducible rfl
             rotate_left
             ·
              simp only [Act.put, List.setIfInBounds_toArray, List.set_cons_zero, List.set_cons_succ, i64_w, i32_w]
              rfl
             refine pure_ (i := 4) (N := some 116) (v := ?_) (a' := ?_) #[false, true, false, false, true, false, false, false, false, false] rfl rfl (any_of HT_.out (by kernel_rfl)) (fun _ _ _ h => h) (Or.inl ⟨by rfl, ?_⟩) ?_ ?_
             rotate_left
             ·
              intro w'
              go_simp
              with_reducible rfl
             rotate_left
             ·
              simp only [Act.put, List.setIfInBounds_toArray, List.set_cons_zero, List.set_cons_succ, i64_w, i32_w]
              rfl
             refine pure_ (i := 5) (N := some 117) (v := ?_) (a' := ?_) #[false, true, false, false, true, true, false, false, false, false] rfl rfl (any_of HT_.out (by kernel_rfl)) (fun _ _ _ h => h) (Or.inl ⟨by rfl, ?_⟩) ?_ ?_
             rotate_left
             ·
              intro w'
              go_simp
              with_reducible rfl
             rotate_left
             ·
              simp only [Act.put, List.setIfInBounds_toArray, List.set_cons_zero, List.set_cons_succ, i64_w, i32_w]
              rfl
             refine pure_ (i := 7) (N := some 119) (v := ?_) (a' := ?_) #[false, true, false, false, true, true, false, true, false, false] rfl rfl (any_of HT_.out (by kernel_rfl)) (fun _ _ _ h => h) (Or.inl ⟨by rfl, ?_⟩) ?_ ?_
             rotate_left
             ·
              intro w'
              go_simp
              with_reducible rfl
             rotate_left
             ·
              simp only [Act.put, List.setIfInBounds_toArray, List.set_cons_zero, List.set_cons_succ, i64_w, i32_w]
              rfl
             refine take_ (i := 0) (N := some 112) (v := ?_) (a' := ?_) #[true, true, false, false, true, true, false, true, false, false] rfl rfl (take_ofW HT_.out HW_.out (by kernel_rfl)) (fun _ _ _ h => h) (Or.inl ⟨by rfl, ?_⟩) hHeld ?_ ?_
             rotate_left
             ·
              rintro w' ⟨s0, s1, s2, s3, s4, s5, s6, s7, s8, s9, s10, s11, s12, s13⟩
              go_simp
              with_reducible rfl
             rotate_left
             ·
              simp only [Act.put, List.setIfInBounds_toArray, List.set_cons_zero, List.set_cons_succ, i64_w, i32_w]
              rfl
             refine take_ (i := 3) (N := some 115) (v := ?_) (a' := ?_) #[true, true, false, true, true, true, false, true, false, false] rfl rfl (take_ofW HT_.out HW_.out (by kernel_rfl)) (fun _ _ _ h => h) (Or.inl ⟨by rfl, ?_⟩) hHeld ?_ ?_
             rotate_left
             ·
              rintro w' ⟨s0, s1, s2, s3, s4, s5, s6, s7, s8, s9, s10, s11, s12, s13⟩
              go_simp
              with_reducible rfl
             rotate_left
             ·
              simp only [Act.put, List.setIfInBounds_toArray, List.set_cons_zero, List.set_cons_succ, i64_w, i32_w]
              rfl
             refine one_ (i := 2) (N := some 114) #[true, true, true, true, true, true, false, true, false, false] rfl rfl (one_of HT_.out (by kernel_rfl)) (by decide) (fun K hK => ?_)
             refine goes_ Try.func29 (by kernel_rfl) rfl #[.agg #[.int .i64 t392, .int .i64 t393, .int .i64 t394, .int .i64 t395, .int .i64 t396, .int .i64 t397, .int .i64 t398, .int .i64 t399, .int .i64 t400, .int .i64 t401, .int .i64 t402, .int .i64 t403, .int .i64 t404, .int .i64 t405], .int .i64 x6_1] (by rfl) rfl rfl (by (try simp only [List.map_toArray, List.map_cons, List.map_nil]); first | done | rfl | (simp only [List.length_drop, List.length_take]; rfl)) ?_
             with_reducible refine (impl_WaitSum.calls kj46 t392 t393 t394 t395 t396 t397 t398 t399 t400 t401 t402 t403 t404 t405 x6_1 t424 _ A70.out).mono ?_
             rintro e w75 ⟨rfl, hb⟩
             refine ⟨_, rfl, ?_⟩
             have n0_ := Aside0.mk (Kd.R_below (ro_ HO_4.out) hb)
             have n1_ := Aside0.mk (blk_below (bl_ BK409.out) hb)
             have n2_ := Aside0.mk (below_step (be_ HB.out) hb)
             clear HO_4
             clear BK409
             clear HB
             have HO_4 := n0_
             have BK409 := n1_
             have HB := n2_
             clear n0_ n1_ n2_
             (try clear hb)
             (try clear hb2)
             (try clear hk)
             (try clear hi)
             refine hK.out _ _ ⟨(blk_cell BK409.out 0).trans rfl, (blk_cell BK409.out 1).trans rfl, (blk_cell BK409.out 2).trans rfl, (blk_cell BK409.out 3).trans rfl, (blk_cell BK409.out 4).trans rfl, (blk_cell BK409.out 5).trans rfl, (blk_cell BK409.out 6).trans rfl, (blk_cell BK409.out 7).trans rfl, (blk_cell BK409.out 8).trans rfl, (blk_cell BK409.out 9).trans rfl, (blk_cell BK409.out 10).trans rfl, (blk_cell BK409.out 11).trans rfl, (blk_cell BK409.out 12).trans rfl, (blk_cell BK409.out 13).trans rfl⟩ (fun hHeld => ?_)
             clear hK K
             refine norm_ (a' := ?_) ?_ ?_
             rotate_left
             ·
              show Act.put _ (some 114) _ = _
              simp only [Act.put, List.setIfInBounds_toArray, List.set_cons_zero, List.set_cons_succ, i64_w, i32_w]
              rfl
             refine one_ (i := 6) (N := some 118) #[true, true, true, true, true, true, true, true, false, false] rfl rfl (one_of HT_.out (by kernel_rfl)) (by decide) (fun K hK => ?_)
             refine goes_ Try.func29 (by kernel_rfl) rfl #[.agg #[.int .i64 t392, .int .i64 t393, .int .i64 t394, .int .i64 t395, .int .i64 t396, .int .i64 t397, .int .i64 t398, .int .i64 t399, .int .i64 t400, .int .i64 t401, .int .i64 t402, .int .i64 t403, .int .i64 t404, .int .i64 t405], .int .i64 (wrap64 (x6_1 - 1))] (by rfl) rfl rfl (by (try simp only [List.map_toArray, List.map_cons, List.map_nil]); first | done | rfl | (simp only [List.length_drop, List.length_take]; rfl)) ?_
             with_reducible refine (impl_WaitSum.calls kj46 t392 t393 t394 t395 t396 t397 t398 t399 t400 t401 t402 t403 t404 t405 (wrap64 (x6_1 - 1)) t425 _ A71.out).mono ?_
             rintro e w76 ⟨rfl, hb⟩
             refine ⟨_, rfl, ?_⟩
             have n0_ := Aside0.mk (Kd.R_below (ro_ HO_4.out) hb)
             have n1_ := Aside0.mk (blk_below (bl_ BK409.out) hb)
             have n2_ := Aside0.mk (below_step (be_ HB.out) hb)
             clear HO_4
             clear BK409
             clear HB
             have HO_4 := n0_
             have BK409 := n1_
             have HB := n2_
             clear n0_ n1_ n2_
             (try clear hb)
             (try clear hb2)
             (try clear hk)
             (try clear hi)
             refine hK.out _ _ ⟨(blk_cell BK409.out 0).trans rfl, (blk_cell BK409.out 1).trans rfl, (blk_cell BK409.out 2).trans rfl, (blk_cell BK409.out 3).trans rfl, (blk_cell BK409.out 4).trans rfl, (blk_cell BK409.out 5).trans rfl, (blk_cell BK409.out 6).trans rfl, (blk_cell BK409.out 7).trans rfl, (blk_cell BK409.out 8).trans rfl, (blk_cell BK409.out 9).trans rfl, (blk_cell BK409.out 10).trans rfl, (blk_cell BK409.out 11).trans rfl, (blk_cell BK409.out 12).trans rfl, (blk_cell BK409.out 13).trans rfl⟩ (fun hHeld => ?_)
             clear hK K
             refine norm_ (a' := ?_) ?_ ?_
             rotate_left
             ·
              show Act.put _ (some 118) _ = _
              simp only [Act.put, List.setIfInBounds_toArray, List.set_cons_zero, List.set_cons_succ, i64_w, i32_w]
              rfl
             refine one_ (i := 8) (N := some 120) #[true, true, true, true, true, true, true, true, true, false] rfl rfl (one_of HT_.out (by kernel_rfl)) (by decide) (fun K hK => ?_)
             refine goes_ Try.func38 (by kernel_rfl) rfl #[.int .i64 t425, .int .i64 t415] (by rfl) rfl rfl (by (try simp only [List.map_toArray, List.map_cons, List.map_nil]); first | done | rfl | (simp only [List.length_drop, List.length_take]; rfl)) ?_
             with_reducible refine (impl_AddTick.calls t425 t415 t426 _ A72.out).mono ?_
             rintro e w77 ⟨rfl, hb⟩
             refine ⟨_, rfl, ?_⟩
             have n0_ := Aside0.mk (Kd.R_below (ro_ HO_4.out) hb)
             have n1_ := Aside0.mk (blk_below (bl_ BK409.out) hb)
             have n2_ := Aside0.mk (below_step (be_ HB.out) hb)
             clear HO_4
             clear BK409
             clear HB
             have HO_4 := n0_
             have BK409 := n1_
             have HB := n2_
             clear n0_ n1_ n2_
             (try clear hb)
             (try clear hb2)
             (try clear hk)
             (try clear hi)
             refine hK.out _ _ ⟨(blk_cell BK409.out 0).trans rfl, (blk_cell BK409.out 1).trans rfl, (blk_cell BK409.out 2).trans rfl, (blk_cell BK409.out 3).trans rfl, (blk_cell BK409.out 4).trans rfl, (blk_cell BK409.out 5).trans rfl, (blk_cell BK409.out 6).trans rfl, (blk_cell BK409.out 7).trans rfl, (blk_cell BK409.out 8).trans rfl, (blk_cell BK409.out 9).trans rfl, (blk_cell BK409.out 10).trans rfl, (blk_cell BK409.out 11).trans rfl, (blk_cell BK409.out 12).trans rfl, (blk_cell BK409.out 13).trans rfl⟩ (fun hHeld => ?_)
             clear hK K
             refine norm_ (a' := ?_) ?_ ?_
             rotate_left
             ·
              show Act.put _ (some 120) _ = _
              simp only [Act.put, List.setIfInBounds_toArray, List.set_cons_zero, List.set_cons_succ, i64_w, i32_w]
              rfl
             refine pure_ (i := 9) (N := some 121) (v := ?_) (a' := ?_) #[true, true, true, true, true, true, true, true, true, true] rfl rfl (any_of HT_.out (by kernel_rfl)) (fun _ _ _ h => h) (Or.inl ⟨by rfl, ?_⟩) ?_ ?_
             rotate_left
             ·
              intro w'
              go_simp
              with_reducible rfl
             rotate_left
             ·
              simp only [Act.put, List.setIfInBounds_toArray, List.set_cons_zero, List.set_cons_succ, i64_w, i32_w]
              rfl
             refine done_ (done_of HT_.out (by kernel_rfl)) ?_
             try go_wp2
             go_roundg kj46
             case measure => have := HK1.out; have := HJ16.out; have := HJ46.out; omega
             case rel => exact ⟨(wrap64 (x6_1 + 1)), (by first | rfl | (simp; done) | (simp [*]; done)), H', ⟨by have := HK1.out; have := HJ16.out; have := HJ46.out; omega⟩, ⟨by (with_reducible repeat (first | apply Kd.R_alloc | apply Kd.R_drewN | apply Kd.R_drew)); exact HO_4.out⟩, ⟨by refine bl_ ?_; exact BK409.out⟩, ⟨be_ HB.out⟩⟩
            ·
             rw [if_neg c73] at H
             have c73b0 : (t424 == t426) = false := beq_eq_false_iff_ne.mpr c73
             have c73b1 : (t424 != t426) = true := bne_iff_ne.mpr c73
             obtain rfl := Option.some.inj H
             try go_wp2
             have n0_ := Aside0.mk (Kd.R_drew HO_4.out)
             have n1_ := Aside0.mk (blk_drew BK409.out)
             have n2_ := Aside0.mk (below_drew1 HB.out)
             clear HO_4
             clear BK409
             clear HB
             have HO_4 := n0_
             have BK409 := n1_
             have HB := n2_
             clear n0_ n1_ n2_
             refine start_ (n := 10) (S := fun w' => w'.cell? ⟨gb409, 0, none⟩ = some (.int .i64 t392) ∧ w'.cell? ⟨gb409, 1, none⟩ = some (.int .i64 t393) ∧ w'.cell? ⟨gb409, 2, none⟩ = some (.int .i64 t394) ∧ w'.cell? ⟨gb409, 3, none⟩ = some (.int .i64 t395) ∧ w'.cell? ⟨gb409, 4, none⟩ = some (.int .i64 t396) ∧ w'.cell? ⟨gb409, 5, none⟩ = some (.int .i64 t397) ∧ w'.cell? ⟨gb409, 6, none⟩ = some (.int .i64 t398) ∧ w'.cell? ⟨gb409, 7, none⟩ = some (.int .i64 t399) ∧ w'.cell? ⟨gb409, 8, none⟩ = some (.int .i64 t400) ∧ w'.cell? ⟨gb409, 9, none⟩ = some (.int .i64 t401) ∧ w'.cell? ⟨gb409, 10, none⟩ = some (.int .i64 t402) ∧ w'.cell? ⟨gb409, 11, none⟩ = some (.int .i64 t403) ∧ w'.cell? ⟨gb409, 12, none⟩ = some (.int .i64 t404) ∧ w'.cell? ⟨gb409, 13, none⟩ = some (.int .i64 t405)) (ds := []) #[false, false, false, false, false, false, false, false, false, false] (by kernel_rfl) rfl rfl ⟨(blk_cell BK409.out 0).trans rfl, (blk_cell BK409.out 1).trans rfl, (blk_cell BK409.out 2).trans rfl, (blk_cell BK409.out 3).trans rfl, (blk_cell BK409.out 4).trans rfl, (blk_cell BK409.out 5).trans rfl, (blk_cell BK409.out 6).trans rfl, (blk_cell BK409.out 7).trans rfl, (blk_cell BK409.out 8).trans rfl, (blk_cell BK409.out 9).trans rfl, (blk_cell BK409.out 10).trans rfl, (blk_cell BK409.out 11).trans rfl, (blk_cell BK409.out 12).trans rfl, (blk_cell BK409.out 13).trans rfl⟩ (fun hHeld => ?_); refine with_tabW laws_FnWaits.tab17 laws_FnWaits.bits17 (fun HT_ HW_ => ?_)
             generalize wc.drew = w78 at HO_4 BK409 HB hHeld ⊢
             refine pure_ (i := 1) (N := some 113) (v := ?_) (a' := ?_) #[false, true, false, false, false, false, false, false, false, false] rfl rfl (any_of HT_.out (by kernel_rfl)) (fun _ _ _ h => h) (Or.inl ⟨by rfl, ?_⟩) ?_ ?_
             rotate_left
             ·
              intro w'
              go_simp
              with_reducible rfl
             rotate_left
             ·
              simp only [Act.put, List.setIfInBounds_toArray, List.set_cons_zero, List.set_cons_succ, i64_w, i32_w]
              rfl
             refine pure_ (i := 4) (N := some 116) (v := ?_) (a' := ?_) #[false, true, false, false, true, false, false, false, false, false] rfl rfl (any_of HT_.out (by kernel_rfl)) (fun _ _ _ h => h) (Or.inl ⟨by rfl, ?_⟩) ?_ ?_
             rotate_left
             ·
              intro w'
              go_simp
              with_reducible rfl
             rotate_left
             ·
              simp only [Act.put, List.setIfInBounds_toArray, List.set_cons_zero, List.set_cons_succ, i64_w, i32_w]
              rfl
             refine pure_ (i := 5) (N := some 117) (v := ?_) (a' := ?_) #[false, true, false, false, true, true, false, false, false, false] rfl rfl (any_of HT_.out (by kernel_rfl)) (fun _ _ _ h => h) (Or.inl ⟨by rfl, ?_⟩) ?_ ?_
             rotate_left
             ·
              intro w'
              go_simp
              with_reducible rfl
             rotate_left
             ·
              simp only [Act.put, List.setIfInBounds_toArray, List.set_cons_zero, List.set_cons_succ, i64_w, i32_w]
              rfl
             refine pure_ (i := 7) (N := some 119) (v := ?_) (a' := ?_) #[false, true, false, false, true, true, false, true, false, false] rfl rfl (any_of HT_.out (by kernel_rfl)) (fun _ _ _ h => h) (Or.inl ⟨by rfl, ?_⟩) ?_ ?_
             rotate_left
             ·
              intro w'
              go_simp
              with_reducible rfl
             rotate_left
             ·
              simp only [Act.put, List.setIfInBounds_toArray, List.set_cons_zero, List.set_cons_succ, i64_w, i32_w]
              rfl
             refine take_ (i := 0) (N := some 112) (v := ?_) (a' := ?_) #[true, true, false, false, true, true, false, true, false, false] rfl rfl (take_ofW HT_.out HW_.out (by kernel_rfl)) (fun _ _ _ h => h) (Or.inl ⟨by rfl, ?_⟩) hHeld ?_ ?_
             rotate_left
             ·
              rintro w' ⟨s0, s1, s2, s3, s4, s5, s6, s7, s8, s9, s10, s11, s12, s13⟩
              go_simp
              with_reducible rfl
             rotate_left
             ·
              simp only [Act.put, List.setIfInBounds_toArray, List.set_cons_zero, List.set_cons_succ, i64_w, i32_w]
              rfl
             refine take_ (i := 3) (N := some 115) (v := ?_) (a' := ?_) #[true, true, false, true, true, true, false, true, false, false] rfl rfl (take_ofW HT_.out HW_.out (by kernel_rfl)) (fun _ _ _ h => h) (Or.inl ⟨by rfl, ?_⟩) hHeld ?_ ?_
             rotate_left
             ·
              rintro w' ⟨s0, s1, s2, s3, s4, s5, s6, s7, s8, s9, s10, s11, s12, s13⟩
              go_simp
              with_reducible rfl
             rotate_left
             ·
              simp only [Act.put, List.setIfInBounds_toArray, List.set_cons_zero, List.set_cons_succ, i64_w, i32_w]
              rfl
             refine one_ (i := 2) (N := some 114) #[true, true, true, true, true, true, false, true, false, false] rfl rfl (one_of HT_.out (by kernel_rfl)) (by decide) (fun K hK => ?_)
             refine goes_ Try.func29 (by kernel_rfl) rfl #[.agg #[.int .i64 t392, .int .i64 t393, .int .i64 t394, .int .i64 t395, .int .i64 t396, .int .i64 t397, .int .i64 t398, .int .i64 t399, .int .i64 t400, .int .i64 t401, .int .i64 t402, .int .i64 t403, .int .i64 t404, .int .i64 t405], .int .i64 x6_1] (by rfl) rfl rfl (by (try simp only [List.map_toArray, List.map_cons, List.map_nil]); first | done | rfl | (simp only [List.length_drop, List.length_take]; rfl)) ?_
             with_reducible refine (impl_WaitSum.calls kj46 t392 t393 t394 t395 t396 t397 t398 t399 t400 t401 t402 t403 t404 t405 x6_1 t424 _ A70.out).mono ?_
             rintro e w79 ⟨rfl, hb⟩
             refine ⟨_, rfl, ?_⟩
             have n0_ := Aside0.mk (Kd.R_below (ro_ HO_4.out) hb)
             have n1_ := Aside0.mk (blk_below (bl_ BK409.out) hb)
             have n2_ := Aside0.mk (below_step (be_ HB.out) hb)
             clear HO_4
             clear BK409
             clear HB
             have HO_4 := n0_
             have BK409 := n1_
             have HB := n2_
             clear n0_ n1_ n2_
             (try clear hb)
             (try clear hb2)
             (try clear hk)
             (try clear hi)
             refine hK.out _ _ ⟨(blk_cell BK409.out 0).trans rfl, (blk_cell BK409.out 1).trans rfl, (blk_cell BK409.out 2).trans rfl, (blk_cell BK409.out 3).trans rfl, (blk_cell BK409.out 4).trans rfl, (blk_cell BK409.out 5).trans rfl, (blk_cell BK409.out 6).trans rfl, (blk_cell BK409.out 7).trans rfl, (blk_cell BK409.out 8).trans rfl, (blk_cell BK409.out 9).trans rfl, (blk_cell BK409.out 10).trans rfl, (blk_cell BK409.out 11).trans rfl, (blk_cell BK409.out 12).trans rfl, (blk_cell BK409.out 13).trans rfl⟩ (fun hHeld => ?_)
             clear hK K
             refine norm_ (a' := ?_) ?_ ?_
             rotate_left
             ·
              show Act.put _ (some 114) _ = _
              simp only [Act.put, List.setIfInBounds_toArray, List.set_cons_zero, List.set_cons_succ, i64_w, i32_w]
              rfl
             refine one_ (i := 6) (N := some 118) #[true, true, true, true, true, true, true, true, false, false] rfl rfl (one_of HT_.out (by kernel_rfl)) (by decide) (fun K hK => ?_)
             refine goes_ Try.func29 (by kernel_rfl) rfl #[.agg #[.int .i64 t392, .int .i64 t393, .int .i64 t394, .int .i64 t395, .int .i64 t396, .int .i64 t397, .int .i64 t398, .int .i64 t399, .int .i64 t400, .int .i64 t401, .int .i64 t402, .int .i64 t403, .int .i64 t404, .int .i64 t405], .int .i64 (wrap64 (x6_1 - 1))] (by rfl) rfl rfl (by (try simp only [List.map_toArray, List.map_cons, List.map_nil]); first | done | rfl | (simp only [List.length_drop, List.length_take]; rfl)) ?_
             with_reducible refine (impl_WaitSum.calls kj46 t392 t393 t394 t395 t396 t397 t398 t399 t400 t401 t402 t403 t404 t405 (wrap64 (x6_1 - 1)) t425 _ A71.out).mono ?_
             rintro e w80 ⟨rfl, hb⟩
             refine ⟨_, rfl, ?_⟩
             have n0_ := Aside0.mk (Kd.R_below (ro_ HO_4.out) hb)
             have n1_ := Aside0.mk (blk_below (bl_ BK409.out) hb)
             have n2_ := Aside0.mk (below_step (be_ HB.out) hb)
             clear HO_4
             clear BK409
             clear HB
             have HO_4 := n0_
             have BK409 := n1_
             have HB := n2_
             clear n0_ n1_ n2_
             (try clear hb)
             (try clear hb2)
             (try clear hk)
             (try clear hi)
             refine hK.out _ _ ⟨(blk_cell BK409.out 0).trans rfl, (blk_cell BK409.out 1).trans rfl, (blk_cell BK409.out 2).trans rfl, (blk_cell BK409.out 3).trans rfl, (blk_cell BK409.out 4).trans rfl, (blk_cell BK409.out 5).trans rfl, (blk_cell BK409.out 6).trans rfl, (blk_cell BK409.out 7).trans rfl, (blk_cell BK409.out 8).trans rfl, (blk_cell BK409.out 9).trans rfl, (blk_cell BK409.out 10).trans rfl, (blk_cell BK409.out 11).trans rfl, (blk_cell BK409.out 12).trans rfl, (blk_cell BK409.out 13).trans rfl⟩ (fun hHeld => ?_)
             clear hK K
             refine norm_ (a' := ?_) ?_ ?_
             rotate_left
             ·
              show Act.put _ (some 118) _ = _
              simp only [Act.put, List.setIfInBounds_toArray, List.set_cons_zero, List.set_cons_succ, i64_w, i32_w]
              rfl
             refine one_ (i := 8) (N := some 120) #[true, true, true, true, true, true, true, true, true, false] rfl rfl (one_of HT_.out (by kernel_rfl)) (by decide) (fun K hK => ?_)
             refine goes_ Try.func38 (by kernel_rfl) rfl #[.int .i64 t425, .int .i64 t415] (by rfl) rfl rfl (by (try simp only [List.map_toArray, List.map_cons, List.map_nil]); first | done | rfl | (simp only [List.length_drop, List.length_take]; rfl)) ?_
             with_reducible refine (impl_AddTick.calls t425 t415 t426 _ A72.out).mono ?_
             rintro e w81 ⟨rfl, hb⟩
             refine ⟨_, rfl, ?_⟩
             have n0_ := Aside0.mk (Kd.R_below (ro_ HO_4.out) hb)
             have n1_ := Aside0.mk (blk_below (bl_ BK409.out) hb)
             have n2_ := Aside0.mk (below_step (be_ HB.out) hb)
             clear HO_4
             clear BK409
             clear HB
             have HO_4 := n0_
             have BK409 := n1_
             have HB := n2_
             clear n0_ n1_ n2_
             (try clear hb)
             (try clear hb2)
             (try clear hk)
             (try clear hi)
             refine hK.out _ _ ⟨(blk_cell BK409.out 0).trans rfl, (blk_cell BK409.out 1).trans rfl, (blk_cell BK409.out 2).trans rfl, (blk_cell BK409.out 3).trans rfl, (blk_cell BK409.out 4).trans rfl, (blk_cell BK409.out 5).trans rfl, (blk_cell BK409.out 6).trans rfl, (blk_cell BK409.out 7).trans rfl, (blk_cell BK409.out 8).trans rfl, (blk_cell BK409.out 9).trans rfl, (blk_cell BK409.out 10).trans rfl, (blk_cell BK409.out 11).trans rfl, (blk_cell BK409.out 12).trans rfl, (blk_cell BK409.out 13).trans rfl⟩ (fun hHeld => ?_)
             clear hK K
             refine norm_ (a' := ?_) ?_ ?_
             rotate_left
             ·
              show Act.put _ (some 120) _ = _
              simp only [Act.put, List.setIfInBounds_toArray, List.set_cons_zero, List.set_cons_succ, i64_w, i32_w]
              rfl
             refine pure_ (i := 9) (N := some 121) (v := ?_) (a' := ?_) #[true, true, true, true, true, true, true, true, true, true] rfl rfl (any_of HT_.out (by kernel_rfl)) (fun _ _ _ h => h) (Or.inl ⟨by rfl, ?_⟩) ?_ ?_
             rotate_left
             ·
              intro w'
              go_simp
              with_reducible rfl
             rotate_left
             ·
              simp only [Act.put, List.setIfInBounds_toArray, List.set_cons_zero, List.set_cons_succ, i64_w, i32_w]
              rfl
             refine done_ (done_of HT_.out (by kernel_rfl)) ?_
             try go_wp2
             go_ret
             exact ⟨by first | rfl | (simp [errW_none, errW_some] <;> rfl) | (simp [*, errW_none, errW_some] <;> rfl), be_ HB.out⟩
     ·
      rw [if_neg c14] at H
      have c14b0 : decide (x6_1 < 12) = false := decide_eq_false c14
      clear c14
      replace H := Option.bind_eq_some_iff.mp H
      obtain ⟨t427, A820, H⟩ := H
      replace H : (if (t406.length : Int) > 300 then (some ((t427.length : Int) == 0)) else (if (t427.length : Int) = (wrap64 ((t406.length : Int) + 1)) then (if 0 < (t427.length : Int) then (laws_FnWaits.j3 k1 t406 t427 ((rd t427 0) != 0) t392 t393 t394 t395 t396 t397 t398 t399 t400 t401 t402 t403 t404 t405) else (none)) else (laws_FnWaits.j3 k1 t406 t427 true t392 t393 t394 t395 t396 t397 t398 t399 t400 t401 t402 t403 t404 t405))) = some r := H
      have A82 := Aside0.mk A820
      clear A820
      by_cases c83 : (t406.length : Int) > 300
      ·
       rw [if_pos c83] at H
       have c83b0 : decide (300 < (t406.length : Int)) = true := decide_eq_true c83
       have c83b1 : decide (300 < t406.length) = true := decide_eq_true (by omega)
       clear c83
       obtain rfl := Option.some.inj H
       obtain ⟨hcz84_0, hcz84_1, hcz84_2, hcz84_3, hcz84_4, hcz84_5, hcz84_6, hcz84_7, hcz84_8, hcz84_9, hcz84_10, hcz84_11, hcz84_12, hcz84_13, hfz84_0, hfz84_1, hfz84_2, hfz84_3, hfz84_4, hfz84_5, hfz84_6, hfz84_7, hfz84_8, hfz84_9, hfz84_10, hfz84_11, hfz84_12, hfz84_13⟩ := cz14_ BK409.out
       obtain ⟨Ao85, co85, eo85⟩ := Kd.R_slice HO_4.out
       subst eo85
       go_wp2_with (first | ((with_reducible refine gate_callee (f := 31) rfl ?_); refine goesL_ (some 124) rfl rfl Try.func31 (by kernel_rfl) rfl #[.agg #[.int .i64 t392, .int .i64 t393, .int .i64 t394, .int .i64 t395, .int .i64 t396, .int .i64 t397, .int .i64 t398, .int .i64 t399, .int .i64 t400, .int .i64 t401, .int .i64 t402, .int .i64 t403, .int .i64 t404, .int .i64 t405], .slice Ao85 t406.length co85] rfl (by (try simp only [List.map_toArray, List.map_cons, List.map_nil]); first | done | rfl | (simp only [List.length_drop, List.length_take]; rfl)) ?_; (with_reducible refine (impl_Redials.calls k1 t392 t393 t394 t395 t396 t397 t398 t399 t400 t401 t402 t403 t404 t405 _ _ t406 t427 _ ?side1 ?side2 A82.out).mono ?_); (case side1 => repeat (first | exact (Kd.R_reads' HO_4.out).2.2 | (with_reducible refine Kd.C_alloc ?_ _) | (with_reducible refine Kd.C_drewN ?_ _) | (with_reducible refine Kd.C_drew ?_))); (case side2 => exact (Kd.R_reads' HO_4.out).2.1); rintro e w86 ⟨v428, rfl, ho0, hb⟩; refine ⟨_, rfl, ?_⟩; have n0_ := Aside0.mk (Kd.R_elder' (ro_ HO_4.out) (Kd.R_base ho0) hb); have n1_ := Aside0.mk (Kd.R_lower (Kd.R_new' ho0 (Kd.R_lt (ro_ HO_4.out))) (below_size (be_ HB.out))); have n2_ := Aside0.mk (blk_below (bl_ BK409.out) hb); have n3_ := Aside0.mk (below_step (be_ HB.out) hb); clear HO_4 BK409 HB; have HO_4 := n0_; have HO429 := n1_; have BK409 := n2_; have HB := n3_; clear n0_ n1_ n2_ n3_; (try clear hb); (try clear hb2); (try clear hk); (try clear hi); (try clear ho0); obtain ⟨Ao87, co87, eo87⟩ := Kd.R_slice HO429.out; subst eo87))
       go_ret
       exact ⟨by first | rfl | (simp [errW_none, errW_some] <;> rfl) | (simp [*, errW_none, errW_some] <;> rfl), be_ HB.out⟩
      ·
       rw [if_neg c83] at H
       have c83b0 : decide (300 < (t406.length : Int)) = false := decide_eq_false c83
       have c83b1 : decide (300 < t406.length) = false := decide_eq_false (by omega)
       clear c83
       have HC88 := Aside0.mk H
       clear H
       obtain ⟨hcz89_0, hcz89_1, hcz89_2, hcz89_3, hcz89_4, hcz89_5, hcz89_6, hcz89_7, hcz89_8, hcz89_9, hcz89_10, hcz89_11, hcz89_12, hcz89_13, hfz89_0, hfz89_1, hfz89_2, hfz89_3, hfz89_4, hfz89_5, hfz89_6, hfz89_7, hfz89_8, hfz89_9, hfz89_10, hfz89_11, hfz89_12, hfz89_13⟩ := cz14_ BK409.out
       obtain ⟨Ao90, co90, eo90⟩ := Kd.R_slice HO_4.out
       subst eo90
       go_upto_region 22 with (first | ((with_reducible refine gate_callee (f := 31) rfl ?_); refine goesL_ (some 124) rfl rfl Try.func31 (by kernel_rfl) rfl #[.agg #[.int .i64 t392, .int .i64 t393, .int .i64 t394, .int .i64 t395, .int .i64 t396, .int .i64 t397, .int .i64 t398, .int .i64 t399, .int .i64 t400, .int .i64 t401, .int .i64 t402, .int .i64 t403, .int .i64 t404, .int .i64 t405], .slice Ao90 t406.length co90] rfl (by (try simp only [List.map_toArray, List.map_cons, List.map_nil]); first | done | rfl | (simp only [List.length_drop, List.length_take]; rfl)) ?_; (with_reducible refine (impl_Redials.calls k1 t392 t393 t394 t395 t396 t397 t398 t399 t400 t401 t402 t403 t404 t405 _ _ t406 t427 _ ?side1 ?side2 A82.out).mono ?_); (case side1 => repeat (first | exact (Kd.R_reads' HO_4.out).2.2 | (with_reducible refine Kd.C_alloc ?_ _) | (with_reducible refine Kd.C_drewN ?_ _) | (with_reducible refine Kd.C_drew ?_))); (case side2 => exact (Kd.R_reads' HO_4.out).2.1); rintro e w91 ⟨v428, rfl, ho0, hb⟩; refine ⟨_, rfl, ?_⟩; have n0_ := Aside0.mk (Kd.R_elder' (ro_ HO_4.out) (Kd.R_base ho0) hb); have n1_ := Aside0.mk (Kd.R_lower (Kd.R_new' ho0 (Kd.R_lt (ro_ HO_4.out))) (below_size (be_ HB.out))); have n2_ := Aside0.mk (blk_below (bl_ BK409.out) hb); have n3_ := Aside0.mk (below_step (be_ HB.out) hb); clear HO_4 BK409 HB; have HO_4 := n0_; have HO429 := n1_; have BK409 := n2_; have HB := n3_; clear n0_ n1_ n2_ n3_; (try clear hb); (try clear hb2); (try clear hk); (try clear hi); (try clear ho0)))
       (try simp only [Act.put, List.setIfInBounds_toArray, List.set_cons_zero, List.set_cons_succ])
       go_cut [142] (fun zv142 wc => ∃ (kq : Nat) (x142_87 : Bool), zv142 = .bool x142_87 ∧ Aside0 (laws_FnWaits.j3 kq t406 t427 x142_87 t392 t393 t394 t395 t396 t397 t398 t399 t400 t401 t402 t403 t404 t405 = some r) ∧ Aside0 (kq ≤ k1) ∧ Aside0 (Kd.R (Kd.int .i64) 3 wc w.heap.size (fun k_ => some k_ ≠ (v428 : Value).ownBlock) (.slice Ao90 t406.length co90) t406) ∧ Aside0 (Kd.R (Kd.int .i64) 3 wc w.heap.size (fun k_ => some k_ ≠ ((.slice Ao90 t406.length co90) : Value).ownBlock) v428 t427) ∧ Aside0 (wc.heap[gb409]? = some (.cells #[.int .i64 t392, .int .i64 t393, .int .i64 t394, .int .i64 t395, .int .i64 t396, .int .i64 t397, .int .i64 t398, .int .i64 t399, .int .i64 t400, .int .i64 t401, .int .i64 t402, .int .i64 t403, .int .i64 t404, .int .i64 t405] 30 (0, 0))) ∧ Aside0 (Below w.heap.size w wc))
       case first => as_aux_lemma =>
        have H := HC88.out
        clear HC88
        by_cases c92 : (t427.length : Int) = (wrap64 ((t406.length : Int) + 1))
        ·
         rw [if_pos c92] at H
         have c92b0 : ((t427.length : Int) == (wrap64 ((t406.length : Int) + 1))) = true := beq_iff_eq.mpr c92
         have c92b1 : ((t427.length : Int) != (wrap64 ((t406.length : Int) + 1))) = false := bne_eq_false_iff_eq.mpr c92
         clear c92
         (first | rw [c92b0] | (simp only [i64_w, i32_w]; rw [c92b0]) | skip)
         by_cases c93 : 0 < (t427.length : Int)
         ·
          rw [if_pos c93] at H
          have c93b0 : decide (0 < (t427.length : Int)) = true := decide_eq_true c93
          have c93b1 : decide (0 < t427.length) = true := decide_eq_true (by omega)
          clear c93
          have H' := Aside0.mk H
          clear H
          obtain ⟨Ao94, co94, eo94⟩ := Kd.R_slice HO429.out
          subst eo94
          have p430 : 0 ≤ (0 : Int) := (by omega)
          have q430 : 0 < (t427.length : Int) := of_decide_eq_true (by first | (with_reducible assumption) | assumption)
          obtain ⟨ad430, e430, hx430_0⟩ := Kd.at_int (Kd.R_reads' HO429.out).2.2 0 p430 q430
          cases e430
          have qi430 : (0 < t427.length) = True := eq_true (by omega)
          (try rw [show ((0 : Int)).toNat = 0 from rfl] at hx430_0)
          (try rw [Addr.add_zero'] at hx430_0)
          replace p430 := eq_true p430
          replace q430 := eq_true q430
          go_wp2
          go_meet
          case rel => exact ⟨_, (((rd t427 0) != 0)), (by first | rfl | (simp; done) | (simp [*]; done)), H', ⟨by have := HK1.out; first | omega | exact Nat.le_refl _⟩, ⟨by (with_reducible repeat (first | apply Kd.R_alloc | apply Kd.R_drewN | apply Kd.R_drew)); exact Kd.R_mono HO_4.out (fun _ hk => hk.2)⟩, ⟨by (with_reducible repeat (first | apply Kd.R_alloc | apply Kd.R_drewN | apply Kd.R_drew)); exact Kd.R_mono HO429.out (fun _ hk => hk.2)⟩, ⟨by refine bl_ ?_; exact BK409.out⟩, ⟨be_ HB.out⟩⟩
         ·
          rw [if_neg c93] at H
          exact absurd H (by simp)
        ·
         rw [if_neg c92] at H
         have c92b0 : ((t427.length : Int) == (wrap64 ((t406.length : Int) + 1))) = false := beq_eq_false_iff_ne.mpr c92
         have c92b1 : ((t427.length : Int) != (wrap64 ((t406.length : Int) + 1))) = true := bne_iff_ne.mpr c92
         (first | rw [c92b0] | (simp only [i64_w, i32_w]; rw [c92b0]) | skip)
         have H' := Aside0.mk H
         clear H
         obtain ⟨Ao95, co95, eo95⟩ := Kd.R_slice HO429.out
         subst eo95
         go_wp2
         go_meet
         case rel => exact ⟨_, (true), (by first | rfl | (simp; done) | (simp [*]; done)), H', ⟨by have := HK1.out; first | omega | exact Nat.le_refl _⟩, ⟨by (with_reducible repeat (first | apply Kd.R_alloc | apply Kd.R_drewN | apply Kd.R_drew)); exact Kd.R_mono HO_4.out (fun _ hk => hk.2)⟩, ⟨by (with_reducible repeat (first | apply Kd.R_alloc | apply Kd.R_drewN | apply Kd.R_drew)); exact Kd.R_mono HO429.out (fun _ hk => hk.2)⟩, ⟨by refine bl_ ?_; exact BK409.out⟩, ⟨be_ HB.out⟩⟩
       case rest => as_aux_lemma =>
        clear HC88
        try clear c1
        try clear c2
        try clear p2
        try clear c3
        try clear p4
        try clear q4
        try clear hx4
        try clear qi4
        try clear c5
        try clear c6
        try clear p6
        try clear c7
        try clear c8
        try clear c9
        try clear c14
        try clear c14b0
        try clear c20
        try clear c22
        try clear c29
        try clear c31
        try clear c38
        try clear p43
        try clear q43
        try clear hx43
        try clear qi43
        try clear c54
        try clear c54b0
        try clear c58
        try clear c58b0
        try clear c58b1
        try clear p64
        try clear c69
        try clear c73
        try clear c73b0
        try clear c73b1
        try clear c83
        try clear c83b0
        try clear c83b1
        try clear c92
        try clear c92b0
        try clear c92b1
        try clear c93
        try clear c93b0
        try clear c93b1
        try clear hcz84_0
        try clear hcz84_1
        try clear hcz84_10
        try clear hcz84_11
        try clear hcz84_12
        try clear hcz84_13
        try clear hcz84_2
        try clear hcz84_3
        try clear hcz84_4
        try clear hcz84_5
        try clear hcz84_6
        try clear hcz84_7
        try clear hcz84_8
        try clear hcz84_9
        try clear hcz89_0
        try clear hcz89_1
        try clear hcz89_10
        try clear hcz89_11
        try clear hcz89_12
        try clear hcz89_13
        try clear hcz89_2
        try clear hcz89_3
        try clear hcz89_4
        try clear hcz89_5
        try clear hcz89_6
        try clear hcz89_7
        try clear hcz89_8
        try clear hcz89_9
        try clear hfz84_0
        try clear hfz84_1
        try clear hfz84_10
        try clear hfz84_11
        try clear hfz84_12
        try clear hfz84_13
        try clear hfz84_2
        try clear hfz84_3
        try clear hfz84_4
        try clear hfz84_5
        try clear hfz84_6
        try clear hfz84_7
        try clear hfz84_8
        try clear hfz84_9
        try clear hfz89_0
        try clear hfz89_1
        try clear hfz89_10
        try clear hfz89_11
        try clear hfz89_12
        try clear hfz89_13
        try clear hfz89_2
        try clear hfz89_3
        try clear hfz89_4
        try clear hfz89_5
        try clear hfz89_6
        try clear hfz89_7
        try clear hfz89_8
        try clear hfz89_9
        try clear hx430_0
        try clear p2
        try clear p430
        try clear q430
        obtain ⟨kq, x142_87, rfl, HA, HJ87, HO_4, HO_10, BK409, HB⟩ := hcut
        cases kq with
        | zero => exact absurd HA.out (by simp [laws_FnWaits.j3])
        | succ kj87 =>
         have H := HA.out
         clear HA
         simp only [laws_FnWaits.j3] at H
         by_cases c96 : x142_87 = true
         ·
          subst c96
          have H1 : (some false) = some r := by rw [if_pos rfl] at H; exact H
          clear H
          have H := H1
          clear H1
          obtain rfl := Option.some.inj H
          go_wp2
          go_ret
          exact ⟨by first | rfl | (simp [errW_none, errW_some] <;> rfl) | (simp [*, errW_none, errW_some] <;> rfl), be_ HB.out⟩
         ·
          replace c96 := Bool.eq_false_iff.mpr c96
          subst c96
          have H1 : (laws_FnWaits.l1 kj87 t406 t427 0 t392 t393 t394 t395 t396 t397 t398 t399 t400 t401 t402 t403 t404 t405) = some r := by rw [if_neg (show ¬ (false = true) by decide)] at H; exact H
          clear H
          have H := H1
          clear H1
          have H' := Aside0.mk H
          clear H
          go_wp2
          go_loopg [11] kj87 (fun kq zv11 w' => ∃ (x11_3 : Int), zv11 = .int .i64 x11_3 ∧ Aside0 (laws_FnWaits.l1 kq t406 t427 x11_3 t392 t393 t394 t395 t396 t397 t398 t399 t400 t401 t402 t403 t404 t405 = some r) ∧ Aside0 (kq ≤ kj87) ∧ Aside0 (Kd.R (Kd.int .i64) 3 w' w.heap.size (fun k_ => some k_ ≠ (v428 : Value).ownBlock) (.slice Ao90 t406.length co90) t406) ∧ Aside0 (Kd.R (Kd.int .i64) 3 w' w.heap.size (fun k_ => some k_ ≠ ((.slice Ao90 t406.length co90) : Value).ownBlock) v428 t427) ∧ Aside0 (w'.heap[gb409]? = some (.cells #[.int .i64 t392, .int .i64 t393, .int .i64 t394, .int .i64 t395, .int .i64 t396, .int .i64 t397, .int .i64 t398, .int .i64 t399, .int .i64 t400, .int .i64 t401, .int .i64 t402, .int .i64 t403, .int .i64 t404, .int .i64 t405] 30 (0, 0))) ∧ Aside0 (Below w.heap.size w w'))
          case atStart => exact ⟨(0), (by first | rfl | (simp; done) | (simp [*]; done)), H', ⟨Nat.le_refl _⟩, ⟨by (with_reducible repeat (first | apply Kd.R_alloc | apply Kd.R_drewN | apply Kd.R_drew)); exact HO_4.out⟩, ⟨by (with_reducible repeat (first | apply Kd.R_alloc | apply Kd.R_drewN | apply Kd.R_drew)); exact HO_10.out⟩, ⟨by refine bl_ ?_; exact BK409.out⟩, ⟨be_ HB.out⟩⟩
          case round => as_aux_lemma =>
           clear H'
           try clear c1
           try clear c2
           try clear p2
           try clear c3
           try clear p4
           try clear q4
           try clear hx4
           try clear qi4
           try clear c5
           try clear c6
           try clear p6
           try clear c7
           try clear c8
           try clear c9
           try clear c14
           try clear c14b0
           try clear c20
           try clear c22
           try clear c29
           try clear c31
           try clear c38
           try clear p43
           try clear q43
           try clear hx43
           try clear qi43
           try clear c54
           try clear c54b0
           try clear c58
           try clear c58b0
           try clear c58b1
           try clear p64
           try clear c69
           try clear c73
           try clear c73b0
           try clear c73b1
           try clear c83
           try clear c83b0
           try clear c83b1
           try clear c92
           try clear c92b0
           try clear c92b1
           try clear c93
           try clear c93b0
           try clear c93b1
           try clear c96
           try clear hcz84_0
           try clear hcz84_1
           try clear hcz84_10
           try clear hcz84_11
           try clear hcz84_12
           try clear hcz84_13
           try clear hcz84_2
           try clear hcz84_3
           try clear hcz84_4
           try clear hcz84_5
           try clear hcz84_6
           try clear hcz84_7
           try clear hcz84_8
           try clear hcz84_9
           try clear hcz89_0
           try clear hcz89_1
           try clear hcz89_10
           try clear hcz89_11
           try clear hcz89_12
           try clear hcz89_13
           try clear hcz89_2
           try clear hcz89_3
           try clear hcz89_4
           try clear hcz89_5
           try clear hcz89_6
           try clear hcz89_7
           try clear hcz89_8
           try clear hcz89_9
           try clear hfz84_0
           try clear hfz84_1
           try clear hfz84_10
           try clear hfz84_11
           try clear hfz84_12
           try clear hfz84_13
           try clear hfz84_2
           try clear hfz84_3
           try clear hfz84_4
           try clear hfz84_5
           try clear hfz84_6
           try clear hfz84_7
           try clear hfz84_8
           try clear hfz84_9
           try clear hfz89_0
           try clear hfz89_1
           try clear hfz89_10
           try clear hfz89_11
           try clear hfz89_12
           try clear hfz89_13
           try clear hfz89_2
           try clear hfz89_3
           try clear hfz89_4
           try clear hfz89_5
           try clear hfz89_6
           try clear hfz89_7
           try clear hfz89_8
           try clear hfz89_9
           try clear hx430_0
           try clear p2
           try clear p4
           try clear p43
           try clear p430
           try clear p6
           try clear p64
           try clear q4
           try clear q43
           try clear q430
           obtain ⟨x11_3, rfl, HA, HK3, HO_4, HO_10, BK409, HB⟩ := hrel
           cases gk with
           | zero => exact absurd HA.out (by simp [laws_FnWaits.l1])
           | succ k3 =>
            have H := HA.out
            clear HA
            simp only [laws_FnWaits.l1] at H
            by_cases c97 : x11_3 < (t406.length : Int)
            ·
             rw [if_pos c97] at H
             have c97b0 : decide (x11_3 < (t406.length : Int)) = true := decide_eq_true c97
             clear c97
             obtain ⟨ji98, hji98⟩ : ∃ j_ : Int, (wrap64 (x11_3 + 1)) = j_ := ⟨_, rfl⟩
             replace H : (if 0 ≤ (ji98) then (if (ji98) < (t427.length : Int) then (if 0 ≤ x11_3 then (if x11_3 < (t427.length : Int) then ((impl_JitteredWait.f k3 t392 t393 t394 t395 t396 t397 t398 t399 t400 t401 t402 t403 t404 t405 (ji98) (rd t406 x11_3)).bind fun t434 => ((impl_AddTick.f (rd t427 x11_3) t434).bind fun t435 => (if (rd t427 (ji98)) = t435 then (laws_FnWaits.l1 k3 t406 t427 ji98 t392 t393 t394 t395 t396 t397 t398 t399 t400 t401 t402 t403 t404 t405) else (some false)))) else (none)) else (none)) else (none)) else (none)) = some r := by first | (rw [hji98] at H; exact H) | (simp only [hji98] at H ⊢; exact H)
             have hji98w : (IntKind.i64.wrap (x11_3 + 1)) = ji98 := (i64_w _).trans hji98
             by_cases c99 : 0 ≤ (ji98)
             ·
              rw [if_pos c99] at H
              have c99b0 : decide (0 ≤ (ji98)) = true := decide_eq_true c99
              clear c99
              by_cases c100 : (ji98) < (t427.length : Int)
              ·
               rw [if_pos c100] at H
               have c100b0 : decide ((ji98) < (t427.length : Int)) = true := decide_eq_true c100
               clear c100
               by_cases c101 : 0 ≤ x11_3
               ·
                rw [if_pos c101] at H
                have c101b0 : decide (0 ≤ x11_3) = true := decide_eq_true c101
                clear c101
                by_cases c102 : x11_3 < (t427.length : Int)
                ·
                 rw [if_pos c102] at H
                 have c102b0 : decide (x11_3 < (t427.length : Int)) = true := decide_eq_true c102
                 clear c102
                 replace H := Option.bind_eq_some_iff.mp H
                 obtain ⟨t434, A1030, H⟩ := H
                 replace H : ((impl_AddTick.f (rd t427 x11_3) t434).bind fun t435 => (if (rd t427 (ji98)) = t435 then (laws_FnWaits.l1 k3 t406 t427 ji98 t392 t393 t394 t395 t396 t397 t398 t399 t400 t401 t402 t403 t404 t405) else (some false))) = some r := H
                 have A103 := Aside0.mk A1030
                 clear A1030
                 replace H := Option.bind_eq_some_iff.mp H
                 obtain ⟨t435, A1040, H⟩ := H
                 replace H : (if (rd t427 (ji98)) = t435 then (laws_FnWaits.l1 k3 t406 t427 ji98 t392 t393 t394 t395 t396 t397 t398 t399 t400 t401 t402 t403 t404 t405) else (some false)) = some r := H
                 have A104 := Aside0.mk A1040
                 clear A1040
                 by_cases c105 : (rd t427 (ji98)) = t435
                 ·
                  rw [if_pos c105] at H
                  have c105b0 : ((rd t427 (ji98)) == t435) = true := beq_iff_eq.mpr c105
                  have c105b1 : ((rd t427 (ji98)) != t435) = false := bne_eq_false_iff_eq.mpr c105
                  clear c105
                  have H' := Aside0.mk H
                  clear H
                  try go_wp2
                  have n0_ := Aside0.mk (Kd.R_drew HO_4.out)
                  have n1_ := Aside0.mk (Kd.R_drew HO_10.out)
                  have n2_ := Aside0.mk (blk_drew BK409.out)
                  have n3_ := Aside0.mk (below_drew1 HB.out)
                  clear HO_4
                  clear HO_10
                  clear BK409
                  clear HB
                  have HO_4 := n0_
                  have HO_10 := n1_
                  have BK409 := n2_
                  have HB := n3_
                  clear n0_ n1_ n2_ n3_
                  obtain ⟨Ao107, co107, eo107⟩ := Kd.R_slice HO_10.out
                  (first | subst eo107 | (injection eo107 with f1_ f2_ f3_; have f4_ := f1_.symm; have f5_ := f3_.symm; clear f1_ f2_ f3_; subst f4_; subst f5_))
                  have p431 : 0 ≤ ((ji98) : Int) := of_decide_eq_true (by first | (with_reducible assumption) | assumption)
                  have q431 : (ji98) < (t427.length : Int) := of_decide_eq_true (by first | (with_reducible assumption) | assumption)
                  obtain ⟨ad431, e431, hx431_0⟩ := Kd.at_int (Kd.R_reads' HO_10.out).2.2 (ji98) p431 q431
                  cases e431
                  replace p431 := eq_true p431
                  replace q431 := eq_true q431
                  have p432 : 0 ≤ (x11_3 : Int) := of_decide_eq_true (by first | (with_reducible assumption) | assumption)
                  have q432 : x11_3 < (t427.length : Int) := of_decide_eq_true (by first | (with_reducible assumption) | assumption)
                  obtain ⟨ad432, e432, hx432_0⟩ := Kd.at_int (Kd.R_reads' HO_10.out).2.2 x11_3 p432 q432
                  obtain rfl : ad431 = ad432 := (by injection e432)
                  replace p432 := eq_true p432
                  replace q432 := eq_true q432
                  have p433 : 0 ≤ (x11_3 : Int) := of_decide_eq_true (by first | (with_reducible assumption) | assumption)
                  have q433 : x11_3 < (t406.length : Int) := of_decide_eq_true (by first | (with_reducible assumption) | assumption)
                  obtain ⟨ad433, e433, hx433_0⟩ := Kd.at_int (Kd.R_reads' HO_4.out).2.2 x11_3 p433 q433
                  cases e433
                  replace p433 := eq_true p433
                  replace q433 := eq_true q433
                  refine start_ (n := 19) (S := fun w' => w'.cell? ⟨gb409, 0, none⟩ = some (.int .i64 t392) ∧ w'.cell? ⟨gb409, 1, none⟩ = some (.int .i64 t393) ∧ w'.cell? ⟨gb409, 2, none⟩ = some (.int .i64 t394) ∧ w'.cell? ⟨gb409, 3, none⟩ = some (.int .i64 t395) ∧ w'.cell? ⟨gb409, 4, none⟩ = some (.int .i64 t396) ∧ w'.cell? ⟨gb409, 5, none⟩ = some (.int .i64 t397) ∧ w'.cell? ⟨gb409, 6, none⟩ = some (.int .i64 t398) ∧ w'.cell? ⟨gb409, 7, none⟩ = some (.int .i64 t399) ∧ w'.cell? ⟨gb409, 8, none⟩ = some (.int .i64 t400) ∧ w'.cell? ⟨gb409, 9, none⟩ = some (.int .i64 t401) ∧ w'.cell? ⟨gb409, 10, none⟩ = some (.int .i64 t402) ∧ w'.cell? ⟨gb409, 11, none⟩ = some (.int .i64 t403) ∧ w'.cell? ⟨gb409, 12, none⟩ = some (.int .i64 t404) ∧ w'.cell? ⟨gb409, 13, none⟩ = some (.int .i64 t405) ∧ w'.cell? (ad431.add ((ji98)).toNat) = some (.int .i64 (rd t427 (ji98))) ∧ w'.cell? (ad431.add (x11_3).toNat) = some (.int .i64 (rd t427 x11_3)) ∧ w'.cell? (ad433.add (x11_3).toNat) = some (.int .i64 (rd t406 x11_3))) (ds := []) #[false, false, false, false, false, false, false, false, false, false, false, false, false, false, false, false, false, false, false] (by kernel_rfl) rfl rfl ⟨(blk_cell BK409.out 0).trans rfl, (blk_cell BK409.out 1).trans rfl, (blk_cell BK409.out 2).trans rfl, (blk_cell BK409.out 3).trans rfl, (blk_cell BK409.out 4).trans rfl, (blk_cell BK409.out 5).trans rfl, (blk_cell BK409.out 6).trans rfl, (blk_cell BK409.out 7).trans rfl, (blk_cell BK409.out 8).trans rfl, (blk_cell BK409.out 9).trans rfl, (blk_cell BK409.out 10).trans rfl, (blk_cell BK409.out 11).trans rfl, (blk_cell BK409.out 12).trans rfl, (blk_cell BK409.out 13).trans rfl, hx431_0, hx432_0, hx433_0⟩ (fun hHeld => ?_); refine with_tabW laws_FnWaits.tab27 laws_FnWaits.bits27 (fun HT_ HW_ => ?_)
                  generalize wr.drew = w106 at HO_4 HO_10 BK409 HB hx431_0 hx432_0 hx433_0 hHeld ⊢
                  refine pure_ (i := 0) (N := some 149) (v := ?_) (a' := ?_) #[true, false, false, false, false, false, false, false, false, false, false, false, false, false, false, false, false, false, false] rfl rfl (any_of HT_.out (by kernel_rfl)) (fun _ _ _ h => h) (Or.inl ⟨by rfl, ?_⟩) ?_ ?_
                  rotate_left
                  ·
                   intro w'
                   go_simp
                   with_reducible rfl
                  rotate_left
                  ·
                   simp only [Act.put, List.setIfInBounds_toArray, List.set_cons_zero, List.set_cons_succ, i64_w, i32_w]
                   rfl
                  refine pure_ (i := 1) (N := some 150) (v := ?_) (a' := ?_) #[true, true, false, false, false, false, false, false, false, false, false, false, false, false, false, false, false, false, false] rfl rfl (any_of HT_.out (by kernel_rfl)) (fun _ _ _ h => h) (Or.inl ⟨by rfl, ?_⟩) ?_ ?_
                  rotate_left
                  ·
                   intro w'
                   go_simp
                   with_reducible rfl
                  rotate_left
                  ·
                   simp only [Act.put, List.setIfInBounds_toArray, List.set_cons_zero, List.set_cons_succ, i64_w, i32_w]
                   rfl
                  refine pure_ (i := 2) (N := some 151) (v := ?_) (a' := ?_) #[true, true, true, false, false, false, false, false, false, false, false, false, false, false, false, false, false, false, false] rfl rfl (any_of HT_.out (by kernel_rfl)) (fun _ _ _ h => h) (Or.inl ⟨by rfl, ?_⟩) ?_ ?_
                  rotate_left
                  ·
                   intro w'
                   go_simp
                   with_reducible rfl
                  rotate_left
                  ·
                   simp only [Act.put, List.setIfInBounds_toArray, List.set_cons_zero, List.set_cons_succ, i64_w, i32_w]
                   rfl
                  refine pure_ (i := 3) (N := some 152) (v := ?_) (a' := ?_) #[true, true, true, true, false, false, false, false, false, false, false, false, false, false, false, false, false, false, false] rfl rfl (any_of HT_.out (by kernel_rfl)) (fun _ _ _ h => h) (Or.inl ⟨by rfl, ?_⟩) ?_ ?_
                  rotate_left
                  ·
                   intro w'
                   go_simp
                   with_reducible rfl
                  rotate_left
                  ·
                   simp only [Act.put, List.setIfInBounds_toArray, List.set_cons_zero, List.set_cons_succ, i64_w, i32_w]
                   rfl
                  refine pure_ (i := 5) (N := some 154) (v := ?_) (a' := ?_) #[true, true, true, true, false, true, false, false, false, false, false, false, false, false, false, false, false, false, false] rfl rfl (any_of HT_.out (by kernel_rfl)) (fun _ _ _ h => h) (Or.inl ⟨by rfl, ?_⟩) ?_ ?_
                  rotate_left
                  ·
                   intro w'
                   go_simp
                   with_reducible rfl
                  rotate_left
                  ·
                   simp only [Act.put, List.setIfInBounds_toArray, List.set_cons_zero, List.set_cons_succ, i64_w, i32_w]
                   rfl
                  refine pure_ (i := 6) (N := some 155) (v := ?_) (a' := ?_) #[true, true, true, true, false, true, true, false, false, false, false, false, false, false, false, false, false, false, false] rfl rfl (any_of HT_.out (by kernel_rfl)) (fun _ _ _ h => h) (Or.inl ⟨by rfl, ?_⟩) ?_ ?_
                  rotate_left
                  ·
                   intro w'
                   go_simp
                   with_reducible rfl
                  rotate_left
                  ·
                   simp only [Act.put, List.setIfInBounds_toArray, List.set_cons_zero, List.set_cons_succ, i64_w, i32_w]
                   rfl
                  refine pure_ (i := 7) (N := some 156) (v := ?_) (a' := ?_) #[true, true, true, true, false, true, true, true, false, false, false, false, false, false, false, false, false, false, false] rfl rfl (any_of HT_.out (by kernel_rfl)) (fun _ _ _ h => h) (Or.inl ⟨by rfl, ?_⟩) ?_ ?_
                  rotate_left
                  ·
                   intro w'
                   go_simp
                   with_reducible rfl
                  rotate_left
                  ·
                   simp only [Act.put, List.setIfInBounds_toArray, List.set_cons_zero, List.set_cons_succ, i64_w, i32_w]
                   rfl
                  refine pure_ (i := 10) (N := some 159) (v := ?_) (a' := ?_) #[true, true, true, true, false, true, true, true, false, false, true, false, false, false, false, false, false, false, false] rfl rfl (any_of HT_.out (by kernel_rfl)) (fun _ _ _ h => h) (Or.inl ⟨by rfl, ?_⟩) ?_ ?_
                  rotate_left
                  ·
                   intro w'
                   go_simp
                   with_reducible rfl
                  rotate_left
                  ·
                   simp only [Act.put, List.setIfInBounds_toArray, List.set_cons_zero, List.set_cons_succ, i64_w, i32_w]
                   rfl
                  refine pure_ (i := 11) (N := some 160) (v := ?_) (a' := ?_) #[true, true, true, true, false, true, true, true, false, false, true, true, false, false, false, false, false, false, false] rfl rfl (any_of HT_.out (by kernel_rfl)) (fun _ _ _ h => h) (Or.inl ⟨by rfl, ?_⟩) ?_ ?_
                  rotate_left
                  ·
                   intro w'
                   go_simp
                   with_reducible rfl
                  rotate_left
                  ·
                   simp only [Act.put, List.setIfInBounds_toArray, List.set_cons_zero, List.set_cons_succ, i64_w, i32_w]
                   rfl
                  refine pure_ (i := 12) (N := some 161) (v := ?_) (a' := ?_) #[true, true, true, true, false, true, true, true, false, false, true, true, true, false, false, false, false, false, false] rfl rfl (any_of HT_.out (by kernel_rfl)) (fun _ _ _ h => h) (Or.inl ⟨by rfl, ?_⟩) ?_ ?_
                  rotate_left
                  ·
                   intro w'
                   go_simp
                   with_reducible rfl
                  rotate_left
                  ·
                   simp only [Act.put, List.setIfInBounds_toArray, List.set_cons_zero, List.set_cons_succ, i64_w, i32_w]
                   rfl
                  refine pure_ (i := 13) (N := some 162) (v := ?_) (a' := ?_) #[true, true, true, true, false, true, true, true, false, false, true, true, true, true, false, false, false, false, false] rfl rfl (any_of HT_.out (by kernel_rfl)) (fun _ _ _ h => h) (Or.inl ⟨by rfl, ?_⟩) ?_ ?_
                  rotate_left
                  ·
                   intro w'
                   go_simp
                   with_reducible rfl
                  rotate_left
                  ·
                   simp only [Act.put, List.setIfInBounds_toArray, List.set_cons_zero, List.set_cons_succ, i64_w, i32_w]
                   rfl
                  refine pure_ (i := 14) (N := some 163) (v := ?_) (a' := ?_) #[true, true, true, true, false, true, true, true, false, false, true, true, true, true, true, false, false, false, false] rfl rfl (any_of HT_.out (by kernel_rfl)) (fun _ _ _ h => h) (Or.inl ⟨by rfl, ?_⟩) ?_ ?_
                  rotate_left
                  ·
                   intro w'
                   go_simp
                   with_reducible rfl
                  rotate_left
                  ·
                   simp only [Act.put, List.setIfInBounds_toArray, List.set_cons_zero, List.set_cons_succ, i64_w, i32_w]
                   rfl
                  refine take_ (i := 4) (N := some 153) (v := ?_) (a' := ?_) #[true, true, true, true, true, true, true, true, false, false, true, true, true, true, true, false, false, false, false] rfl rfl (take_ofW HT_.out HW_.out (by kernel_rfl)) (fun _ _ _ h => h) (Or.inl ⟨by rfl, ?_⟩) hHeld ?_ ?_
                  rotate_left
                  ·
                   rintro w' ⟨s0, s1, s2, s3, s4, s5, s6, s7, s8, s9, s10, s11, s12, s13, s14, s15, s16⟩
                   go_simp
                   with_reducible rfl
                  rotate_left
                  ·
                   simp only [Act.put, List.setIfInBounds_toArray, List.set_cons_zero, List.set_cons_succ, i64_w, i32_w]
                   rfl
                  refine take_ (i := 8) (N := some 157) (v := ?_) (a' := ?_) #[true, true, true, true, true, true, true, true, true, false, true, true, true, true, true, false, false, false, false] rfl rfl (take_ofW HT_.out HW_.out (by kernel_rfl)) (fun _ _ _ h => h) (Or.inl ⟨by rfl, ?_⟩) hHeld ?_ ?_
                  rotate_left
                  ·
                   rintro w' ⟨s0, s1, s2, s3, s4, s5, s6, s7, s8, s9, s10, s11, s12, s13, s14, s15, s16⟩
                   go_simp
                   with_reducible rfl
                  rotate_left
                  ·
                   simp only [Act.put, List.setIfInBounds_toArray, List.set_cons_zero, List.set_cons_succ, i64_w, i32_w]
                   rfl
                  refine take_ (i := 9) (N := some 158) (v := ?_) (a' := ?_) #[true, true, true, true, true, true, true, true, true, true, true, true, true, true, true, false, false, false, false] rfl rfl (take_ofW HT_.out HW_.out (by kernel_rfl)) (fun _ _ _ h => h) (Or.inl ⟨by rfl, ?_⟩) hHeld ?_ ?_
                  rotate_left
                  ·
                   rintro w' ⟨s0, s1, s2, s3, s4, s5, s6, s7, s8, s9, s10, s11, s12, s13, s14, s15, s16⟩
                   go_simp
                   with_reducible rfl
                  rotate_left
                  ·
                   simp only [Act.put, List.setIfInBounds_toArray, List.set_cons_zero, List.set_cons_succ, i64_w, i32_w]
                   rfl
                  refine take_ (i := 15) (N := some 164) (v := ?_) (a' := ?_) #[true, true, true, true, true, true, true, true, true, true, true, true, true, true, true, true, false, false, false] rfl rfl (take_ofW HT_.out HW_.out (by kernel_rfl)) (fun _ _ _ h => h) (Or.inl ⟨by rfl, ?_⟩) hHeld ?_ ?_
                  rotate_left
                  ·
                   rintro w' ⟨s0, s1, s2, s3, s4, s5, s6, s7, s8, s9, s10, s11, s12, s13, s14, s15, s16⟩
                   go_simp
                   with_reducible rfl
                  rotate_left
                  ·
                   simp only [Act.put, List.setIfInBounds_toArray, List.set_cons_zero, List.set_cons_succ, i64_w, i32_w]
                   rfl
                  refine one_ (i := 16) (N := some 165) #[true, true, true, true, true, true, true, true, true, true, true, true, true, true, true, true, true, false, false] rfl rfl (one_of HT_.out (by kernel_rfl)) (by decide) (fun K hK => ?_)
                  refine goes_ Try.func22 (by kernel_rfl) rfl #[.agg #[.int .i64 t392, .int .i64 t393, .int .i64 t394, .int .i64 t395, .int .i64 t396, .int .i64 t397, .int .i64 t398, .int .i64 t399, .int .i64 t400, .int .i64 t401, .int .i64 t402, .int .i64 t403, .int .i64 t404, .int .i64 t405], .int .i64 ji98, .int .i64 (rd t406 x11_3)] (by rfl) rfl rfl (by (try simp only [List.map_toArray, List.map_cons, List.map_nil]); first | done | (simp only [hji98]; rfl) | rfl | (simp only [List.length_drop, List.length_take]; rfl)) ?_
                  with_reducible refine (impl_JitteredWait.calls k3 t392 t393 t394 t395 t396 t397 t398 t399 t400 t401 t402 t403 t404 t405 ji98 (rd t406 x11_3) t434 _ A103.out).mono ?_
                  rintro e w108 ⟨rfl, hb⟩
                  have HS14_ := (hb.cell (World.block_lt_of_cell? _ _ (hHeld.2.2.2.2.2.2.2.2.2.2.2.2.2.2.1))).trans (hHeld.2.2.2.2.2.2.2.2.2.2.2.2.2.2.1)
                  have HS15_ := (hb.cell (World.block_lt_of_cell? _ _ (hHeld.2.2.2.2.2.2.2.2.2.2.2.2.2.2.2.1))).trans (hHeld.2.2.2.2.2.2.2.2.2.2.2.2.2.2.2.1)
                  have HS16_ := (hb.cell (World.block_lt_of_cell? _ _ (hHeld.2.2.2.2.2.2.2.2.2.2.2.2.2.2.2.2))).trans (hHeld.2.2.2.2.2.2.2.2.2.2.2.2.2.2.2.2)
                  refine ⟨_, rfl, ?_⟩
                  have n0_ := Aside0.mk (Kd.R_below (ro_ HO_4.out) hb)
                  have n1_ := Aside0.mk (Kd.R_below (ro_ HO_10.out) hb)
                  have n2_ := Aside0.mk (blk_below (bl_ BK409.out) hb)
                  have n3_ := Aside0.mk (below_step (be_ HB.out) hb)
                  clear HO_4
                  clear HO_10
                  clear BK409
                  clear HB
                  have HO_4 := n0_
                  have HO_10 := n1_
                  have BK409 := n2_
                  have HB := n3_
                  clear n0_ n1_ n2_ n3_
                  (try clear hb)
                  (try clear hb2)
                  (try clear hk)
                  (try clear hi)
                  refine hK.out _ _ ⟨(blk_cell BK409.out 0).trans rfl, (blk_cell BK409.out 1).trans rfl, (blk_cell BK409.out 2).trans rfl, (blk_cell BK409.out 3).trans rfl, (blk_cell BK409.out 4).trans rfl, (blk_cell BK409.out 5).trans rfl, (blk_cell BK409.out 6).trans rfl, (blk_cell BK409.out 7).trans rfl, (blk_cell BK409.out 8).trans rfl, (blk_cell BK409.out 9).trans rfl, (blk_cell BK409.out 10).trans rfl, (blk_cell BK409.out 11).trans rfl, (blk_cell BK409.out 12).trans rfl, (blk_cell BK409.out 13).trans rfl, HS14_, HS15_, HS16_⟩ (fun hHeld => ?_)
                  clear hK K
                  refine norm_ (a' := ?_) ?_ ?_
                  rotate_left
                  ·
                   show Act.put _ (some 165) _ = _
                   simp only [Act.put, List.setIfInBounds_toArray, List.set_cons_zero, List.set_cons_succ, i64_w, i32_w]
                   rfl
                  refine one_ (i := 17) (N := some 166) #[true, true, true, true, true, true, true, true, true, true, true, true, true, true, true, true, true, true, false] rfl rfl (one_of HT_.out (by kernel_rfl)) (by decide) (fun K hK => ?_)
                  refine goes_ Try.func38 (by kernel_rfl) rfl #[.int .i64 (rd t427 x11_3), .int .i64 t434] (by rfl) rfl rfl (by (try simp only [List.map_toArray, List.map_cons, List.map_nil]); first | done | rfl | (simp only [List.length_drop, List.length_take]; rfl)) ?_
                  with_reducible refine (impl_AddTick.calls (rd t427 x11_3) t434 t435 _ A104.out).mono ?_
                  rintro e w109 ⟨rfl, hb⟩
                  have HS14_ := (hb.cell (World.block_lt_of_cell? _ _ (hHeld.2.2.2.2.2.2.2.2.2.2.2.2.2.2.1))).trans (hHeld.2.2.2.2.2.2.2.2.2.2.2.2.2.2.1)
                  have HS15_ := (hb.cell (World.block_lt_of_cell? _ _ (hHeld.2.2.2.2.2.2.2.2.2.2.2.2.2.2.2.1))).trans (hHeld.2.2.2.2.2.2.2.2.2.2.2.2.2.2.2.1)
                  have HS16_ := (hb.cell (World.block_lt_of_cell? _ _ (hHeld.2.2.2.2.2.2.2.2.2.2.2.2.2.2.2.2))).trans (hHeld.2.2.2.2.2.2.2.2.2.2.2.2.2.2.2.2)
                  refine ⟨_, rfl, ?_⟩
                  have n0_ := Aside0.mk (Kd.R_below (ro_ HO_4.out) hb)
                  have n1_ := Aside0.mk (Kd.R_below (ro_ HO_10.out) hb)
                  have n2_ := Aside0.mk (blk_below (bl_ BK409.out) hb)
                  have n3_ := Aside0.mk (below_step (be_ HB.out) hb)
                  clear HO_4
                  clear HO_10
                  clear BK409
                  clear HB
                  have HO_4 := n0_
                  have HO_10 := n1_
                  have BK409 := n2_
                  have HB := n3_
                  clear n0_ n1_ n2_ n3_
                  (try clear hb)
                  (try clear hb2)
                  (try clear hk)
                  (try clear hi)
                  refine hK.out _ _ ⟨(blk_cell BK409.out 0).trans rfl, (blk_cell BK409.out 1).trans rfl, (blk_cell BK409.out 2).trans rfl, (blk_cell BK409.out 3).trans rfl, (blk_cell BK409.out 4).trans rfl, (blk_cell BK409.out 5).trans rfl, (blk_cell BK409.out 6).trans rfl, (blk_cell BK409.out 7).trans rfl, (blk_cell BK409.out 8).trans rfl, (blk_cell BK409.out 9).trans rfl, (blk_cell BK409.out 10).trans rfl, (blk_cell BK409.out 11).trans rfl, (blk_cell BK409.out 12).trans rfl, (blk_cell BK409.out 13).trans rfl, HS14_, HS15_, HS16_⟩ (fun hHeld => ?_)
                  clear hK K
                  refine norm_ (a' := ?_) ?_ ?_
                  rotate_left
                  ·
                   show Act.put _ (some 166) _ = _
                   simp only [Act.put, List.setIfInBounds_toArray, List.set_cons_zero, List.set_cons_succ, i64_w, i32_w]
                   rfl
                  refine pure_ (i := 18) (N := some 167) (v := ?_) (a' := ?_) #[true, true, true, true, true, true, true, true, true, true, true, true, true, true, true, true, true, true, true] rfl rfl (any_of HT_.out (by kernel_rfl)) (fun _ _ _ h => h) (Or.inl ⟨by rfl, ?_⟩) ?_ ?_
                  rotate_left
                  ·
                   intro w'
                   go_simp
                   with_reducible rfl
                  rotate_left
                  ·
                   simp only [Act.put, List.setIfInBounds_toArray, List.set_cons_zero, List.set_cons_succ, i64_w, i32_w]
                   rfl
                  refine done_ (done_of HT_.out (by kernel_rfl)) ?_
                  try go_wp2
                  go_roundg k3
                  case measure => have := HK1.out; have := HJ87.out; have := HK3.out; omega
                  case rel => exact ⟨(ji98), (by first | rfl | (simp; done) | (simp only [← hji98] <;> (first | rfl | simp)) | (simp [*]; done)), H', ⟨by have := HK1.out; have := HJ87.out; have := HK3.out; omega⟩, ⟨by (with_reducible repeat (first | apply Kd.R_alloc | apply Kd.R_drewN | apply Kd.R_drew)); exact HO_4.out⟩, ⟨by (with_reducible repeat (first | apply Kd.R_alloc | apply Kd.R_drewN | apply Kd.R_drew)); exact HO_10.out⟩, ⟨by refine bl_ ?_; exact BK409.out⟩, ⟨be_ HB.out⟩⟩
                 ·
                  rw [if_neg c105] at H
                  have c105b0 : ((rd t427 (ji98)) == t435) = false := beq_eq_false_iff_ne.mpr c105
                  have c105b1 : ((rd t427 (ji98)) != t435) = true := bne_iff_ne.mpr c105
                  obtain rfl := Option.some.inj H
                  try go_wp2
                  have n0_ := Aside0.mk (Kd.R_drew HO_4.out)
                  have n1_ := Aside0.mk (Kd.R_drew HO_10.out)
                  have n2_ := Aside0.mk (blk_drew BK409.out)
                  have n3_ := Aside0.mk (below_drew1 HB.out)
                  clear HO_4
                  clear HO_10
                  clear BK409
                  clear HB
                  have HO_4 := n0_
                  have HO_10 := n1_
                  have BK409 := n2_
                  have HB := n3_
                  clear n0_ n1_ n2_ n3_
                  obtain ⟨Ao111, co111, eo111⟩ := Kd.R_slice HO_10.out
                  (first | subst eo111 | (injection eo111 with f1_ f2_ f3_; have f4_ := f1_.symm; have f5_ := f3_.symm; clear f1_ f2_ f3_; subst f4_; subst f5_))
                  have p431 : 0 ≤ ((ji98) : Int) := of_decide_eq_true (by first | (with_reducible assumption) | assumption)
                  have q431 : (ji98) < (t427.length : Int) := of_decide_eq_true (by first | (with_reducible assumption) | assumption)
                  obtain ⟨ad431, e431, hx431_0⟩ := Kd.at_int (Kd.R_reads' HO_10.out).2.2 (ji98) p431 q431
                  cases e431
                  replace p431 := eq_true p431
                  replace q431 := eq_true q431
                  have p432 : 0 ≤ (x11_3 : Int) := of_decide_eq_true (by first | (with_reducible assumption) | assumption)
                  have q432 : x11_3 < (t427.length : Int) := of_decide_eq_true (by first | (with_reducible assumption) | assumption)
                  obtain ⟨ad432, e432, hx432_0⟩ := Kd.at_int (Kd.R_reads' HO_10.out).2.2 x11_3 p432 q432
                  obtain rfl : ad431 = ad432 := (by injection e432)
                  replace p432 := eq_true p432
                  replace q432 := eq_true q432
                  have p433 : 0 ≤ (x11_3 : Int) := of_decide_eq_true (by first | (with_reducible assumption) | assumption)
                  have q433 : x11_3 < (t406.length : Int) := of_decide_eq_true (by first | (with_reducible assumption) | assumption)
                  obtain ⟨ad433, e433, hx433_0⟩ := Kd.at_int (Kd.R_reads' HO_4.out).2.2 x11_3 p433 q433
                  cases e433
                  replace p433 := eq_true p433
                  replace q433 := eq_true q433
                  refine start_ (n := 19) (S := fun w' => w'.cell? ⟨gb409, 0, none⟩ = some (.int .i64 t392) ∧ w'.cell? ⟨gb409, 1, none⟩ = some (.int .i64 t393) ∧ w'.cell? ⟨gb409, 2, none⟩ = some (.int .i64 t394) ∧ w'.cell? ⟨gb409, 3, none⟩ = some (.int .i64 t395) ∧ w'.cell? ⟨gb409, 4, none⟩ = some (.int .i64 t396) ∧ w'.cell? ⟨gb409, 5, none⟩ = some (.int .i64 t397) ∧ w'.cell? ⟨gb409, 6, none⟩ = some (.int .i64 t398) ∧ w'.cell? ⟨gb409, 7, none⟩ = some (.int .i64 t399) ∧ w'.cell? ⟨gb409, 8, none⟩ = some (.int .i64 t400) ∧ w'.cell? ⟨gb409, 9, none⟩ = some (.int .i64 t401) ∧ w'.cell? ⟨gb409, 10, none⟩ = some (.int .i64 t402) ∧ w'.cell? ⟨gb409, 11, none⟩ = some (.int .i64 t403) ∧ w'.cell? ⟨gb409, 12, none⟩ = some (.int .i64 t404) ∧ w'.cell? ⟨gb409, 13, none⟩ = some (.int .i64 t405) ∧ w'.cell? (ad431.add ((ji98)).toNat) = some (.int .i64 (rd t427 (ji98))) ∧ w'.cell? (ad431.add (x11_3).toNat) = some (.int .i64 (rd t427 x11_3)) ∧ w'.cell? (ad433.add (x11_3).toNat) = some (.int .i64 (rd t406 x11_3))) (ds := []) #[false, false, false, false, false, false, false, false, false, false, false, false, false, false, false, false, false, false, false] (by kernel_rfl) rfl rfl ⟨(blk_cell BK409.out 0).trans rfl, (blk_cell BK409.out 1).trans rfl, (blk_cell BK409.out 2).trans rfl, (blk_cell BK409.out 3).trans rfl, (blk_cell BK409.out 4).trans rfl, (blk_cell BK409.out 5).trans rfl, (blk_cell BK409.out 6).trans rfl, (blk_cell BK409.out 7).trans rfl, (blk_cell BK409.out 8).trans rfl, (blk_cell BK409.out 9).trans rfl, (blk_cell BK409.out 10).trans rfl, (blk_cell BK409.out 11).trans rfl, (blk_cell BK409.out 12).trans rfl, (blk_cell BK409.out 13).trans rfl, hx431_0, hx432_0, hx433_0⟩ (fun hHeld => ?_); refine with_tabW laws_FnWaits.tab27 laws_FnWaits.bits27 (fun HT_ HW_ => ?_)
                  generalize wr.drew = w110 at HO_4 HO_10 BK409 HB hx431_0 hx432_0 hx433_0 hHeld ⊢
                  refine pure_ (i := 0) (N := some 149) (v := ?_) (a' := ?_) #[true, false, false, false, false, false, false, false, false, false, false, false, false, false, false, false, false, false, false] rfl rfl (any_of HT_.out (by kernel_rfl)) (fun _ _ _ h => h) (Or.inl ⟨by rfl, ?_⟩) ?_ ?_
                  rotate_left
                  ·
                   intro w'
                   go_simp
                   with_reducible rfl
                  rotate_left
                  ·
                   simp only [Act.put, List.setIfInBounds_toArray, List.set_cons_zero, List.set_cons_succ, i64_w, i32_w]
                   rfl
                  refine pure_ (i := 1) (N := some 150) (v := ?_) (a' := ?_) #[true, true, false, false, false, false, false, false, false, false, false, false, false, false, false, false, false, false, false] rfl rfl (any_of HT_.out (by kernel_rfl)) (fun _ _ _ h => h) (Or.inl ⟨by rfl, ?_⟩) ?_ ?_
                  rotate_left
                  ·
                   intro w'
                   go_simp
                   with_reducible rfl
                  rotate_left
                  ·
                   simp only [Act.put, List.setIfInBounds_toArray, List.set_cons_zero, List.set_cons_succ, i64_w, i32_w]
                   rfl
                  refine pure_ (i := 2) (N := some 151) (v := ?_) (a' := ?_) #[true, true, true, false, false, false, false, false, false, false, false, false, false, false, false, false, false, false, false] rfl rfl (any_of HT_.out (by kernel_rfl)) (fun _ _ _ h => h) (Or.inl ⟨by rfl, ?_⟩) ?_ ?_
                  rotate_left
                  ·
                   intro w'
                   go_simp
                   with_reducible rfl
                  rotate_left
                  ·
                   simp only [Act.put, List.setIfInBounds_toArray, List.set_cons_zero, List.set_cons_succ, i64_w, i32_w]
                   rfl
                  refine pure_ (i := 3) (N := some 152) (v := ?_) (a' := ?_) #[true, true, true, true, false, false, false, false, false, false, false, false, false, false, false, false, false, false, false] rfl rfl (any_of HT_.out (by kernel_rfl)) (fun _ _ _ h => h) (Or.inl ⟨by rfl, ?_⟩) ?_ ?_
                  rotate_left
                  ·
                   intro w'
                   go_simp
                   with_reducible rfl
                  rotate_left
                  ·
                   simp only [Act.put, List.setIfInBounds_toArray, List.set_cons_zero, List.set_cons_succ, i64_w, i32_w]
                   rfl
                  refine pure_ (i := 5) (N := some 154) (v := ?_) (a' := ?_) #[true, true, true, true, false, true, false, false, false, false, false, false, false, false, false, false, false, false, false] rfl rfl (any_of HT_.out (by kernel_rfl)) (fun _ _ _ h => h) (Or.inl ⟨by rfl, ?_⟩) ?_ ?_
                  rotate_left
                  ·
                   intro w'
                   go_simp
                   with_reducible rfl
                  rotate_left
                  ·
                   simp only [Act.put, List.setIfInBounds_toArray, List.set_cons_zero, List.set_cons_succ, i64_w, i32_w]
                   rfl
                  refine pure_ (i := 6) (N := some 155) (v := ?_) (a' := ?_) #[true, true, true, true, false, true, true, false, false, false, false, false, false, false, false, false, false, false, false] rfl rfl (any_of HT_.out (by kernel_rfl)) (fun _ _ _ h => h) (Or.inl ⟨by rfl, ?_⟩) ?_ ?_
                  rotate_left
                  ·
                   intro w'
                   go_simp
                   with_reducible rfl
                  rotate_left
                  ·
                   simp only [Act.put, List.setIfInBounds_toArray, List.set_cons_zero, List.set_cons_succ, i64_w, i32_w]
                   rfl
                  refine pure_ (i := 7) (N := some 156) (v := ?_) (a' := ?_) #[true, true, true, true, false, true, true, true, false, false, false, false, false, false, false, false, false, false, false] rfl rfl (any_of HT_.out (by kernel_rfl)) (fun _ _ _ h => h) (Or.inl ⟨by rfl, ?_⟩) ?_ ?_
                  rotate_left
                  ·
                   intro w'
                   go_simp
                   with_reducible rfl
                  rotate_left
                  ·
                   simp only [Act.put, List.setIfInBounds_toArray, List.set_cons_zero, List.set_cons_succ, i64_w, i32_w]
                   rfl
                  refine pure_ (i := 10) (N := some 159) (v := ?_) (a' := ?_) #[true, true, true, true, false, true, true, true, false, false, true, false, false, false, false, false, false, false, false] rfl rfl (any_of HT_.out (by kernel_rfl)) (fun _ _ _ h => h) (Or.inl ⟨by rfl, ?_⟩) ?_ ?_
                  rotate_left
                  ·
                   intro w'
                   go_simp
                   with_reducible rfl
                  rotate_left
                  ·
                   simp only [Act.put, List.setIfInBounds_toArray, List.set_cons_zero, List.set_cons_succ, i64_w, i32_w]
                   rfl
                  refine pure_ (i := 11) (N := some 160) (v := ?_) (a' := ?_) #[true, true, true, true, false, true, true, true, false, false, true, true, false, false, false, false, false, false, false] rfl rfl (any_of HT_.out (by kernel_rfl)) (fun _ _ _ h => h) (Or.inl ⟨by rfl, ?_⟩) ?_ ?_
                  rotate_left
                  ·
                   intro w'
                   go_simp
                   with_reducible rfl
                  rotate_left
                  ·
                   simp only [Act.put, List.setIfInBounds_toArray, List.set_cons_zero, List.set_cons_succ, i64_w, i32_w]
                   rfl
                  refine pure_ (i := 12) (N := some 161) (v := ?_) (a' := ?_) #[true, true, true, true, false, true, true, true, false, false, true, true, true, false, false, false, false, false, false] rfl rfl (any_of HT_.out (by kernel_rfl)) (fun _ _ _ h => h) (Or.inl ⟨by rfl, ?_⟩) ?_ ?_
                  rotate_left
                  ·
                   intro w'
                   go_simp
                   with_reducible rfl
                  rotate_left
                  ·
                   simp only [Act.put, List.setIfInBounds_toArray, List.set_cons_zero, List.set_cons_succ, i64_w, i32_w]
                   rfl
                  refine pure_ (i := 13) (N := some 162) (v := ?_) (a' := ?_) #[true, true, true, true, false, true, true, true, false, false, true, true, true, true, false, false, false, false, false] rfl rfl (any_of HT_.out (by kernel_rfl)) (fun _ _ _ h => h) (Or.inl ⟨by rfl, ?_⟩) ?_ ?_
                  rotate_left
                  ·
                   intro w'
                   go_simp
                   with_reducible rfl
                  rotate_left
                  ·
                   simp only [Act.put, List.setIfInBounds_toArray, List.set_cons_zero, List.set_cons_succ, i64_w, i32_w]
                   rfl
                  refine pure_ (i := 14) (N := some 163) (v := ?_) (a' := ?_) #[true, true, true, true, false, true, true, true, false, false, true, true, true, true, true, false, false, false, false] rfl rfl (any_of HT_.out (by kernel_rfl)) (fun _ _ _ h => h) (Or.inl ⟨by rfl, ?_⟩) ?_ ?_
                  rotate_left
                  ·
                   intro w'
                   go_simp
                   with_reducible rfl
                  rotate_left
                  ·
                   simp only [Act.put, List.setIfInBounds_toArray, List.set_cons_zero, List.set_cons_succ, i64_w, i32_w]
                   rfl
                  refine take_ (i := 4) (N := some 153) (v := ?_) (a' := ?_) #[true, true, true, true, true, true, true, true, false, false, true, true, true, true, true, false, false, false, false] rfl rfl (take_ofW HT_.out HW_.out (by kernel_rfl)) (fun _ _ _ h => h) (Or.inl ⟨by rfl, ?_⟩) hHeld ?_ ?_
                  rotate_left
                  ·
                   rintro w' ⟨s0, s1, s2, s3, s4, s5, s6, s7, s8, s9, s10, s11, s12, s13, s14, s15, s16⟩
                   go_simp
                   with_reducible rfl
                  rotate_left
                  ·
                   simp only [Act.put, List.setIfInBounds_toArray, List.set_cons_zero, List.set_cons_succ, i64_w, i32_w]
                   rfl
                  refine take_ (i := 8) (N := some 157) (v := ?_) (a' := ?_) #[true, true, true, true, true, true, true, true, true, false, true, true, true, true, true, false, false, false, false] rfl rfl (take_ofW HT_.out HW_.out (by kernel_rfl)) (fun _ _ _ h => h) (Or.inl ⟨by rfl, ?_⟩) hHeld ?_ ?_
                  rotate_left
                  ·
                   rintro w' ⟨s0, s1, s2, s3, s4, s5, s6, s7, s8, s9, s10, s11, s12, s13, s14, s15, s16⟩
                   go_simp
                   with_reducible rfl
                  rotate_left
                  ·
                   simp only [Act.put, List.setIfInBounds_toArray, List.set_cons_zero, List.set_cons_succ, i64_w, i32_w]
                   rfl
                  refine take_ (i := 9) (N := some 158) (v := ?_) (a' := ?_) #[true, true, true, true, true, true, true, true, true, true, true, true, true, true, true, false, false, false, false] rfl rfl (take_ofW HT_.out HW_.out (by kernel_rfl)) (fun _ _ _ h => h) (Or.inl ⟨by rfl, ?_⟩) hHeld ?_ ?_
                  rotate_left
                  ·
                   rintro w' ⟨s0, s1, s2, s3, s4, s5, s6, s7, s8, s9, s10, s11, s12, s13, s14, s15, s16⟩
                   go_simp
                   with_reducible rfl
                  rotate_left
                  ·
                   simp only [Act.put, List.setIfInBounds_toArray, List.set_cons_zero, List.set_cons_succ, i64_w, i32_w]
                   rfl
                  refine take_ (i := 15) (N := some 164) (v := ?_) (a' := ?_) #[true, true, true, true, true, true, true, true, true, true, true, true, true, true, true, true, false, false, false] rfl rfl (take_ofW HT_.out HW_.out (by kernel_rfl)) (fun _ _ _ h => h) (Or.inl ⟨by rfl, ?_⟩) hHeld ?_ ?_
                  rotate_left
                  ·
                   rintro w' ⟨s0, s1, s2, s3, s4, s5, s6, s7, s8, s9, s10, s11, s12, s13, s14, s15, s16⟩
                   go_simp
                   with_reducible rfl
                  rotate_left
                  ·
                   simp only [Act.put, List.setIfInBounds_toArray, List.set_cons_zero, List.set_cons_succ, i64_w, i32_w]
                   rfl
                  refine one_ (i := 16) (N := some 165) #[true, true, true, true, true, true, true, true, true, true, true, true, true, true, true, true, true, false, false] rfl rfl (one_of HT_.out (by kernel_rfl)) (by decide) (fun K hK => ?_)
                  refine goes_ Try.func22 (by kernel_rfl) rfl #[.agg #[.int .i64 t392, .int .i64 t393, .int .i64 t394, .int .i64 t395, .int .i64 t396, .int .i64 t397, .int .i64 t398, .int .i64 t399, .int .i64 t400, .int .i64 t401, .int .i64 t402, .int .i64 t403, .int .i64 t404, .int .i64 t405], .int .i64 ji98, .int .i64 (rd t406 x11_3)] (by rfl) rfl rfl (by (try simp only [List.map_toArray, List.map_cons, List.map_nil]); first | done | (simp only [hji98]; rfl) | rfl | (simp only [List.length_drop, List.length_take]; rfl)) ?_
                  with_reducible refine (impl_JitteredWait.calls k3 t392 t393 t394 t395 t396 t397 t398 t399 t400 t401 t402 t403 t404 t405 ji98 (rd t406 x11_3) t434 _ A103.out).mono ?_
                  rintro e w112 ⟨rfl, hb⟩
                  have HS14_ := (hb.cell (World.block_lt_of_cell? _ _ (hHeld.2.2.2.2.2.2.2.2.2.2.2.2.2.2.1))).trans (hHeld.2.2.2.2.2.2.2.2.2.2.2.2.2.2.1)
                  have HS15_ := (hb.cell (World.block_lt_of_cell? _ _ (hHeld.2.2.2.2.2.2.2.2.2.2.2.2.2.2.2.1))).trans (hHeld.2.2.2.2.2.2.2.2.2.2.2.2.2.2.2.1)
                  have HS16_ := (hb.cell (World.block_lt_of_cell? _ _ (hHeld.2.2.2.2.2.2.2.2.2.2.2.2.2.2.2.2))).trans (hHeld.2.2.2.2.2.2.2.2.2.2.2.2.2.2.2.2)
                  refine ⟨_, rfl, ?_⟩
                  have n0_ := Aside0.mk (Kd.R_below (ro_ HO_4.out) hb)
                  have n1_ := Aside0.mk (Kd.R_below (ro_ HO_10.out) hb)
                  have n2_ := Aside0.mk (blk_below (bl_ BK409.out) hb)
                  have n3_ := Aside0.mk (below_step (be_ HB.out) hb)
                  clear HO_4
                  clear HO_10
                  clear BK409
                  clear HB
                  have HO_4 := n0_
                  have HO_10 := n1_
                  have BK409 := n2_
                  have HB := n3_
                  clear n0_ n1_ n2_ n3_
                  (try clear hb)
                  (try clear hb2)
                  (try clear hk)
                  (try clear hi)
                  refine hK.out _ _ ⟨(blk_cell BK409.out 0).trans rfl, (blk_cell BK409.out 1).trans rfl, (blk_cell BK409.out 2).trans rfl, (blk_cell BK409.out 3).trans rfl, (blk_cell BK409.out 4).trans rfl, (blk_cell BK409.out 5).trans rfl, (blk_cell BK409.out 6).trans rfl, (blk_cell BK409.out 7).trans rfl, (blk_cell BK409.out 8).trans rfl, (blk_cell BK409.out 9).trans rfl, (blk_cell BK409.out 10).trans rfl, (blk_cell BK409.out 11).trans rfl, (blk_cell BK409.out 12).trans rfl, (blk_cell BK409.out 13).trans rfl, HS14_, HS15_, HS16_⟩ (fun hHeld => ?_)
                  clear hK K
                  refine norm_ (a' := ?_) ?_ ?_
                  rotate_left
                  ·
                   show Act.put _ (some 165) _ = _
                   simp only [Act.put, List.setIfInBounds_toArray, List.set_cons_zero, List.set_cons_succ, i64_w, i32_w]
                   rfl
                  refine one_ (i := 17) (N := some 166) #[true, true, true, true, true, true, true, true, true, true, true, true, true, true, true, true, true, true, false] rfl rfl (one_of HT_.out (by kernel_rfl)) (by decide) (fun K hK => ?_)
                  refine goes_ Try.func38 (by kernel_rfl) rfl #[.int .i64 (rd t427 x11_3), .int .i64 t434] (by rfl) rfl rfl (by (try simp only [List.map_toArray, List.map_cons, List.map_nil]); first | done | rfl | (simp only [List.length_drop, List.length_take]; rfl)) ?_
                  with_reducible refine (impl_AddTick.calls (rd t427 x11_3) t434 t435 _ A104.out).mono ?_
                  rintro e w113 ⟨rfl, hb⟩
                  have HS14_ := (hb.cell (World.block_lt_of_cell? _ _ (hHeld.2.2.2.2.2.2.2.2.2.2.2.2.2.2.1))).trans (hHeld.2.2.2.2.2.2.2.2.2.2.2.2.2.2.1)
                  have HS15_ := (hb.cell (World.block_lt_of_cell? _ _ (hHeld.2.2.2.2.2.2.2.2.2.2.2.2.2.2.2.1))).trans (hHeld.2.2.2.2.2.2.2.2.2.2.2.2.2.2.2.1)
                  have HS16_ := (hb.cell (World.block_lt_of_cell? _ _ (hHeld.2.2.2.2.2.2.2.2.2.2.2.2.2.2.2.2))).trans (hHeld.2.2.2.2.2.2.2.2.2.2.2.2.2.2.2.2)
                  refine ⟨_, rfl, ?_⟩
                  have n0_ := Aside0.mk (Kd.R_below (ro_ HO_4.out) hb)
                  have n1_ := Aside0.mk (Kd.R_below (ro_ HO_10.out) hb)
                  have n2_ := Aside0.mk (blk_below (bl_ BK409.out) hb)
                  have n3_ := Aside0.mk (below_step (be_ HB.out) hb)
                  clear HO_4
                  clear HO_10
                  clear BK409
                  clear HB
                  have HO_4 := n0_
                  have HO_10 := n1_
                  have BK409 := n2_
                  have HB := n3_
                  clear n0_ n1_ n2_ n3_
                  (try clear hb)
                  (try clear hb2)
                  (try clear hk)
                  (try clear hi)
                  refine hK.out _ _ ⟨(blk_cell BK409.out 0).trans rfl, (blk_cell BK409.out 1).trans rfl, (blk_cell BK409.out 2).trans rfl, (blk_cell BK409.out 3).trans rfl, (blk_cell BK409.out 4).trans rfl, (blk_cell BK409.out 5).trans rfl, (blk_cell BK409.out 6).trans rfl, (blk_cell BK409.out 7).trans rfl, (blk_cell BK409.out 8).trans rfl, (blk_cell BK409.out 9).trans rfl, (blk_cell BK409.out 10).trans rfl, (blk_cell BK409.out 11).trans rfl, (blk_cell BK409.out 12).trans rfl, (blk_cell BK409.out 13).trans rfl, HS14_, HS15_, HS16_⟩ (fun hHeld => ?_)
                  clear hK K
                  refine norm_ (a' := ?_) ?_ ?_
                  rotate_left
                  ·
                   show Act.put _ (some 166) _ = _
                   simp only [Act.put, List.setIfInBounds_toArray, List.set_cons_zero, List.set_cons_succ, i64_w, i32_w]
                   rfl
                  refine pure_ (i := 18) (N := some 167) (v := ?_) (a' := ?_) #[true, true, true, true, true, true, true, true, true, true, true, true, true, true, true, true, true, true, true] rfl rfl (any_of HT_.out (by kernel_rfl)) (fun _ _ _ h => h) (Or.inl ⟨by rfl, ?_⟩) ?_ ?_
                  rotate_left
                  ·
                   intro w'
                   go_simp
                   with_reducible rfl
                  rotate_left
                  ·
                   simp only [Act.put, List.setIfInBounds_toArray, List.set_cons_zero, List.set_cons_succ, i64_w, i32_w]
                   rfl
                  refine done_ (done_of HT_.out (by kernel_rfl)) ?_
                  try go_wp2
                  go_ret
                  exact ⟨by first | rfl | (simp [errW_none, errW_some] <;> rfl) | (simp only [← hji98]; first | rfl | (simp [errW_none, errW_some] <;> rfl)) | (simp [*, errW_none, errW_some] <;> rfl), be_ HB.out⟩
                ·
                 rw [if_neg c102] at H
                 exact absurd H (by simp)
               ·
                rw [if_neg c101] at H
                exact absurd H (by simp)
              ·
               rw [if_neg c100] at H
               exact absurd H (by simp)
             ·
              rw [if_neg c99] at H
              exact absurd H (by simp)
            ·
             rw [if_neg c97] at H
             have c97b0 : decide (x11_3 < (t406.length : Int)) = false := decide_eq_false c97
             clear c97
             obtain rfl := Option.some.inj H
             go_wp2
             go_ret
             exact ⟨by first | rfl | (simp [errW_none, errW_some] <;> rfl) | (simp [*, errW_none, errW_some] <;> rfl), be_ HB.out⟩
  ·
   replace c6 := Bool.eq_false_iff.mpr c6
   subst c6
   have H1 : ((impl_Redials.f k t392 t393 t394 t395 t396 t397 t398 t399 t400 t401 t402 t403 t404 t405 t406).bind fun t411 => (some ((t411.length : Int) == 0))) = some r := by rw [if_neg (show ¬ (false = true) by decide)] at H; exact H
   clear H
   have H := H1
   clear H1
   replace H := Option.bind_eq_some_iff.mp H
   obtain ⟨t411, A1140, H⟩ := H
   replace H : (some ((t411.length : Int) == 0)) = some r := H
   have A114 := Aside0.mk A1140
   clear A1140
   obtain rfl := Option.some.inj H
   go_enter Try.func11, Try.ntmps11
   go_wp2_with (first | ((with_reducible refine gate_callee (f := 34) rfl ?_); refine goesL_ (some 13) rfl rfl Try.func34 (by kernel_rfl) rfl #[.slice A0 l0.length c0] rfl (by (try simp only [List.map_toArray, List.map_cons, List.map_nil]); first | done | rfl | (simp only [List.length_drop, List.length_take]; rfl)) ?_; (with_reducible refine (laws_big.calls _ _ l0 false _ ?side1 ?side2 A2.out).mono ?_); (case side1 => repeat (first | exact HR0.out | (with_reducible refine Kd.C_alloc ?_ _) | (with_reducible refine Kd.C_drewN ?_ _) | (with_reducible refine Kd.C_drew ?_))); (case side2 => exact HC0.out); rintro e w' ⟨rfl, ⟨nd, rfl⟩⟩; refine ⟨_, rfl, ?_⟩) | ((with_reducible refine gate_callee (f := 35) rfl ?_); refine goesL_ (some 16) rfl rfl Try.func35 (by kernel_rfl) rfl #[.slice A0 l0.length c0] rfl (by (try simp only [List.map_toArray, List.map_cons, List.map_nil]); first | done | rfl | (simp only [List.length_drop, List.length_take]; rfl)) ?_; (with_reducible refine (spec_DrawRedials.calls k _ _ l0 t392 t393 t394 t395 t396 t397 t398 t399 t400 t401 t402 t403 t404 t405 t406 _ ?side1 ?side2 A4.out).mono ?_); (case side1 => repeat (first | exact HR0.out | (with_reducible refine Kd.C_alloc ?_ _) | (with_reducible refine Kd.C_drewN ?_ _) | (with_reducible refine Kd.C_drew ?_))); (case side2 => exact HC0.out); rintro e w115 ⟨v407, rfl, ho0, hb⟩; refine ⟨_, rfl, ?_⟩; have n0_ := Aside0.mk (Kd.R_lower ho0 (below_size (be_ HB.out))); have n1_ := Aside0.mk (below_step (be_ HB.out) hb); clear HB; have HO408 := n0_; have HB := n1_; clear n0_ n1_; (try clear hb); (try clear hb2); (try clear hk); (try clear hi); (try clear ho0)) | ((with_reducible refine gate_dst (N := 3) rfl ?_); refine box_event ?hg (N := 3) ?hd (cs := #[.int .i64 0, .int .i64 0, .int .i64 0, .int .i64 0, .int .i64 0, .int .i64 0, .int .i64 0, .int .i64 0, .int .i64 0, .int .i64 0, .int .i64 0, .int .i64 0, .int .i64 0, .int .i64 0]) (t := 30) ?hr ?_; (case hd => rfl); (case hg => rfl); (case hr => first | (go_simp; done) | (go_simp; rfl)); intro gb409 hg w116 hbox hb; have n0_ := Aside0.mk (Kd.R_below (ro_ HO408.out) hb); have n1_ := Aside0.mk (below_step (be_ HB.out) hb); have n2_ := Aside0.mk (hbox); have n3_ := Aside0.mk ((by rw [hg]; exact (below_size (be_ HB.out)) : w.heap.size ≤ gb409)); have n4_ := Aside0.mk ((by rw [hg]; exact (below_size (be_ HB.out)) : w.heap.size ≤ gb409)); clear HO408 HB; have HO408 := n0_; have HB := n1_; have BK409 := n2_; have GW409 := n3_; have GE409 := n4_; clear n0_ n1_ n2_ n3_ n4_; clear hb hbox hg; obtain ⟨hcz117_0, hcz117_1, hcz117_2, hcz117_3, hcz117_4, hcz117_5, hcz117_6, hcz117_7, hcz117_8, hcz117_9, hcz117_10, hcz117_11, hcz117_12, hcz117_13, hfz117_0, hfz117_1, hfz117_2, hfz117_3, hfz117_4, hfz117_5, hfz117_6, hfz117_7, hfz117_8, hfz117_9, hfz117_10, hfz117_11, hfz117_12, hfz117_13⟩ := cz14_ BK409.out) | ((with_reducible refine gate_callee (f := 36) rfl ?_); refine goesL_ (some 20) rfl rfl Try.func36 (by kernel_rfl) rfl #[.agg #[.int .i64 t392, .int .i64 t393, .int .i64 t394, .int .i64 t395, .int .i64 t396, .int .i64 t397, .int .i64 t398, .int .i64 t399, .int .i64 t400, .int .i64 t401, .int .i64 t402, .int .i64 t403, .int .i64 t404, .int .i64 t405]] rfl (by (try simp only [List.map_toArray, List.map_cons, List.map_nil]); first | done | rfl | (simp only [List.length_drop, List.length_take]; rfl)) ?_; (with_reducible refine (spec_ConfigOk.calls k t392 t393 t394 t395 t396 t397 t398 t399 t400 t401 t402 t403 t404 t405 false _ A5.out).mono ?_); rintro e w118 ⟨rfl, hb⟩; refine ⟨_, rfl, ?_⟩; have n0_ := Aside0.mk (Kd.R_below (by (with_reducible repeat (first | apply Kd.R_alloc | apply Kd.R_drewN | apply Kd.R_drew)); exact (Kd.R_mono (Kd.R_far (p := ⟨gb409, 13, none⟩) (Kd.R_far (p := ⟨gb409, 12, none⟩) (Kd.R_far (p := ⟨gb409, 11, none⟩) (Kd.R_far (p := ⟨gb409, 10, none⟩) (Kd.R_far (p := ⟨gb409, 9, none⟩) (Kd.R_far (p := ⟨gb409, 8, none⟩) (Kd.R_far (p := ⟨gb409, 7, none⟩) (Kd.R_far (p := ⟨gb409, 6, none⟩) (Kd.R_far (p := ⟨gb409, 5, none⟩) (Kd.R_far (p := ⟨gb409, 4, none⟩) (Kd.R_far (p := ⟨gb409, 3, none⟩) (Kd.R_far (p := ⟨gb409, 2, none⟩) (Kd.R_far (p := ⟨gb409, 1, none⟩) (Kd.R_far (p := ⟨gb409, 0, none⟩) (Kd.R_types HO408.out BK409.out (by decide)) (fun _ hk => hk.2) (.int .i64 t392)) (fun _ hk => hk.2) (.int .i64 t393)) (fun _ hk => hk.2) (.int .i64 t394)) (fun _ hk => hk.2) (.int .i64 t395)) (fun _ hk => hk.2) (.int .i64 t396)) (fun _ hk => hk.2) (.int .i64 t397)) (fun _ hk => hk.2) (.int .i64 t398)) (fun _ hk => hk.2) (.int .i64 t399)) (fun _ hk => hk.2) (.int .i64 t400)) (fun _ hk => hk.2) (.int .i64 t401)) (fun _ hk => hk.2) (.int .i64 t402)) (fun _ hk => hk.2) (.int .i64 t403)) (fun _ hk => hk.2) (.int .i64 t404)) (fun _ hk => hk.2) (.int .i64 t405)) (fun _ h_ => h_.1))) hb); have n1_ := Aside0.mk (blk_below (g := gb409) (o := .cells #[.int .i64 t392, .int .i64 t393, .int .i64 t394, .int .i64 t395, .int .i64 t396, .int .i64 t397, .int .i64 t398, .int .i64 t399, .int .i64 t400, .int .i64 t401, .int .i64 t402, .int .i64 t403, .int .i64 t404, .int .i64 t405] 30 (0, 0)) (by refine bl_ ?_; refine blk_put (cs := #[.int .i64 t392, .int .i64 t393, .int .i64 t394, .int .i64 t395, .int .i64 t396, .int .i64 t397, .int .i64 t398, .int .i64 t399, .int .i64 t400, .int .i64 t401, .int .i64 t402, .int .i64 t403, .int .i64 t404, .int .i64 0]) ?_ 13 _ rfl; refine bl_ ?_; refine blk_put (cs := #[.int .i64 t392, .int .i64 t393, .int .i64 t394, .int .i64 t395, .int .i64 t396, .int .i64 t397, .int .i64 t398, .int .i64 t399, .int .i64 t400, .int .i64 t401, .int .i64 t402, .int .i64 t403, .int .i64 0, .int .i64 0]) ?_ 12 _ rfl; refine bl_ ?_; refine blk_put (cs := #[.int .i64 t392, .int .i64 t393, .int .i64 t394, .int .i64 t395, .int .i64 t396, .int .i64 t397, .int .i64 t398, .int .i64 t399, .int .i64 t400, .int .i64 t401, .int .i64 t402, .int .i64 0, .int .i64 0, .int .i64 0]) ?_ 11 _ rfl; refine bl_ ?_; refine blk_put (cs := #[.int .i64 t392, .int .i64 t393, .int .i64 t394, .int .i64 t395, .int .i64 t396, .int .i64 t397, .int .i64 t398, .int .i64 t399, .int .i64 t400, .int .i64 t401, .int .i64 0, .int .i64 0, .int .i64 0, .int .i64 0]) ?_ 10 _ rfl; refine bl_ ?_; refine blk_put (cs := #[.int .i64 t392, .int .i64 t393, .int .i64 t394, .int .i64 t395, .int .i64 t396, .int .i64 t397, .int .i64 t398, .int .i64 t399, .int .i64 t400, .int .i64 0, .int .i64 0, .int .i64 0, .int .i64 0, .int .i64 0]) ?_ 9 _ rfl; refine bl_ ?_; refine blk_put (cs := #[.int .i64 t392, .int .i64 t393, .int .i64 t394, .int .i64 t395, .int .i64 t396, .int .i64 t397, .int .i64 t398, .int .i64 t399, .int .i64 0, .int .i64 0, .int .i64 0, .int .i64 0, .int .i64 0, .int .i64 0]) ?_ 8 _ rfl; refine bl_ ?_; refine blk_put (cs := #[.int .i64 t392, .int .i64 t393, .int .i64 t394, .int .i64 t395, .int .i64 t396, .int .i64 t397, .int .i64 t398, .int .i64 0, .int .i64 0, .int .i64 0, .int .i64 0, .int .i64 0, .int .i64 0, .int .i64 0]) ?_ 7 _ rfl; refine bl_ ?_; refine blk_put (cs := #[.int .i64 t392, .int .i64 t393, .int .i64 t394, .int .i64 t395, .int .i64 t396, .int .i64 t397, .int .i64 0, .int .i64 0, .int .i64 0, .int .i64 0, .int .i64 0, .int .i64 0, .int .i64 0, .int .i64 0]) ?_ 6 _ rfl; refine bl_ ?_; refine blk_put (cs := #[.int .i64 t392, .int .i64 t393, .int .i64 t394, .int .i64 t395, .int .i64 t396, .int .i64 0, .int .i64 0, .int .i64 0, .int .i64 0, .int .i64 0, .int .i64 0, .int .i64 0, .int .i64 0, .int .i64 0]) ?_ 5 _ rfl; refine bl_ ?_; refine blk_put (cs := #[.int .i64 t392, .int .i64 t393, .int .i64 t394, .int .i64 t395, .int .i64 0, .int .i64 0, .int .i64 0, .int .i64 0, .int .i64 0, .int .i64 0, .int .i64 0, .int .i64 0, .int .i64 0, .int .i64 0]) ?_ 4 _ rfl; refine bl_ ?_; refine blk_put (cs := #[.int .i64 t392, .int .i64 t393, .int .i64 t394, .int .i64 0, .int .i64 0, .int .i64 0, .int .i64 0, .int .i64 0, .int .i64 0, .int .i64 0, .int .i64 0, .int .i64 0, .int .i64 0, .int .i64 0]) ?_ 3 _ rfl; refine bl_ ?_; refine blk_put (cs := #[.int .i64 t392, .int .i64 t393, .int .i64 0, .int .i64 0, .int .i64 0, .int .i64 0, .int .i64 0, .int .i64 0, .int .i64 0, .int .i64 0, .int .i64 0, .int .i64 0, .int .i64 0, .int .i64 0]) ?_ 2 _ rfl; refine bl_ ?_; refine blk_put (cs := #[.int .i64 t392, .int .i64 0, .int .i64 0, .int .i64 0, .int .i64 0, .int .i64 0, .int .i64 0, .int .i64 0, .int .i64 0, .int .i64 0, .int .i64 0, .int .i64 0, .int .i64 0, .int .i64 0]) ?_ 1 _ rfl; refine bl_ ?_; refine blk_put (cs := #[.int .i64 0, .int .i64 0, .int .i64 0, .int .i64 0, .int .i64 0, .int .i64 0, .int .i64 0, .int .i64 0, .int .i64 0, .int .i64 0, .int .i64 0, .int .i64 0, .int .i64 0, .int .i64 0]) ?_ 0 _ rfl; refine bl_ ?_; exact BK409.out) hb); have n2_ := Aside0.mk (below_step (be_ HB.out) hb); clear HO408 BK409 HB; have HO408 := n0_; have BK409 := n1_; have HB := n2_; clear n0_ n1_ n2_; (try clear hb); (try clear hb2); (try clear hk); (try clear hi); obtain ⟨hcz119_0, hcz119_1, hcz119_2, hcz119_3, hcz119_4, hcz119_5, hcz119_6, hcz119_7, hcz119_8, hcz119_9, hcz119_10, hcz119_11, hcz119_12, hcz119_13, hfz119_0, hfz119_1, hfz119_2, hfz119_3, hfz119_4, hfz119_5, hfz119_6, hfz119_7, hfz119_8, hfz119_9, hfz119_10, hfz119_11, hfz119_12, hfz119_13⟩ := cz14_ BK409.out; obtain ⟨Ao120, co120, eo120⟩ := Kd.R_slice HO408.out; subst eo120) | ((with_reducible refine gate_callee (f := 31) rfl ?_); refine goesL_ (some 24) rfl rfl Try.func31 (by kernel_rfl) rfl #[.agg #[.int .i64 t392, .int .i64 t393, .int .i64 t394, .int .i64 t395, .int .i64 t396, .int .i64 t397, .int .i64 t398, .int .i64 t399, .int .i64 t400, .int .i64 t401, .int .i64 t402, .int .i64 t403, .int .i64 t404, .int .i64 t405], .slice Ao120 t406.length co120] rfl (by (try simp only [List.map_toArray, List.map_cons, List.map_nil]); first | done | rfl | (simp only [List.length_drop, List.length_take]; rfl)) ?_; (with_reducible refine (impl_Redials.calls k t392 t393 t394 t395 t396 t397 t398 t399 t400 t401 t402 t403 t404 t405 _ _ t406 t411 _ ?side1 ?side2 A114.out).mono ?_); (case side1 => repeat (first | exact (Kd.R_reads' HO408.out).2.2 | (with_reducible refine Kd.C_alloc ?_ _) | (with_reducible refine Kd.C_drewN ?_ _) | (with_reducible refine Kd.C_drew ?_))); (case side2 => exact (Kd.R_reads' HO408.out).2.1); rintro e w121 ⟨v412, rfl, ho0, hb⟩; refine ⟨_, rfl, ?_⟩; have n0_ := Aside0.mk (Kd.R_elder' (ro_ HO408.out) (Kd.R_base ho0) hb); have n1_ := Aside0.mk (Kd.R_lower (Kd.R_new' ho0 (Kd.R_lt (ro_ HO408.out))) (below_size (be_ HB.out))); have n2_ := Aside0.mk (blk_below (bl_ BK409.out) hb); have n3_ := Aside0.mk (below_step (be_ HB.out) hb); clear HO408 BK409 HB; have HO408 := n0_; have HO413 := n1_; have BK409 := n2_; have HB := n3_; clear n0_ n1_ n2_ n3_; (try clear hb); (try clear hb2); (try clear hk); (try clear hi); (try clear ho0); obtain ⟨Ao122, co122, eo122⟩ := Kd.R_slice HO413.out; subst eo122))
   go_ret
   exact ⟨by first | rfl | (simp [errW_none, errW_some] <;> rfl) | (simp [*, errW_none, errW_some] <;> rfl), be_ HB.out⟩

/-- THE ONE PURE STATEMENT of laws_FnWaits: yours. -/
def laws_FnWaits.Pure : Prop := ∀ (l0 : List Int), l0.length ≤ maxLen → l0.length * 1 ≤ 140737488351232 → (∀ x ∈ l0, (Lit.int .u8 x).wf = true) → ∃ k, laws_FnWaits.f k l0 = some true
theorem laws_FnWaits.walk (P : laws_FnWaits.Pure) (a0 : Option Addr) (len0 cap0 : Nat) (z0 : List Int) (w : World) (w0 : (a0 = none ∧ len0 = 0 ∧ cap0 = 0 ∧ z0 = []) ∨ ∃ x, a0 = some x ∧ len0 ≤ cap0 ∧ cap0 ≤ maxLen ∧ z0.length = cap0 ∧ (∀ i, i < z0.length → w.cell? (x.add i) = some (.int .u8 (z0.getD i 0))) ∧ ∀ n ∈ z0, (Lit.int .u8 n).wf = true) (y0 : len0 * 1 ≤ 140737488351232) :
 Calls Try.prog 11 #[.slice a0 len0 cap0] w fun e w' => e = .returned (.bool true) ∧ Below w.heap.size w w' := by
 obtain ⟨l0, rfl, hr0, hm0, hw0, hc0⟩ := ReadsInt.ofRowC w0
 obtain ⟨k, h⟩ := P l0 hm0 y0 hw0
 refine (laws_FnWaits.calls k _ _ l0 true w (Kd.C_of_reads (d := (0 : Int)) (h1 := fun _ => rfl) hr0) hc0 h).mono ?_
 rintro e w' ⟨rfl, hd⟩
 exact ⟨rfl, hd⟩

end Go.Proofs.Ytdeilfcoikmafaa.MFnWaits
