-- Written by a program of this session over the kit's print, with stand-ins for the functions that the print leaves; Lean checks it.
import Derived.Test.YtpckdemamlhpdaaMFnConnsx0
import Derived.Test.YtpckdemamlhpdaaMFnConnsx1
import Derived.Test.YtpckdemamlhpdaaMFnConnsx3
import Derived.Test.YtpckdemamlhpdaaMFnConnsx7
import Derived.Test.YtpckdemamlhpdaaMFnConnsx8
import Derived.Test.YtpckdemamlhpdaaMFnConnsx10
import Derived.Test.YtpckdemamlhpdaaMFnConnsx11
import Derived.Test.YtpckdemamlhpdaaMFnConnsx12
import Derived.Test.YtpckdemamlhpdaaMFnConnsx13
namespace Go.Proofs.Ytpckdemamlhpdaa.MFnConns
open Go.RowKit Go.Proofs.YtpckdemamlhpdaaW.PrintWords Go.Proofs.YtpckdemamlhpdaaW.PrintLast Go.Proofs.YtpckdemamlhpdaaW.PrintMore
attribute [local go_sem] max2_int min2_int max_two min_two max_three min_three max_four min_four   -- for this text's walks alone
set_option linter.unusedVariables false
set_option linter.unusedSimpArgs false

attribute [local go_sem high] eqA24
/-! ### laws_FnConns: function 10 -/
mutual
def laws_FnConns.j0 : Nat → Bool → Int → Int → Int → Int → Int → Bool → Int → Int → Int → Int → Int → Bool → Option (Bool)
  | 0, _, _, _, _, _, _, _, _, _, _, _, _, _ => none
  | k + 1, x41, x366000, x366001, x366002, x366003, x366004, x366005, x376000, x376001, x376002, x376003, x376004, x376005 => if x41 = true then (some false) else (if x366000 = 0 then (some true) else ((spec_ConnOk.f k x376000 x376001 x376002 x376003 x376004 x376005).bind fun t377 => (if t377 = true then (laws_FnConns.j1 k ((x376001 == 3) != (decide (x376004 > 0))) x376000 x376001 x376002 x376003 x376004 x376005) else (laws_FnConns.j1 k true x376000 x376001 x376002 x376003 x376004 x376005))))
def laws_FnConns.j1 : Nat → Bool → Int → Int → Int → Int → Int → Bool → Option (Bool)
  | 0, _, _, _, _, _, _, _ => none
  | k + 1, x56, x376000, x376001, x376002, x376003, x376004, x376005 => if x56 = true then (some false) else (if x376001 = 4 then (laws_FnConns.l0 k 0 x376000 x376001 x376002 x376003 x376004 x376005) else (laws_FnConns.j3 k x376000 x376001 x376002 x376003 x376004 x376005))
def laws_FnConns.j3 : Nat → Int → Int → Int → Int → Int → Bool → Option (Bool)
  | 0, _, _, _, _, _, _ => none
  | k + 1, x376000, x376001, x376002, x376003, x376004, x376005 => (spec_DefaultConfig.f).bind fun bt386 => ((impl_NextConnDue.f k bt386.1 bt386.2.1 bt386.2.2.1 bt386.2.2.2.1 bt386.2.2.2.2.1 bt386.2.2.2.2.2.1 bt386.2.2.2.2.2.2.1 bt386.2.2.2.2.2.2.2.1 bt386.2.2.2.2.2.2.2.2.1 bt386.2.2.2.2.2.2.2.2.2.1 bt386.2.2.2.2.2.2.2.2.2.2.1 bt386.2.2.2.2.2.2.2.2.2.2.2.1 bt386.2.2.2.2.2.2.2.2.2.2.2.2.1 bt386.2.2.2.2.2.2.2.2.2.2.2.2.2 x376000 x376001 x376002 x376003 x376004 x376005).bind fun t401 => (if t401 < 0 then (if x376001 = 1 then (some false) else (some (x376001 != 3))) else ((impl_ConnDue.f k bt386.1 bt386.2.1 bt386.2.2.1 bt386.2.2.2.1 bt386.2.2.2.2.1 bt386.2.2.2.2.2.1 bt386.2.2.2.2.2.2.1 bt386.2.2.2.2.2.2.2.1 bt386.2.2.2.2.2.2.2.2.1 bt386.2.2.2.2.2.2.2.2.2.1 bt386.2.2.2.2.2.2.2.2.2.2.1 bt386.2.2.2.2.2.2.2.2.2.2.2.1 bt386.2.2.2.2.2.2.2.2.2.2.2.2.1 bt386.2.2.2.2.2.2.2.2.2.2.2.2.2 x376000 x376001 x376002 x376003 x376004 x376005 t401).bind fun t402 => (if t402 = 0 then (some false) else (if t401 = 0 then (some true) else (if t401 = 1000000000 then (some true) else ((impl_ConnDue.f k bt386.1 bt386.2.1 bt386.2.2.1 bt386.2.2.2.1 bt386.2.2.2.2.1 bt386.2.2.2.2.2.1 bt386.2.2.2.2.2.2.1 bt386.2.2.2.2.2.2.2.1 bt386.2.2.2.2.2.2.2.2.1 bt386.2.2.2.2.2.2.2.2.2.1 bt386.2.2.2.2.2.2.2.2.2.2.1 bt386.2.2.2.2.2.2.2.2.2.2.2.1 bt386.2.2.2.2.2.2.2.2.2.2.2.2.1 bt386.2.2.2.2.2.2.2.2.2.2.2.2.2 x376000 x376001 x376002 x376003 x376004 x376005 (wrap64 (t401 - 1))).bind fun t403 => (some (t403 == 0)))))))))
def laws_FnConns.l0 : Nat → Int → Int → Int → Int → Int → Int → Bool → Option (Bool)
  | 0, _, _, _, _, _, _, _ => none
  | k + 1, x9, x376000, x376001, x376002, x376003, x376004, x376005 => if x9 < 8 then ((impl_StepConn.f k x376000 x376001 x376002 x376003 x376004 x376005 x9 x376003 1).bind fun bt378 => (if bt378.2.2.2.2.2.2 = true then (some false) else (laws_FnConns.l0 k (wrap64 (x9 + 1)) x376000 x376001 x376002 x376003 x376004 x376005))) else (laws_FnConns.j3 k x376000 x376001 x376002 x376003 x376004 x376005)
end
def laws_FnConns.f (k : Nat) (l0 : List Int) : Option (Bool) := (laws_big.f l0).bind fun t351 => (if t351 = true then (some true) else ((spec_DrawPlayConn.f k l0).bind fun bt352 => ((spec_PlayConn.f k bt352.1 bt352.2).bind fun bt356 => ((impl_PlayConn.f k bt352.1 bt352.2).bind fun bt366 => (if (!(bt366.1 == bt356.1) || (!(bt366.2.1 == bt356.2.1) || (!(bt366.2.2.1 == bt356.2.2.1) || (!(bt366.2.2.2.1 == bt356.2.2.2.1) || (!(bt366.2.2.2.2.1 == bt356.2.2.2.2.1) || (!(bt366.2.2.2.2.2.1 == bt356.2.2.2.2.2.1))))))) = true then (laws_FnConns.j0 k true bt356.1 bt356.2.1 bt356.2.2.1 bt356.2.2.2.1 bt356.2.2.2.2.1 bt356.2.2.2.2.2.1 bt366.1 bt366.2.1 bt366.2.2.1 bt366.2.2.2.1 bt366.2.2.2.2.1 bt366.2.2.2.2.2.1) else ((laws_same.f k bt366.2.2.2.2.2.2 bt356.2.2.2.2.2.2).bind fun t376 => (laws_FnConns.j0 k (!t376) bt356.1 bt356.2.1 bt356.2.2.1 bt356.2.2.2.1 bt356.2.2.2.2.1 bt356.2.2.2.2.2.1 bt366.1 bt366.2.1 bt366.2.2.1 bt366.2.2.2.1 bt366.2.2.2.2.1 bt366.2.2.2.2.2.1)))))))
theorem laws_FnConns.mono_l : ∀ k, (∀ y0 y1 y2 y3 y4 y5 y6 y7 y8 y9 y10 y11 y12, LeO (laws_FnConns.j0 k y0 y1 y2 y3 y4 y5 y6 y7 y8 y9 y10 y11 y12) (laws_FnConns.j0 (k + 1) y0 y1 y2 y3 y4 y5 y6 y7 y8 y9 y10 y11 y12)) ∧ (∀ y0 y1 y2 y3 y4 y5 y6, LeO (laws_FnConns.j1 k y0 y1 y2 y3 y4 y5 y6) (laws_FnConns.j1 (k + 1) y0 y1 y2 y3 y4 y5 y6)) ∧ (∀ y0 y1 y2 y3 y4 y5, LeO (laws_FnConns.j3 k y0 y1 y2 y3 y4 y5) (laws_FnConns.j3 (k + 1) y0 y1 y2 y3 y4 y5)) ∧ (∀ y0 y1 y2 y3 y4 y5 y6, LeO (laws_FnConns.l0 k y0 y1 y2 y3 y4 y5 y6) (laws_FnConns.l0 (k + 1) y0 y1 y2 y3 y4 y5 y6))
  | 0 => ⟨fun _ _ _ _ _ _ _ _ _ _ _ _ _ r h => by simp [laws_FnConns.j0] at h, fun _ _ _ _ _ _ _ r h => by simp [laws_FnConns.j1] at h, fun _ _ _ _ _ _ r h => by simp [laws_FnConns.j3] at h, fun _ _ _ _ _ _ _ r h => by simp [laws_FnConns.l0] at h⟩
  | k + 1 => by
    obtain ⟨ih0, ih1, ih2, ih3⟩ := laws_FnConns.mono_l k
    refine ⟨?_, ?_, ?_, ?_⟩
    · intro y0 y1 y2 y3 y4 y5 y6 y7 y8 y9 y10 y11 y12
      unfold laws_FnConns.j0
      repeat' first
      | (with_reducible exact ih0 _ _ _ _ _ _ _ _ _ _ _ _ _)
      | (with_reducible exact ih1 _ _ _ _ _ _ _)
      | (with_reducible exact ih2 _ _ _ _ _ _)
      | (with_reducible exact ih3 _ _ _ _ _ _ _)
      | (with_reducible exact impl_ConnDue.mono _ _ _ _ _ _ _ _ _ _ _ _ _ _ _ _ _ _ _ _ _ _)
      | (with_reducible exact impl_NextConnDue.mono _ _ _ _ _ _ _ _ _ _ _ _ _ _ _ _ _ _ _ _ _)
      | (with_reducible exact impl_PlayConn.mono _ _ _)
      | (with_reducible exact impl_StepConn.mono _ _ _ _ _ _ _ _ _ _)
      | (with_reducible exact laws_same.mono _ _ _)
      | (with_reducible exact spec_ConnOk.mono _ _ _ _ _ _ _)
      | (with_reducible exact spec_DrawPlayConn.mono _ _)
      | (with_reducible exact spec_PlayConn.mono _ _ _)
      | (with_reducible exact LeO.refl _)
      | (with_reducible exact LeO.none _)
      | (with_reducible refine LeO.ite ?_ ?_)
      | (with_reducible refine LeO.bind ?_ (fun _ => ?_))
      | exact ih0 _ _ _ _ _ _ _ _ _ _ _ _ _
      | exact ih1 _ _ _ _ _ _ _
      | exact ih2 _ _ _ _ _ _
      | exact ih3 _ _ _ _ _ _ _
      | exact impl_ConnDue.mono _ _ _ _ _ _ _ _ _ _ _ _ _ _ _ _ _ _ _ _ _ _
      | exact impl_NextConnDue.mono _ _ _ _ _ _ _ _ _ _ _ _ _ _ _ _ _ _ _ _ _
      | exact impl_PlayConn.mono _ _ _
      | exact impl_StepConn.mono _ _ _ _ _ _ _ _ _ _
      | exact laws_same.mono _ _ _
      | exact spec_ConnOk.mono _ _ _ _ _ _ _
      | exact spec_DrawPlayConn.mono _ _
      | exact spec_PlayConn.mono _ _ _
      | exact LeO.none _
      | refine LeO.ite ?_ ?_
      | refine LeO.bind ?_ (fun _ => ?_)
    · intro y0 y1 y2 y3 y4 y5 y6
      unfold laws_FnConns.j1
      repeat' first
      | (with_reducible exact ih0 _ _ _ _ _ _ _ _ _ _ _ _ _)
      | (with_reducible exact ih1 _ _ _ _ _ _ _)
      | (with_reducible exact ih2 _ _ _ _ _ _)
      | (with_reducible exact ih3 _ _ _ _ _ _ _)
      | (with_reducible exact impl_ConnDue.mono _ _ _ _ _ _ _ _ _ _ _ _ _ _ _ _ _ _ _ _ _ _)
      | (with_reducible exact impl_NextConnDue.mono _ _ _ _ _ _ _ _ _ _ _ _ _ _ _ _ _ _ _ _ _)
      | (with_reducible exact impl_PlayConn.mono _ _ _)
      | (with_reducible exact impl_StepConn.mono _ _ _ _ _ _ _ _ _ _)
      | (with_reducible exact laws_same.mono _ _ _)
      | (with_reducible exact spec_ConnOk.mono _ _ _ _ _ _ _)
      | (with_reducible exact spec_DrawPlayConn.mono _ _)
      | (with_reducible exact spec_PlayConn.mono _ _ _)
      | (with_reducible exact LeO.refl _)
      | (with_reducible exact LeO.none _)
      | (with_reducible refine LeO.ite ?_ ?_)
      | (with_reducible refine LeO.bind ?_ (fun _ => ?_))
      | exact ih0 _ _ _ _ _ _ _ _ _ _ _ _ _
      | exact ih1 _ _ _ _ _ _ _
      | exact ih2 _ _ _ _ _ _
      | exact ih3 _ _ _ _ _ _ _
      | exact impl_ConnDue.mono _ _ _ _ _ _ _ _ _ _ _ _ _ _ _ _ _ _ _ _ _ _
      | exact impl_NextConnDue.mono _ _ _ _ _ _ _ _ _ _ _ _ _ _ _ _ _ _ _ _ _
      | exact impl_PlayConn.mono _ _ _
      | exact impl_StepConn.mono _ _ _ _ _ _ _ _ _ _
      | exact laws_same.mono _ _ _
      | exact spec_ConnOk.mono _ _ _ _ _ _ _
      | exact spec_DrawPlayConn.mono _ _
      | exact spec_PlayConn.mono _ _ _
      | exact LeO.none _
      | refine LeO.ite ?_ ?_
      | refine LeO.bind ?_ (fun _ => ?_)
    · intro y0 y1 y2 y3 y4 y5
      unfold laws_FnConns.j3
      repeat' first
      | (with_reducible exact ih0 _ _ _ _ _ _ _ _ _ _ _ _ _)
      | (with_reducible exact ih1 _ _ _ _ _ _ _)
      | (with_reducible exact ih2 _ _ _ _ _ _)
      | (with_reducible exact ih3 _ _ _ _ _ _ _)
      | (with_reducible exact impl_ConnDue.mono _ _ _ _ _ _ _ _ _ _ _ _ _ _ _ _ _ _ _ _ _ _)
      | (with_reducible exact impl_NextConnDue.mono _ _ _ _ _ _ _ _ _ _ _ _ _ _ _ _ _ _ _ _ _)
      | (with_reducible exact impl_PlayConn.mono _ _ _)
      | (with_reducible exact impl_StepConn.mono _ _ _ _ _ _ _ _ _ _)
      | (with_reducible exact laws_same.mono _ _ _)
      | (with_reducible exact spec_ConnOk.mono _ _ _ _ _ _ _)
      | (with_reducible exact spec_DrawPlayConn.mono _ _)
      | (with_reducible exact spec_PlayConn.mono _ _ _)
      | (with_reducible exact LeO.refl _)
      | (with_reducible exact LeO.none _)
      | (with_reducible refine LeO.ite ?_ ?_)
      | (with_reducible refine LeO.bind ?_ (fun _ => ?_))
      | exact ih0 _ _ _ _ _ _ _ _ _ _ _ _ _
      | exact ih1 _ _ _ _ _ _ _
      | exact ih2 _ _ _ _ _ _
      | exact ih3 _ _ _ _ _ _ _
      | exact impl_ConnDue.mono _ _ _ _ _ _ _ _ _ _ _ _ _ _ _ _ _ _ _ _ _ _
      | exact impl_NextConnDue.mono _ _ _ _ _ _ _ _ _ _ _ _ _ _ _ _ _ _ _ _ _
      | exact impl_PlayConn.mono _ _ _
      | exact impl_StepConn.mono _ _ _ _ _ _ _ _ _ _
      | exact laws_same.mono _ _ _
      | exact spec_ConnOk.mono _ _ _ _ _ _ _
      | exact spec_DrawPlayConn.mono _ _
      | exact spec_PlayConn.mono _ _ _
      | exact LeO.none _
      | refine LeO.ite ?_ ?_
      | refine LeO.bind ?_ (fun _ => ?_)
    · intro y0 y1 y2 y3 y4 y5 y6
      unfold laws_FnConns.l0
      repeat' first
      | (with_reducible exact ih0 _ _ _ _ _ _ _ _ _ _ _ _ _)
      | (with_reducible exact ih1 _ _ _ _ _ _ _)
      | (with_reducible exact ih2 _ _ _ _ _ _)
      | (with_reducible exact ih3 _ _ _ _ _ _ _)
      | (with_reducible exact impl_ConnDue.mono _ _ _ _ _ _ _ _ _ _ _ _ _ _ _ _ _ _ _ _ _ _)
      | (with_reducible exact impl_NextConnDue.mono _ _ _ _ _ _ _ _ _ _ _ _ _ _ _ _ _ _ _ _ _)
      | (with_reducible exact impl_PlayConn.mono _ _ _)
      | (with_reducible exact impl_StepConn.mono _ _ _ _ _ _ _ _ _ _)
      | (with_reducible exact laws_same.mono _ _ _)
      | (with_reducible exact spec_ConnOk.mono _ _ _ _ _ _ _)
      | (with_reducible exact spec_DrawPlayConn.mono _ _)
      | (with_reducible exact spec_PlayConn.mono _ _ _)
      | (with_reducible exact LeO.refl _)
      | (with_reducible exact LeO.none _)
      | (with_reducible refine LeO.ite ?_ ?_)
      | (with_reducible refine LeO.bind ?_ (fun _ => ?_))
      | exact ih0 _ _ _ _ _ _ _ _ _ _ _ _ _
      | exact ih1 _ _ _ _ _ _ _
      | exact ih2 _ _ _ _ _ _
      | exact ih3 _ _ _ _ _ _ _
      | exact impl_ConnDue.mono _ _ _ _ _ _ _ _ _ _ _ _ _ _ _ _ _ _ _ _ _ _
      | exact impl_NextConnDue.mono _ _ _ _ _ _ _ _ _ _ _ _ _ _ _ _ _ _ _ _ _
      | exact impl_PlayConn.mono _ _ _
      | exact impl_StepConn.mono _ _ _ _ _ _ _ _ _ _
      | exact laws_same.mono _ _ _
      | exact spec_ConnOk.mono _ _ _ _ _ _ _
      | exact spec_DrawPlayConn.mono _ _
      | exact spec_PlayConn.mono _ _ _
      | exact LeO.none _
      | refine LeO.ite ?_ ?_
      | refine LeO.bind ?_ (fun _ => ?_)
theorem laws_FnConns.mono : ∀ a0 k, LeO (laws_FnConns.f k a0) (laws_FnConns.f (k + 1) a0) := by
  intro a0 k
  obtain ⟨ih0, ih1, ih2, ih3⟩ := laws_FnConns.mono_l k
  unfold laws_FnConns.f
  repeat' first
      | (with_reducible exact ih0 _ _ _ _ _ _ _ _ _ _ _ _ _)
      | (with_reducible exact ih1 _ _ _ _ _ _ _)
      | (with_reducible exact ih2 _ _ _ _ _ _)
      | (with_reducible exact ih3 _ _ _ _ _ _ _)
      | (with_reducible exact impl_ConnDue.mono _ _ _ _ _ _ _ _ _ _ _ _ _ _ _ _ _ _ _ _ _ _)
      | (with_reducible exact impl_NextConnDue.mono _ _ _ _ _ _ _ _ _ _ _ _ _ _ _ _ _ _ _ _ _)
      | (with_reducible exact impl_PlayConn.mono _ _ _)
      | (with_reducible exact impl_StepConn.mono _ _ _ _ _ _ _ _ _ _)
      | (with_reducible exact laws_same.mono _ _ _)
      | (with_reducible exact spec_ConnOk.mono _ _ _ _ _ _ _)
      | (with_reducible exact spec_DrawPlayConn.mono _ _)
      | (with_reducible exact spec_PlayConn.mono _ _ _)
      | (with_reducible exact LeO.refl _)
      | (with_reducible exact LeO.none _)
      | (with_reducible refine LeO.ite ?_ ?_)
      | (with_reducible refine LeO.bind ?_ (fun _ => ?_))
      | exact ih0 _ _ _ _ _ _ _ _ _ _ _ _ _
      | exact ih1 _ _ _ _ _ _ _
      | exact ih2 _ _ _ _ _ _
      | exact ih3 _ _ _ _ _ _ _
      | exact impl_ConnDue.mono _ _ _ _ _ _ _ _ _ _ _ _ _ _ _ _ _ _ _ _ _ _
      | exact impl_NextConnDue.mono _ _ _ _ _ _ _ _ _ _ _ _ _ _ _ _ _ _ _ _ _
      | exact impl_PlayConn.mono _ _ _
      | exact impl_StepConn.mono _ _ _ _ _ _ _ _ _ _
      | exact laws_same.mono _ _ _
      | exact spec_ConnOk.mono _ _ _ _ _ _ _
      | exact spec_DrawPlayConn.mono _ _
      | exact spec_PlayConn.mono _ _ _
      | exact LeO.none _
      | refine LeO.ite ?_ ?_
      | refine LeO.bind ?_ (fun _ => ?_)
set_option maxHeartbeats 40000000 in
set_option maxRecDepth 100000 in
theorem laws_FnConns.calls (k : Nat) (A0 : Option Addr) (c0 : Nat) (l0 : List Int) (r : Bool) (w : World) (hr0 : Kd.C (Kd.int .u8) w A0 l0.length l0) (hc0 : l0.length ≤ c0) (h : laws_FnConns.f k l0 = some r) :
    Calls Try.prog 10 #[.slice A0 l0.length c0] w fun e w' => e = .returned (.bool r) ∧ Below w.heap.size w w' := by
  have hu24 := Try.underlying24
  have hu44 := Try.underlying44
  have HR0 := Aside0.mk hr0
  have HC0 := Aside0.mk hc0
  clear hr0 hc0
  have HB := Aside0.mk (Below.refl w.heap.size w)
  have H : ((laws_big.f l0).bind fun t351 => (if t351 = true then (some true) else ((spec_DrawPlayConn.f k l0).bind fun bt352 => ((spec_PlayConn.f k bt352.1 bt352.2).bind fun bt356 => ((impl_PlayConn.f k bt352.1 bt352.2).bind fun bt366 => (if (!(bt366.1 == bt356.1) || (!(bt366.2.1 == bt356.2.1) || (!(bt366.2.2.1 == bt356.2.2.1) || (!(bt366.2.2.2.1 == bt356.2.2.2.1) || (!(bt366.2.2.2.2.1 == bt356.2.2.2.2.1) || (!(bt366.2.2.2.2.2.1 == bt356.2.2.2.2.2.1))))))) = true then (laws_FnConns.j0 k true bt356.1 bt356.2.1 bt356.2.2.1 bt356.2.2.2.1 bt356.2.2.2.2.1 bt356.2.2.2.2.2.1 bt366.1 bt366.2.1 bt366.2.2.1 bt366.2.2.2.1 bt366.2.2.2.2.1 bt366.2.2.2.2.2.1) else ((laws_same.f k bt366.2.2.2.2.2.2 bt356.2.2.2.2.2.2).bind fun t376 => (laws_FnConns.j0 k (!t376) bt356.1 bt356.2.1 bt356.2.2.1 bt356.2.2.2.1 bt356.2.2.2.2.1 bt356.2.2.2.2.2.1 bt366.1 bt366.2.1 bt366.2.2.1 bt366.2.2.2.1 bt366.2.2.2.2.1 bt366.2.2.2.2.2.1)))))))) = some r := h
  clear h
  replace H := Option.bind_eq_some_iff.mp H
  obtain ⟨t351, A20, H⟩ := H
  replace H : (if t351 = true then (some true) else ((spec_DrawPlayConn.f k l0).bind fun bt352 => ((spec_PlayConn.f k bt352.1 bt352.2).bind fun bt356 => ((impl_PlayConn.f k bt352.1 bt352.2).bind fun bt366 => (if (!(bt366.1 == bt356.1) || (!(bt366.2.1 == bt356.2.1) || (!(bt366.2.2.1 == bt356.2.2.1) || (!(bt366.2.2.2.1 == bt356.2.2.2.1) || (!(bt366.2.2.2.2.1 == bt356.2.2.2.2.1) || (!(bt366.2.2.2.2.2.1 == bt356.2.2.2.2.2.1))))))) = true then (laws_FnConns.j0 k true bt356.1 bt356.2.1 bt356.2.2.1 bt356.2.2.2.1 bt356.2.2.2.2.1 bt356.2.2.2.2.2.1 bt366.1 bt366.2.1 bt366.2.2.1 bt366.2.2.2.1 bt366.2.2.2.2.1 bt366.2.2.2.2.2.1) else ((laws_same.f k bt366.2.2.2.2.2.2 bt356.2.2.2.2.2.2).bind fun t376 => (laws_FnConns.j0 k (!t376) bt356.1 bt356.2.1 bt356.2.2.1 bt356.2.2.2.1 bt356.2.2.2.2.1 bt356.2.2.2.2.2.1 bt366.1 bt366.2.1 bt366.2.2.1 bt366.2.2.2.1 bt366.2.2.2.2.1 bt366.2.2.2.2.2.1))))))) = some r := H
  have A2 := Aside0.mk A20
  clear A20
  by_cases c3 : t351 = true
  · subst c3
    have H1 : (some true) = some r := by rw [if_pos rfl] at H; exact H
    clear H
    have H := H1
    clear H1
    obtain rfl := Option.some.inj H
    go_enter Try.func10, Try.ntmps10
    go_wp2_with (first | ((with_reducible refine gate_callee (f := 39) rfl ?_); refine goesL_ (some 15) rfl rfl Try.func39 (by kernel_rfl) rfl #[.slice A0 l0.length c0] rfl (by (try simp only [List.map_toArray, List.map_cons, List.map_nil]); first | done | rfl | (simp only [List.length_drop, List.length_take]; rfl)) ?_; (with_reducible refine (laws_big.calls _ _ l0 true _ ?side1 ?side2 A2.out).mono ?_); (case side1 => repeat (first | exact HR0.out | (with_reducible refine Kd.C_alloc ?_ _) | (with_reducible refine Kd.C_drewN ?_ _) | (with_reducible refine Kd.C_drew ?_))); (case side2 => exact HC0.out); rintro e w' ⟨rfl, ⟨nd, rfl⟩⟩; refine ⟨_, rfl, ?_⟩))
    go_ret
    exact ⟨by first | rfl | (simp [errW_none, errW_some] <;> rfl) | (simp [*, errW_none, errW_some] <;> rfl), be_ HB.out⟩
  · replace c3 := Bool.eq_false_iff.mpr c3
    subst c3
    have H1 : ((spec_DrawPlayConn.f k l0).bind fun bt352 => ((spec_PlayConn.f k bt352.1 bt352.2).bind fun bt356 => ((impl_PlayConn.f k bt352.1 bt352.2).bind fun bt366 => (if (!(bt366.1 == bt356.1) || (!(bt366.2.1 == bt356.2.1) || (!(bt366.2.2.1 == bt356.2.2.1) || (!(bt366.2.2.2.1 == bt356.2.2.2.1) || (!(bt366.2.2.2.2.1 == bt356.2.2.2.2.1) || (!(bt366.2.2.2.2.2.1 == bt356.2.2.2.2.2.1))))))) = true then (laws_FnConns.j0 k true bt356.1 bt356.2.1 bt356.2.2.1 bt356.2.2.2.1 bt356.2.2.2.2.1 bt356.2.2.2.2.2.1 bt366.1 bt366.2.1 bt366.2.2.1 bt366.2.2.2.1 bt366.2.2.2.2.1 bt366.2.2.2.2.2.1) else ((laws_same.f k bt366.2.2.2.2.2.2 bt356.2.2.2.2.2.2).bind fun t376 => (laws_FnConns.j0 k (!t376) bt356.1 bt356.2.1 bt356.2.2.1 bt356.2.2.2.1 bt356.2.2.2.2.1 bt356.2.2.2.2.2.1 bt366.1 bt366.2.1 bt366.2.2.1 bt366.2.2.2.1 bt366.2.2.2.2.1 bt366.2.2.2.2.2.1)))))) = some r := by rw [if_neg (show ¬ (false = true) by decide)] at H; exact H
    clear H
    have H := H1
    clear H1
    replace H := Option.bind_eq_some_iff.mp H
    obtain ⟨⟨t352, t353⟩, A40, H⟩ := H
    replace H : ((spec_PlayConn.f k t352 t353).bind fun bt356 => ((impl_PlayConn.f k t352 t353).bind fun bt366 => (if (!(bt366.1 == bt356.1) || (!(bt366.2.1 == bt356.2.1) || (!(bt366.2.2.1 == bt356.2.2.1) || (!(bt366.2.2.2.1 == bt356.2.2.2.1) || (!(bt366.2.2.2.2.1 == bt356.2.2.2.2.1) || (!(bt366.2.2.2.2.2.1 == bt356.2.2.2.2.2.1))))))) = true then (laws_FnConns.j0 k true bt356.1 bt356.2.1 bt356.2.2.1 bt356.2.2.2.1 bt356.2.2.2.2.1 bt356.2.2.2.2.2.1 bt366.1 bt366.2.1 bt366.2.2.1 bt366.2.2.2.1 bt366.2.2.2.2.1 bt366.2.2.2.2.2.1) else ((laws_same.f k bt366.2.2.2.2.2.2 bt356.2.2.2.2.2.2).bind fun t376 => (laws_FnConns.j0 k (!t376) bt356.1 bt356.2.1 bt356.2.2.1 bt356.2.2.2.1 bt356.2.2.2.2.1 bt356.2.2.2.2.2.1 bt366.1 bt366.2.1 bt366.2.2.1 bt366.2.2.2.1 bt366.2.2.2.2.1 bt366.2.2.2.2.2.1))))) = some r := H
    have A4 := Aside0.mk A40
    clear A40
    replace H := Option.bind_eq_some_iff.mp H
    obtain ⟨⟨t356, t357, t358, t359, t360, t361, t362⟩, A50, H⟩ := H
    replace H : ((impl_PlayConn.f k t352 t353).bind fun bt366 => (if (!(bt366.1 == t356) || (!(bt366.2.1 == t357) || (!(bt366.2.2.1 == t358) || (!(bt366.2.2.2.1 == t359) || (!(bt366.2.2.2.2.1 == t360) || (!(bt366.2.2.2.2.2.1 == t361))))))) = true then (laws_FnConns.j0 k true t356 t357 t358 t359 t360 t361 bt366.1 bt366.2.1 bt366.2.2.1 bt366.2.2.2.1 bt366.2.2.2.2.1 bt366.2.2.2.2.2.1) else ((laws_same.f k bt366.2.2.2.2.2.2 t362).bind fun t376 => (laws_FnConns.j0 k (!t376) t356 t357 t358 t359 t360 t361 bt366.1 bt366.2.1 bt366.2.2.1 bt366.2.2.2.1 bt366.2.2.2.2.1 bt366.2.2.2.2.2.1)))) = some r := H
    have A5 := Aside0.mk A50
    clear A50
    replace H := Option.bind_eq_some_iff.mp H
    obtain ⟨⟨t366, t367, t368, t369, t370, t371, t372⟩, A60, H⟩ := H
    replace H : (if (!(t366 == t356) || (!(t367 == t357) || (!(t368 == t358) || (!(t369 == t359) || (!(t370 == t360) || (!(t371 == t361))))))) = true then (laws_FnConns.j0 k true t356 t357 t358 t359 t360 t361 t366 t367 t368 t369 t370 t371) else ((laws_same.f k t372 t362).bind fun t376 => (laws_FnConns.j0 k (!t376) t356 t357 t358 t359 t360 t361 t366 t367 t368 t369 t370 t371))) = some r := H
    have A6 := Aside0.mk A60
    clear A60
    have HC7 := Aside0.mk H
    clear H
    go_enter Try.func10, Try.ntmps10
    go_upto_region 6 with (first | ((with_reducible refine gate_callee (f := 39) rfl ?_); refine goesL_ (some 15) rfl rfl Try.func39 (by kernel_rfl) rfl #[.slice A0 l0.length c0] rfl (by (try simp only [List.map_toArray, List.map_cons, List.map_nil]); first | done | rfl | (simp only [List.length_drop, List.length_take]; rfl)) ?_; (with_reducible refine (laws_big.calls _ _ l0 false _ ?side1 ?side2 A2.out).mono ?_); (case side1 => repeat (first | exact HR0.out | (with_reducible refine Kd.C_alloc ?_ _) | (with_reducible refine Kd.C_drewN ?_ _) | (with_reducible refine Kd.C_drew ?_))); (case side2 => exact HC0.out); rintro e w' ⟨rfl, ⟨nd, rfl⟩⟩; refine ⟨_, rfl, ?_⟩) | ((with_reducible refine gate_callee (f := 40) rfl ?_); refine goesL_ (some 18) rfl rfl Try.func40 (by kernel_rfl) rfl #[.slice A0 l0.length c0] rfl (by (try simp only [List.map_toArray, List.map_cons, List.map_nil]); first | done | rfl | (simp only [List.length_drop, List.length_take]; rfl)) ?_; (with_reducible refine (spec_DrawPlayConn.calls k _ _ l0 t352 t353 _ ?side1 ?side2 A4.out).mono ?_); (case side1 => repeat (first | exact HR0.out | (with_reducible refine Kd.C_alloc ?_ _) | (with_reducible refine Kd.C_drewN ?_ _) | (with_reducible refine Kd.C_drew ?_))); (case side2 => exact HC0.out); rintro e w8 ⟨v354, rfl, ho0, hb⟩; refine ⟨_, rfl, ?_⟩; have n0_ := Aside0.mk (Kd.N_lower (Kd.N_mono (ok' := fun k_ => True) ho0 (fun k_ hk_ => trivial)) (below_size (be_ HB.out))); have n1_ := Aside0.mk (below_step (be_ HB.out) hb); clear HB; have HO355 := n0_; have HB := n1_; clear n0_ n1_; (try clear hb); (try clear hb2); (try clear hk); (try clear hi); (try clear ho0); obtain ⟨Ao9, co9, eo9⟩ := Kd.N_slice HO355.out; subst eo9) | ((with_reducible refine gate_callee (f := 31) rfl ?_); refine goesL_ (some 24) rfl rfl Try.func31 (by kernel_rfl) rfl #[.int .i64 t352, .slice Ao9 t353.length co9] rfl (by (try simp only [List.map_toArray, List.map_cons, List.map_nil]); first | done | rfl | (simp only [List.length_drop, List.length_take]; rfl)) ?_; (with_reducible refine (spec_PlayConn.calls k t352 _ _ t353 t356 t357 t358 t359 t360 t361 t362 _ ?side1 ?side2 A5.out).mono ?_); (case side1 => repeat (first | exact (Kd.N_reads' HO355.out).2.2 | (with_reducible refine Kd.C_alloc ?_ _) | (with_reducible refine Kd.C_drewN ?_ _) | (with_reducible refine Kd.C_drew ?_))); (case side2 => exact (Kd.N_reads' HO355.out).2.1); rintro e w10 ⟨v363, rfl, ho0, hb⟩; refine ⟨_, rfl, ?_⟩; have n0_ := Aside0.mk (Kd.N_elder' (by (with_reducible repeat (first | apply Kd.N_alloc | apply Kd.N_drewN | apply Kd.N_drew)); exact HO355.out) (Kd.R_base ho0) hb); have n1_ := Aside0.mk (Kd.R_lower ho0 (below_size (be_ HB.out))); have n2_ := Aside0.mk (below_step (be_ HB.out) hb); clear HO355 HB; have HO355 := n0_; have HO364 := n1_; have HB := n2_; clear n0_ n1_ n2_; (try clear hb); (try clear hb2); (try clear hk); (try clear hi); (try clear ho0)) | ((with_reducible refine gate_dst (N := 5) rfl ?_); refine box_event ?hg (N := 5) ?hd (cs := #[.int .i64 0, .int .i64 0, .int .i64 0, .int .i64 0, .int .i64 0, .bool false]) (t := 24) ?hr ?_; (case hd => rfl); (case hg => rfl); (case hr => first | (go_simp; done) | (go_simp; rfl)); intro gb365 hg w11 hbox hb; have n0_ := Aside0.mk (Kd.N_below (Kd.N_elderB (by (with_reducible repeat (first | apply Kd.N_alloc | apply Kd.N_drewN | apply Kd.N_drew)); exact HO355.out) gb365 (Nat.le_of_eq hg.symm)) hb); have n1_ := Aside0.mk (Kd.R_below (ro_ HO364.out) hb); have n2_ := Aside0.mk (below_step (be_ HB.out) hb); have n3_ := Aside0.mk (hbox); have n4_ := Aside0.mk ((by rw [hg]; exact (below_size (be_ HB.out)) : w.heap.size ≤ gb365)); have n5_ := Aside0.mk ((by rw [hg]; exact (below_size (be_ HB.out)) : w.heap.size ≤ gb365)); clear HO355 HO364 HB; have HO355 := n0_; have HO364 := n1_; have HB := n2_; have BK365 := n3_; have GW365 := n4_; have GE365 := n5_; clear n0_ n1_ n2_ n3_ n4_ n5_; clear hb hbox hg; obtain ⟨hcz12_0, hcz12_1, hcz12_2, hcz12_3, hcz12_4, hcz12_5, hfz12_0, hfz12_1, hfz12_2, hfz12_3, hfz12_4, hfz12_5⟩ := cz6_ BK365.out) | ((with_reducible refine gate_callee (f := 33) rfl ?_); refine goesL_ (some 30) rfl rfl Try.func33 (by kernel_rfl) rfl #[.int .i64 t352, .slice Ao9 t353.length co9] rfl (by (try simp only [List.map_toArray, List.map_cons, List.map_nil]); first | done | rfl | (simp only [List.length_drop, List.length_take]; rfl)) ?_; (with_reducible refine (impl_PlayConn.calls k t352 _ _ t353 t366 t367 t368 t369 t370 t371 t372 _ ?side1 ?side2 A6.out).mono ?_); (case side1 => refine (Kd.N_reads' (e := 58) (base := w.heap.size) (ok := fun k_ => ((True ∧ some k_ ≠ (v363 : Value).ownBlock) ∧ k_ ≠ gb365)) (n := t353.length) (c := co9) ?_).2.2; exact (by (with_reducible repeat (first | apply Kd.N_alloc | apply Kd.N_drewN | apply Kd.N_drew)); exact (Kd.N_mono (Kd.N_far (p := ⟨gb365, 5, none⟩) (Kd.N_far (p := ⟨gb365, 4, none⟩) (Kd.N_far (p := ⟨gb365, 3, none⟩) (Kd.N_far (p := ⟨gb365, 2, none⟩) (Kd.N_far (p := ⟨gb365, 1, none⟩) (Kd.N_far (p := ⟨gb365, 0, none⟩) (Kd.N_mono HO355.out (fun k_ hk => (⟨hk, hk.2⟩ : _ ∧ k_ ≠ gb365))) (fun _ hk => hk.2) (.int .i64 t356)) (fun _ hk => hk.2) (.int .i64 t357)) (fun _ hk => hk.2) (.int .i64 t358)) (fun _ hk => hk.2) (.int .i64 t359)) (fun _ hk => hk.2) (.int .i64 t360)) (fun _ hk => hk.2) (.bool t361)) (fun _ h_ => h_.1)))); (case side2 => exact (Kd.N_reads' HO355.out).2.1); rintro e w13 ⟨v373, rfl, ho0, hb⟩; refine ⟨_, rfl, ?_⟩; have n0_ := Aside0.mk (Kd.N_elder' (by (with_reducible repeat (first | apply Kd.N_alloc | apply Kd.N_drewN | apply Kd.N_drew)); exact (Kd.N_mono (Kd.N_far (p := ⟨gb365, 5, none⟩) (Kd.N_far (p := ⟨gb365, 4, none⟩) (Kd.N_far (p := ⟨gb365, 3, none⟩) (Kd.N_far (p := ⟨gb365, 2, none⟩) (Kd.N_far (p := ⟨gb365, 1, none⟩) (Kd.N_far (p := ⟨gb365, 0, none⟩) (Kd.N_mono HO355.out (fun k_ hk => (⟨hk, hk.2⟩ : _ ∧ k_ ≠ gb365))) (fun _ hk => hk.2) (.int .i64 t356)) (fun _ hk => hk.2) (.int .i64 t357)) (fun _ hk => hk.2) (.int .i64 t358)) (fun _ hk => hk.2) (.int .i64 t359)) (fun _ hk => hk.2) (.int .i64 t360)) (fun _ hk => hk.2) (.bool t361)) (fun _ h_ => h_.1))) (Kd.R_base ho0) hb); have n1_ := Aside0.mk (Kd.R_elder' (by (with_reducible repeat (first | apply Kd.R_alloc | apply Kd.R_drewN | apply Kd.R_drew)); exact (Kd.R_mono (Kd.R_far (p := ⟨gb365, 5, none⟩) (Kd.R_far (p := ⟨gb365, 4, none⟩) (Kd.R_far (p := ⟨gb365, 3, none⟩) (Kd.R_far (p := ⟨gb365, 2, none⟩) (Kd.R_far (p := ⟨gb365, 1, none⟩) (Kd.R_far (p := ⟨gb365, 0, none⟩) (Kd.R_types HO364.out BK365.out (by decide)) (fun _ hk => hk.2) (.int .i64 t356)) (fun _ hk => hk.2) (.int .i64 t357)) (fun _ hk => hk.2) (.int .i64 t358)) (fun _ hk => hk.2) (.int .i64 t359)) (fun _ hk => hk.2) (.int .i64 t360)) (fun _ hk => hk.2) (.bool t361)) (fun _ h_ => h_.1))) (Kd.R_base ho0) hb); have n2_ := Aside0.mk (Kd.R_lower (Kd.R_new' ho0 (Kd.R_lt (by (with_reducible repeat (first | apply Kd.R_alloc | apply Kd.R_drewN | apply Kd.R_drew)); exact (Kd.R_mono (Kd.R_far (p := ⟨gb365, 5, none⟩) (Kd.R_far (p := ⟨gb365, 4, none⟩) (Kd.R_far (p := ⟨gb365, 3, none⟩) (Kd.R_far (p := ⟨gb365, 2, none⟩) (Kd.R_far (p := ⟨gb365, 1, none⟩) (Kd.R_far (p := ⟨gb365, 0, none⟩) (Kd.R_types HO364.out BK365.out (by decide)) (fun _ hk => hk.2) (.int .i64 t356)) (fun _ hk => hk.2) (.int .i64 t357)) (fun _ hk => hk.2) (.int .i64 t358)) (fun _ hk => hk.2) (.int .i64 t359)) (fun _ hk => hk.2) (.int .i64 t360)) (fun _ hk => hk.2) (.bool t361)) (fun _ h_ => h_.1))))) (below_size (be_ HB.out))); have n3_ := Aside0.mk (blk_below (g := gb365) (o := .cells #[.int .i64 t356, .int .i64 t357, .int .i64 t358, .int .i64 t359, .int .i64 t360, .bool t361] 24 (0, 0)) (by refine bl_ ?_; refine blk_put (cs := #[.int .i64 t356, .int .i64 t357, .int .i64 t358, .int .i64 t359, .int .i64 t360, .bool false]) ?_ 5 _ rfl; refine bl_ ?_; refine blk_put (cs := #[.int .i64 t356, .int .i64 t357, .int .i64 t358, .int .i64 t359, .int .i64 0, .bool false]) ?_ 4 _ rfl; refine bl_ ?_; refine blk_put (cs := #[.int .i64 t356, .int .i64 t357, .int .i64 t358, .int .i64 0, .int .i64 0, .bool false]) ?_ 3 _ rfl; refine bl_ ?_; refine blk_put (cs := #[.int .i64 t356, .int .i64 t357, .int .i64 0, .int .i64 0, .int .i64 0, .bool false]) ?_ 2 _ rfl; refine bl_ ?_; refine blk_put (cs := #[.int .i64 t356, .int .i64 0, .int .i64 0, .int .i64 0, .int .i64 0, .bool false]) ?_ 1 _ rfl; refine bl_ ?_; refine blk_put (cs := #[.int .i64 0, .int .i64 0, .int .i64 0, .int .i64 0, .int .i64 0, .bool false]) ?_ 0 _ rfl; refine bl_ ?_; exact BK365.out) hb); have n4_ := Aside0.mk (below_step (be_ HB.out) hb); clear HO355 HO364 BK365 HB; have HO355 := n0_; have HO364 := n1_; have HO374 := n2_; have BK365 := n3_; have HB := n4_; clear n0_ n1_ n2_ n3_ n4_; (try clear hb); (try clear hb2); (try clear hk); (try clear hi); (try clear ho0)) | ((with_reducible refine gate_dst (N := 7) rfl ?_); refine box_event ?hg (N := 7) ?hd (cs := #[.int .i64 0, .int .i64 0, .int .i64 0, .int .i64 0, .int .i64 0, .bool false]) (t := 24) ?hr ?_; (case hd => rfl); (case hg => rfl); (case hr => first | (go_simp; done) | (go_simp; rfl)); intro gb375 hg w14 hbox hb; have n0_ := Aside0.mk (Kd.N_below (Kd.N_elderB (by (with_reducible repeat (first | apply Kd.N_alloc | apply Kd.N_drewN | apply Kd.N_drew)); exact HO355.out) gb375 (Nat.le_of_eq hg.symm)) hb); have n1_ := Aside0.mk (Kd.R_below (ro_ HO364.out) hb); have n2_ := Aside0.mk (Kd.R_below (ro_ HO374.out) hb); have n3_ := Aside0.mk (blk_below (bl_ BK365.out) hb); have n4_ := Aside0.mk (below_step (be_ HB.out) hb); have n5_ := Aside0.mk (hbox); have n6_ := Aside0.mk ((by rw [hg]; exact (below_size (be_ HB.out)) : w.heap.size ≤ gb375)); have n7_ := Aside0.mk ((by rw [hg]; exact (below_size (be_ HB.out)) : w.heap.size ≤ gb375)); have n8_ := Aside0.mk ((by rw [hg]; exact Nat.ne_of_lt (blk_lt (g := gb365) (o := .cells #[.int .i64 t356, .int .i64 t357, .int .i64 t358, .int .i64 t359, .int .i64 t360, .bool t361] 24 (0, 0)) (bl_ BK365.out)) : gb365 ≠ gb375)); have n9_ := Aside0.mk ((by rw [hg]; exact Nat.ne_of_gt (blk_lt (g := gb365) (o := .cells #[.int .i64 t356, .int .i64 t357, .int .i64 t358, .int .i64 t359, .int .i64 t360, .bool t361] 24 (0, 0)) (bl_ BK365.out)) : gb375 ≠ gb365)); clear HO355 HO364 HO374 BK365 HB; have HO355 := n0_; have HO364 := n1_; have HO374 := n2_; have BK365 := n3_; have HB := n4_; have BK375 := n5_; have GW375 := n6_; have GE375 := n7_; have NB365_375 := n8_; have NB375_365 := n9_; clear n0_ n1_ n2_ n3_ n4_ n5_ n6_ n7_ n8_ n9_; clear hb hbox hg; have hnb15 := NB375_365.out; have hnc15 := NB365_375.out; obtain ⟨hcz16_0, hcz16_1, hcz16_2, hcz16_3, hcz16_4, hcz16_5, hfz16_0, hfz16_1, hfz16_2, hfz16_3, hfz16_4, hfz16_5⟩ := cz6_ BK375.out))
    (try simp only [Act.put, List.setIfInBounds_toArray, List.set_cons_zero, List.set_cons_succ])
    go_cut [41] (fun zv41 wc => ∃ (kq : Nat) (x41_6 : Bool), zv41 = .bool x41_6 ∧ Aside0 (laws_FnConns.j0 kq x41_6 t356 t357 t358 t359 t360 t361 t366 t367 t368 t369 t370 t371 = some r) ∧ Aside0 (kq ≤ k) ∧ Aside0 (wc.heap[gb365]? = some (.cells #[.int .i64 t356, .int .i64 t357, .int .i64 t358, .int .i64 t359, .int .i64 t360, .bool t361] 24 (0, 0))) ∧ Aside0 (wc.heap[gb375]? = some (.cells #[.int .i64 t366, .int .i64 t367, .int .i64 t368, .int .i64 t369, .int .i64 t370, .bool t371] 24 (0, 0))) ∧ Aside0 (Below w.heap.size w wc))
    case first =>
      have H := HC7.out
      clear HC7
      by_cases c17 : (!(t366 == t356) || (!(t367 == t357) || (!(t368 == t358) || (!(t369 == t359) || (!(t370 == t360) || (!(t371 == t361))))))) = true
      · rw [if_pos c17] at H
        have c17b0 : (!(t366 == t356) || (!(t367 == t357) || (!(t368 == t358) || (!(t369 == t359) || (!(t370 == t360) || (!(t371 == t361))))))) = true := c17
        clear c17
        (first | rw [c17b0] | (simp only [i64_w, i32_w]; rw [c17b0]) | skip)
        have H' := Aside0.mk H
        clear H
        have hnb18 := NB375_365.out
        have hnc18 := NB365_375.out
        obtain ⟨hcz19_0, hcz19_1, hcz19_2, hcz19_3, hcz19_4, hcz19_5, hfz19_0, hfz19_1, hfz19_2, hfz19_3, hfz19_4, hfz19_5⟩ := cz6_ BK375.out
        obtain ⟨hcz20_0, hcz20_1, hcz20_2, hcz20_3, hcz20_4, hcz20_5, hfz20_0, hfz20_1, hfz20_2, hfz20_3, hfz20_4, hfz20_5⟩ := cz6_ BK365.out
        go_wp2
        go_meet
        case rel => exact ⟨_, (true), (by first | rfl | (simp; done) | (simp [*]; done)), H', ⟨by first | omega | exact Nat.le_refl _⟩, ⟨by refine bl_ ?_; refine blk_far ?_ NB365_375.out _; refine bl_ ?_; refine blk_far ?_ NB365_375.out _; refine bl_ ?_; refine blk_far ?_ NB365_375.out _; refine bl_ ?_; refine blk_far ?_ NB365_375.out _; refine bl_ ?_; refine blk_far ?_ NB365_375.out _; refine bl_ ?_; refine blk_far ?_ NB365_375.out _; refine bl_ ?_; exact BK365.out⟩, ⟨by refine bl_ ?_; refine blk_put (cs := #[.int .i64 t366, .int .i64 t367, .int .i64 t368, .int .i64 t369, .int .i64 t370, .bool false]) ?_ 5 _ rfl; refine bl_ ?_; refine blk_put (cs := #[.int .i64 t366, .int .i64 t367, .int .i64 t368, .int .i64 t369, .int .i64 0, .bool false]) ?_ 4 _ rfl; refine bl_ ?_; refine blk_put (cs := #[.int .i64 t366, .int .i64 t367, .int .i64 t368, .int .i64 0, .int .i64 0, .bool false]) ?_ 3 _ rfl; refine bl_ ?_; refine blk_put (cs := #[.int .i64 t366, .int .i64 t367, .int .i64 0, .int .i64 0, .int .i64 0, .bool false]) ?_ 2 _ rfl; refine bl_ ?_; refine blk_put (cs := #[.int .i64 t366, .int .i64 0, .int .i64 0, .int .i64 0, .int .i64 0, .bool false]) ?_ 1 _ rfl; refine bl_ ?_; refine blk_put (cs := #[.int .i64 0, .int .i64 0, .int .i64 0, .int .i64 0, .int .i64 0, .bool false]) ?_ 0 _ rfl; refine bl_ ?_; exact BK375.out⟩, ⟨be_ HB.out⟩⟩
      · rw [if_neg c17] at H
        have c17b0 : (!(t366 == t356) || (!(t367 == t357) || (!(t368 == t358) || (!(t369 == t359) || (!(t370 == t360) || (!(t371 == t361))))))) = false := by simpa using c17
        clear c17
        (first | rw [c17b0] | (simp only [i64_w, i32_w]; rw [c17b0]) | skip)
        replace H := Option.bind_eq_some_iff.mp H
        obtain ⟨t376, A210, H⟩ := H
        replace H : (laws_FnConns.j0 k (!t376) t356 t357 t358 t359 t360 t361 t366 t367 t368 t369 t370 t371) = some r := H
        have A21 := Aside0.mk A210
        clear A210
        have H' := Aside0.mk H
        clear H
        have hnb22 := NB375_365.out
        have hnc22 := NB365_375.out
        obtain ⟨hcz23_0, hcz23_1, hcz23_2, hcz23_3, hcz23_4, hcz23_5, hfz23_0, hfz23_1, hfz23_2, hfz23_3, hfz23_4, hfz23_5⟩ := cz6_ BK375.out
        obtain ⟨hcz24_0, hcz24_1, hcz24_2, hcz24_3, hcz24_4, hcz24_5, hfz24_0, hfz24_1, hfz24_2, hfz24_3, hfz24_4, hfz24_5⟩ := cz6_ BK365.out
        obtain ⟨Ao25, co25, eo25⟩ := Kd.R_slice HO374.out
        subst eo25
        obtain ⟨Ao26, co26, eo26⟩ := Kd.R_slice HO364.out
        subst eo26
        go_wp2_with (first | (go_at_call 41; (with_reducible refine (laws_same.calls k _ _ t372 _ _ t362 t376 _ ?side1 ?side2 ?side3 ?side4 A21.out).mono ?_); (case side1 => refine (Kd.R_reads' (e := 3) (base := w.heap.size) (ok := fun k_ => (True ∧ some k_ ≠ (.slice Ao26 t362.length co26 : Value).ownBlock)) (n := t372.length) (c := co25) ?_).2.2; exact (by (with_reducible repeat (first | apply Kd.R_alloc | apply Kd.R_drewN | apply Kd.R_drew)); exact (Kd.R_mono (Kd.R_far (p := ⟨gb375, 5, none⟩) (Kd.R_far (p := ⟨gb375, 4, none⟩) (Kd.R_far (p := ⟨gb375, 3, none⟩) (Kd.R_far (p := ⟨gb375, 2, none⟩) (Kd.R_far (p := ⟨gb375, 1, none⟩) (Kd.R_far (p := ⟨gb375, 0, none⟩) (Kd.R_types HO374.out BK375.out (by decide)) (fun _ hk => hk.2) (.int .i64 t366)) (fun _ hk => hk.2) (.int .i64 t367)) (fun _ hk => hk.2) (.int .i64 t368)) (fun _ hk => hk.2) (.int .i64 t369)) (fun _ hk => hk.2) (.int .i64 t370)) (fun _ hk => hk.2) (.bool t371)) (fun _ h_ => h_.1)))); (case side2 => exact (Kd.R_reads' HO374.out).2.1); (case side3 => refine (Kd.R_reads' (e := 3) (base := w.heap.size) (ok := fun k_ => (True ∧ some k_ ≠ (.slice Ao25 t372.length co25 : Value).ownBlock)) (n := t362.length) (c := co26) ?_).2.2; exact (by (with_reducible repeat (first | apply Kd.R_alloc | apply Kd.R_drewN | apply Kd.R_drew)); exact (Kd.R_mono (Kd.R_far (p := ⟨gb375, 5, none⟩) (Kd.R_far (p := ⟨gb375, 4, none⟩) (Kd.R_far (p := ⟨gb375, 3, none⟩) (Kd.R_far (p := ⟨gb375, 2, none⟩) (Kd.R_far (p := ⟨gb375, 1, none⟩) (Kd.R_far (p := ⟨gb375, 0, none⟩) (Kd.R_types HO364.out BK375.out (by decide)) (fun _ hk => hk.2) (.int .i64 t366)) (fun _ hk => hk.2) (.int .i64 t367)) (fun _ hk => hk.2) (.int .i64 t368)) (fun _ hk => hk.2) (.int .i64 t369)) (fun _ hk => hk.2) (.int .i64 t370)) (fun _ hk => hk.2) (.bool t371)) (fun _ h_ => h_.1)))); (case side4 => exact (Kd.R_reads' HO364.out).2.1); rintro e w' ⟨rfl, ⟨nd, rfl⟩⟩))
        go_meet
        case rel => exact ⟨_, (!t376), (by first | rfl | (simp; done) | (simp [*]; done)), H', ⟨by first | omega | exact Nat.le_refl _⟩, ⟨by refine bl_ ?_; refine blk_far ?_ NB365_375.out _; refine bl_ ?_; refine blk_far ?_ NB365_375.out _; refine bl_ ?_; refine blk_far ?_ NB365_375.out _; refine bl_ ?_; refine blk_far ?_ NB365_375.out _; refine bl_ ?_; refine blk_far ?_ NB365_375.out _; refine bl_ ?_; refine blk_far ?_ NB365_375.out _; refine bl_ ?_; exact BK365.out⟩, ⟨by refine bl_ ?_; refine blk_put (cs := #[.int .i64 t366, .int .i64 t367, .int .i64 t368, .int .i64 t369, .int .i64 t370, .bool false]) ?_ 5 _ rfl; refine bl_ ?_; refine blk_put (cs := #[.int .i64 t366, .int .i64 t367, .int .i64 t368, .int .i64 t369, .int .i64 0, .bool false]) ?_ 4 _ rfl; refine bl_ ?_; refine blk_put (cs := #[.int .i64 t366, .int .i64 t367, .int .i64 t368, .int .i64 0, .int .i64 0, .bool false]) ?_ 3 _ rfl; refine bl_ ?_; refine blk_put (cs := #[.int .i64 t366, .int .i64 t367, .int .i64 0, .int .i64 0, .int .i64 0, .bool false]) ?_ 2 _ rfl; refine bl_ ?_; refine blk_put (cs := #[.int .i64 t366, .int .i64 0, .int .i64 0, .int .i64 0, .int .i64 0, .bool false]) ?_ 1 _ rfl; refine bl_ ?_; refine blk_put (cs := #[.int .i64 0, .int .i64 0, .int .i64 0, .int .i64 0, .int .i64 0, .bool false]) ?_ 0 _ rfl; refine bl_ ?_; exact BK375.out⟩, ⟨be_ HB.out⟩⟩
    case rest =>
      clear HC7
      try clear c1
      try clear c2
      try clear p2
      try clear c3
      try clear c4
      try clear c10
      try clear c15
      try clear c17
      try clear c17b0
      try clear c18
      try clear c22
      try clear hcz12_0
      try clear hcz12_1
      try clear hcz12_2
      try clear hcz12_3
      try clear hcz12_4
      try clear hcz12_5
      try clear hcz16_0
      try clear hcz16_1
      try clear hcz16_2
      try clear hcz16_3
      try clear hcz16_4
      try clear hcz16_5
      try clear hcz19_0
      try clear hcz19_1
      try clear hcz19_2
      try clear hcz19_3
      try clear hcz19_4
      try clear hcz19_5
      try clear hcz20_0
      try clear hcz20_1
      try clear hcz20_2
      try clear hcz20_3
      try clear hcz20_4
      try clear hcz20_5
      try clear hcz23_0
      try clear hcz23_1
      try clear hcz23_2
      try clear hcz23_3
      try clear hcz23_4
      try clear hcz23_5
      try clear hcz24_0
      try clear hcz24_1
      try clear hcz24_2
      try clear hcz24_3
      try clear hcz24_4
      try clear hcz24_5
      try clear hfz12_0
      try clear hfz12_1
      try clear hfz12_2
      try clear hfz12_3
      try clear hfz12_4
      try clear hfz12_5
      try clear hfz16_0
      try clear hfz16_1
      try clear hfz16_2
      try clear hfz16_3
      try clear hfz16_4
      try clear hfz16_5
      try clear hfz19_0
      try clear hfz19_1
      try clear hfz19_2
      try clear hfz19_3
      try clear hfz19_4
      try clear hfz19_5
      try clear hfz20_0
      try clear hfz20_1
      try clear hfz20_2
      try clear hfz20_3
      try clear hfz20_4
      try clear hfz20_5
      try clear hfz23_0
      try clear hfz23_1
      try clear hfz23_2
      try clear hfz23_3
      try clear hfz23_4
      try clear hfz23_5
      try clear hfz24_0
      try clear hfz24_1
      try clear hfz24_2
      try clear hfz24_3
      try clear hfz24_4
      try clear hfz24_5
      obtain ⟨kq, x41_6, rfl, HA, HJ6, BK365, BK375, HB⟩ := hcut
      cases kq with
      | zero => exact absurd HA.out (by simp [laws_FnConns.j0])
      | succ kj6 =>
        have H := HA.out
        clear HA
        simp only [laws_FnConns.j0] at H
        by_cases c27 : x41_6 = true
        · subst c27
          have H1 : (some false) = some r := by rw [if_pos rfl] at H; exact H
          clear H
          have H := H1
          clear H1
          obtain rfl := Option.some.inj H
          go_wp2
          go_ret
          exact ⟨by first | rfl | (simp [errW_none, errW_some] <;> rfl) | (simp [*, errW_none, errW_some] <;> rfl), be_ HB.out⟩
        · replace c27 := Bool.eq_false_iff.mpr c27
          subst c27
          have H1 : (if t356 = 0 then (some true) else ((spec_ConnOk.f kj6 t366 t367 t368 t369 t370 t371).bind fun t377 => (if t377 = true then (laws_FnConns.j1 kj6 ((t367 == 3) != (decide (t370 > 0))) t366 t367 t368 t369 t370 t371) else (laws_FnConns.j1 kj6 true t366 t367 t368 t369 t370 t371)))) = some r := by rw [if_neg (show ¬ (false = true) by decide)] at H; exact H
          clear H
          have H := H1
          clear H1
          by_cases c28 : t356 = 0
          · rw [if_pos c28] at H
            have c28b0 : (t356 == 0) = true := beq_iff_eq.mpr c28
            have c28b1 : (t356 != 0) = false := bne_eq_false_iff_eq.mpr c28
            clear c28
            obtain rfl := Option.some.inj H
            have hnb29 := NB365_375.out
            have hnc29 := NB375_365.out
            obtain ⟨hcz30_0, hcz30_1, hcz30_2, hcz30_3, hcz30_4, hcz30_5, hfz30_0, hfz30_1, hfz30_2, hfz30_3, hfz30_4, hfz30_5⟩ := cz6_ BK365.out
            go_wp2
            go_ret
            exact ⟨by first | rfl | (simp [errW_none, errW_some] <;> rfl) | (simp [*, errW_none, errW_some] <;> rfl), be_ HB.out⟩
          · rw [if_neg c28] at H
            have c28b0 : (t356 == 0) = false := beq_eq_false_iff_ne.mpr c28
            have c28b1 : (t356 != 0) = true := bne_iff_ne.mpr c28
            have HC31 := Aside0.mk H
            clear H
            have hnb32 := NB365_375.out
            have hnc32 := NB375_365.out
            obtain ⟨hcz33_0, hcz33_1, hcz33_2, hcz33_3, hcz33_4, hcz33_5, hfz33_0, hfz33_1, hfz33_2, hfz33_3, hfz33_4, hfz33_5⟩ := cz6_ BK365.out
            go_upto_region 10 with (fail)
            go_cut [56] (fun zv56 wc => ∃ (kq : Nat) (x56_30 : Bool), zv56 = .bool x56_30 ∧ Aside0 (laws_FnConns.j1 kq x56_30 t366 t367 t368 t369 t370 t371 = some r) ∧ Aside0 (kq ≤ kj6) ∧ Aside0 (wc.heap[gb365]? = some (.cells #[.int .i64 t356, .int .i64 t357, .int .i64 t358, .int .i64 t359, .int .i64 t360, .bool t361] 24 (0, 0))) ∧ Aside0 (wc.heap[gb375]? = some (.cells #[.int .i64 t366, .int .i64 t367, .int .i64 t368, .int .i64 t369, .int .i64 t370, .bool t371] 24 (0, 0))) ∧ Aside0 (Below w.heap.size w wc))
            case first =>
              have H := HC31.out
              clear HC31
              replace H := Option.bind_eq_some_iff.mp H
              obtain ⟨t377, A340, H⟩ := H
              replace H : (if t377 = true then (laws_FnConns.j1 kj6 ((t367 == 3) != (decide (t370 > 0))) t366 t367 t368 t369 t370 t371) else (laws_FnConns.j1 kj6 true t366 t367 t368 t369 t370 t371)) = some r := H
              have A34 := Aside0.mk A340
              clear A340
              by_cases c35 : t377 = true
              · subst c35
                have H1 : (laws_FnConns.j1 kj6 ((t367 == 3) != (decide (t370 > 0))) t366 t367 t368 t369 t370 t371) = some r := by rw [if_pos rfl] at H; exact H
                clear H
                have H := H1
                clear H1
                have H' := Aside0.mk H
                clear H
                have hnb36 := NB375_365.out
                have hnc36 := NB365_375.out
                obtain ⟨hcz37_0, hcz37_1, hcz37_2, hcz37_3, hcz37_4, hcz37_5, hfz37_0, hfz37_1, hfz37_2, hfz37_3, hfz37_4, hfz37_5⟩ := cz6_ BK375.out
                go_wp2_with (first | ((with_reducible refine gate_callee (f := 42) rfl ?_); refine goesL_ (some 46) rfl rfl Try.func42 (by kernel_rfl) rfl #[.agg #[.int .i64 t366, .int .i64 t367, .int .i64 t368, .int .i64 t369, .int .i64 t370, .bool t371]] rfl (by (try simp only [List.map_toArray, List.map_cons, List.map_nil]); first | done | rfl | (simp only [List.length_drop, List.length_take]; rfl)) ?_; (with_reducible refine (spec_ConnOk.calls kj6 t366 t367 t368 t369 t370 t371 true _ A34.out).mono ?_); rintro e w38 ⟨rfl, hb⟩; refine ⟨_, rfl, ?_⟩; have n0_ := Aside0.mk (blk_below (bl_ BK365.out) hb); have n1_ := Aside0.mk (blk_below (bl_ BK375.out) hb); have n2_ := Aside0.mk (below_step (be_ HB.out) hb); clear BK365 BK375 HB; have BK365 := n0_; have BK375 := n1_; have HB := n2_; clear n0_ n1_ n2_; (try clear hb); (try clear hb2); (try clear hk); (try clear hi); obtain ⟨hcz39_0, hcz39_1, hcz39_2, hcz39_3, hcz39_4, hcz39_5, hfz39_0, hfz39_1, hfz39_2, hfz39_3, hfz39_4, hfz39_5⟩ := cz6_ BK375.out))
                go_meet
                case rel => exact ⟨_, (((t367 == 3) != (decide (t370 > 0)))), (by first | rfl | (simp; done) | (simp [*]; done)), H', ⟨by have := HJ6.out; first | omega | exact Nat.le_refl _⟩, ⟨by refine bl_ ?_; exact BK365.out⟩, ⟨by refine bl_ ?_; exact BK375.out⟩, ⟨be_ HB.out⟩⟩
              · replace c35 := Bool.eq_false_iff.mpr c35
                subst c35
                have H1 : (laws_FnConns.j1 kj6 true t366 t367 t368 t369 t370 t371) = some r := by rw [if_neg (show ¬ (false = true) by decide)] at H; exact H
                clear H
                have H := H1
                clear H1
                have H' := Aside0.mk H
                clear H
                have hnb40 := NB375_365.out
                have hnc40 := NB365_375.out
                obtain ⟨hcz41_0, hcz41_1, hcz41_2, hcz41_3, hcz41_4, hcz41_5, hfz41_0, hfz41_1, hfz41_2, hfz41_3, hfz41_4, hfz41_5⟩ := cz6_ BK375.out
                go_wp2_with (first | ((with_reducible refine gate_callee (f := 42) rfl ?_); refine goesL_ (some 46) rfl rfl Try.func42 (by kernel_rfl) rfl #[.agg #[.int .i64 t366, .int .i64 t367, .int .i64 t368, .int .i64 t369, .int .i64 t370, .bool t371]] rfl (by (try simp only [List.map_toArray, List.map_cons, List.map_nil]); first | done | rfl | (simp only [List.length_drop, List.length_take]; rfl)) ?_; (with_reducible refine (spec_ConnOk.calls kj6 t366 t367 t368 t369 t370 t371 false _ A34.out).mono ?_); rintro e w42 ⟨rfl, hb⟩; refine ⟨_, rfl, ?_⟩; have n0_ := Aside0.mk (blk_below (bl_ BK365.out) hb); have n1_ := Aside0.mk (blk_below (bl_ BK375.out) hb); have n2_ := Aside0.mk (below_step (be_ HB.out) hb); clear BK365 BK375 HB; have BK365 := n0_; have BK375 := n1_; have HB := n2_; clear n0_ n1_ n2_; (try clear hb); (try clear hb2); (try clear hk); (try clear hi)))
                go_meet
                case rel => exact ⟨_, (true), (by first | rfl | (simp; done) | (simp [*]; done)), H', ⟨by have := HJ6.out; first | omega | exact Nat.le_refl _⟩, ⟨by refine bl_ ?_; exact BK365.out⟩, ⟨by refine bl_ ?_; exact BK375.out⟩, ⟨be_ HB.out⟩⟩
            case rest =>
              clear HC31
              try clear c1
              try clear c2
              try clear p2
              try clear c3
              try clear c4
              try clear c10
              try clear c15
              try clear c17
              try clear c17b0
              try clear c18
              try clear c22
              try clear c27
              try clear c28
              try clear c28b0
              try clear c28b1
              try clear c29
              try clear c31
              try clear c32
              try clear c33
              try clear c35
              try clear c36
              try clear c39
              try clear c40
              try clear c42
              try clear hcz12_0
              try clear hcz12_1
              try clear hcz12_2
              try clear hcz12_3
              try clear hcz12_4
              try clear hcz12_5
              try clear hcz16_0
              try clear hcz16_1
              try clear hcz16_2
              try clear hcz16_3
              try clear hcz16_4
              try clear hcz16_5
              try clear hcz19_0
              try clear hcz19_1
              try clear hcz19_2
              try clear hcz19_3
              try clear hcz19_4
              try clear hcz19_5
              try clear hcz20_0
              try clear hcz20_1
              try clear hcz20_2
              try clear hcz20_3
              try clear hcz20_4
              try clear hcz20_5
              try clear hcz23_0
              try clear hcz23_1
              try clear hcz23_2
              try clear hcz23_3
              try clear hcz23_4
              try clear hcz23_5
              try clear hcz24_0
              try clear hcz24_1
              try clear hcz24_2
              try clear hcz24_3
              try clear hcz24_4
              try clear hcz24_5
              try clear hcz30_0
              try clear hcz30_1
              try clear hcz30_2
              try clear hcz30_3
              try clear hcz30_4
              try clear hcz30_5
              try clear hcz33_0
              try clear hcz33_1
              try clear hcz33_2
              try clear hcz33_3
              try clear hcz33_4
              try clear hcz33_5
              try clear hcz37_0
              try clear hcz37_1
              try clear hcz37_2
              try clear hcz37_3
              try clear hcz37_4
              try clear hcz37_5
              try clear hcz39_0
              try clear hcz39_1
              try clear hcz39_2
              try clear hcz39_3
              try clear hcz39_4
              try clear hcz39_5
              try clear hcz41_0
              try clear hcz41_1
              try clear hcz41_2
              try clear hcz41_3
              try clear hcz41_4
              try clear hcz41_5
              try clear hfz12_0
              try clear hfz12_1
              try clear hfz12_2
              try clear hfz12_3
              try clear hfz12_4
              try clear hfz12_5
              try clear hfz16_0
              try clear hfz16_1
              try clear hfz16_2
              try clear hfz16_3
              try clear hfz16_4
              try clear hfz16_5
              try clear hfz19_0
              try clear hfz19_1
              try clear hfz19_2
              try clear hfz19_3
              try clear hfz19_4
              try clear hfz19_5
              try clear hfz20_0
              try clear hfz20_1
              try clear hfz20_2
              try clear hfz20_3
              try clear hfz20_4
              try clear hfz20_5
              try clear hfz23_0
              try clear hfz23_1
              try clear hfz23_2
              try clear hfz23_3
              try clear hfz23_4
              try clear hfz23_5
              try clear hfz24_0
              try clear hfz24_1
              try clear hfz24_2
              try clear hfz24_3
              try clear hfz24_4
              try clear hfz24_5
              try clear hfz30_0
              try clear hfz30_1
              try clear hfz30_2
              try clear hfz30_3
              try clear hfz30_4
              try clear hfz30_5
              try clear hfz33_0
              try clear hfz33_1
              try clear hfz33_2
              try clear hfz33_3
              try clear hfz33_4
              try clear hfz33_5
              try clear hfz37_0
              try clear hfz37_1
              try clear hfz37_2
              try clear hfz37_3
              try clear hfz37_4
              try clear hfz37_5
              try clear hfz39_0
              try clear hfz39_1
              try clear hfz39_2
              try clear hfz39_3
              try clear hfz39_4
              try clear hfz39_5
              try clear hfz41_0
              try clear hfz41_1
              try clear hfz41_2
              try clear hfz41_3
              try clear hfz41_4
              try clear hfz41_5
              try clear p2
              obtain ⟨kq, x56_30, rfl, HA, HJ30, BK365, BK375, HB⟩ := hcut
              cases kq with
              | zero => exact absurd HA.out (by simp [laws_FnConns.j1])
              | succ kj30 =>
                have H := HA.out
                clear HA
                simp only [laws_FnConns.j1] at H
                by_cases c43 : x56_30 = true
                · subst c43
                  have H1 : (some false) = some r := by rw [if_pos rfl] at H; exact H
                  clear H
                  have H := H1
                  clear H1
                  obtain rfl := Option.some.inj H
                  go_wp2
                  go_ret
                  exact ⟨by first | rfl | (simp [errW_none, errW_some] <;> rfl) | (simp [*, errW_none, errW_some] <;> rfl), be_ HB.out⟩
                · replace c43 := Bool.eq_false_iff.mpr c43
                  subst c43
                  have H1 : (if t367 = 4 then (laws_FnConns.l0 kj30 0 t366 t367 t368 t369 t370 t371) else (laws_FnConns.j3 kj30 t366 t367 t368 t369 t370 t371)) = some r := by rw [if_neg (show ¬ (false = true) by decide)] at H; exact H
                  clear H
                  have H := H1
                  clear H1
                  have HC44 := Aside0.mk H
                  clear H
                  have hnb45 := NB375_365.out
                  have hnc45 := NB365_375.out
                  obtain ⟨hcz46_0, hcz46_1, hcz46_2, hcz46_3, hcz46_4, hcz46_5, hfz46_0, hfz46_1, hfz46_2, hfz46_3, hfz46_4, hfz46_5⟩ := cz6_ BK375.out
                  go_upto_if 59 with (fail)
                  go_cut [] (fun wc => ∃ (kq : Nat), Aside0 (laws_FnConns.j3 kq t366 t367 t368 t369 t370 t371 = some r) ∧ Aside0 (kq ≤ kj30) ∧ Aside0 (wc.heap[gb365]? = some (.cells #[.int .i64 t356, .int .i64 t357, .int .i64 t358, .int .i64 t359, .int .i64 t360, .bool t361] 24 (0, 0))) ∧ Aside0 (wc.heap[gb375]? = some (.cells #[.int .i64 t366, .int .i64 t367, .int .i64 t368, .int .i64 t369, .int .i64 t370, .bool t371] 24 (0, 0))) ∧ Aside0 (Below w.heap.size w wc))
                  case first =>
                    have H := HC44.out
                    clear HC44
                    by_cases c47 : t367 = 4
                    · rw [if_pos c47] at H
                      have c47b0 : (t367 == 4) = true := beq_iff_eq.mpr c47
                      have c47b1 : (t367 != 4) = false := bne_eq_false_iff_eq.mpr c47
                      clear c47
                      (first | rw [c47b0] | (simp only [i64_w, i32_w]; rw [c47b0]) | skip)
                      have H' := Aside0.mk H
                      clear H
                      go_wp2
                      go_loopg [9] kj30 (fun kq zv9 w' => ∃ (x9_3 : Int), zv9 = .int .i64 x9_3 ∧ Aside0 (laws_FnConns.l0 kq x9_3 t366 t367 t368 t369 t370 t371 = some r) ∧ Aside0 (kq ≤ kj30) ∧ Aside0 (w'.heap[gb365]? = some (.cells #[.int .i64 t356, .int .i64 t357, .int .i64 t358, .int .i64 t359, .int .i64 t360, .bool t361] 24 (0, 0))) ∧ Aside0 (w'.heap[gb375]? = some (.cells #[.int .i64 t366, .int .i64 t367, .int .i64 t368, .int .i64 t369, .int .i64 t370, .bool t371] 24 (0, 0))) ∧ Aside0 (Below w.heap.size w w'))
                      case atStart => exact ⟨(0), (by first | rfl | (simp; done) | (simp [*]; done)), H', ⟨Nat.le_refl _⟩, ⟨by refine bl_ ?_; exact BK365.out⟩, ⟨by refine bl_ ?_; exact BK375.out⟩, ⟨be_ HB.out⟩⟩
                      case round =>
                        clear H'
                        try clear c1
                        try clear c2
                        try clear p2
                        try clear c3
                        try clear c4
                        try clear c10
                        try clear c15
                        try clear c17
                        try clear c17b0
                        try clear c18
                        try clear c22
                        try clear c27
                        try clear c28
                        try clear c28b0
                        try clear c28b1
                        try clear c29
                        try clear c31
                        try clear c32
                        try clear c33
                        try clear c35
                        try clear c36
                        try clear c39
                        try clear c40
                        try clear c42
                        try clear c43
                        try clear c45
                        try clear c47
                        try clear c47b0
                        try clear c47b1
                        try clear hcz12_0
                        try clear hcz12_1
                        try clear hcz12_2
                        try clear hcz12_3
                        try clear hcz12_4
                        try clear hcz12_5
                        try clear hcz16_0
                        try clear hcz16_1
                        try clear hcz16_2
                        try clear hcz16_3
                        try clear hcz16_4
                        try clear hcz16_5
                        try clear hcz19_0
                        try clear hcz19_1
                        try clear hcz19_2
                        try clear hcz19_3
                        try clear hcz19_4
                        try clear hcz19_5
                        try clear hcz20_0
                        try clear hcz20_1
                        try clear hcz20_2
                        try clear hcz20_3
                        try clear hcz20_4
                        try clear hcz20_5
                        try clear hcz23_0
                        try clear hcz23_1
                        try clear hcz23_2
                        try clear hcz23_3
                        try clear hcz23_4
                        try clear hcz23_5
                        try clear hcz24_0
                        try clear hcz24_1
                        try clear hcz24_2
                        try clear hcz24_3
                        try clear hcz24_4
                        try clear hcz24_5
                        try clear hcz30_0
                        try clear hcz30_1
                        try clear hcz30_2
                        try clear hcz30_3
                        try clear hcz30_4
                        try clear hcz30_5
                        try clear hcz33_0
                        try clear hcz33_1
                        try clear hcz33_2
                        try clear hcz33_3
                        try clear hcz33_4
                        try clear hcz33_5
                        try clear hcz37_0
                        try clear hcz37_1
                        try clear hcz37_2
                        try clear hcz37_3
                        try clear hcz37_4
                        try clear hcz37_5
                        try clear hcz39_0
                        try clear hcz39_1
                        try clear hcz39_2
                        try clear hcz39_3
                        try clear hcz39_4
                        try clear hcz39_5
                        try clear hcz41_0
                        try clear hcz41_1
                        try clear hcz41_2
                        try clear hcz41_3
                        try clear hcz41_4
                        try clear hcz41_5
                        try clear hcz46_0
                        try clear hcz46_1
                        try clear hcz46_2
                        try clear hcz46_3
                        try clear hcz46_4
                        try clear hcz46_5
                        try clear hfz12_0
                        try clear hfz12_1
                        try clear hfz12_2
                        try clear hfz12_3
                        try clear hfz12_4
                        try clear hfz12_5
                        try clear hfz16_0
                        try clear hfz16_1
                        try clear hfz16_2
                        try clear hfz16_3
                        try clear hfz16_4
                        try clear hfz16_5
                        try clear hfz19_0
                        try clear hfz19_1
                        try clear hfz19_2
                        try clear hfz19_3
                        try clear hfz19_4
                        try clear hfz19_5
                        try clear hfz20_0
                        try clear hfz20_1
                        try clear hfz20_2
                        try clear hfz20_3
                        try clear hfz20_4
                        try clear hfz20_5
                        try clear hfz23_0
                        try clear hfz23_1
                        try clear hfz23_2
                        try clear hfz23_3
                        try clear hfz23_4
                        try clear hfz23_5
                        try clear hfz24_0
                        try clear hfz24_1
                        try clear hfz24_2
                        try clear hfz24_3
                        try clear hfz24_4
                        try clear hfz24_5
                        try clear hfz30_0
                        try clear hfz30_1
                        try clear hfz30_2
                        try clear hfz30_3
                        try clear hfz30_4
                        try clear hfz30_5
                        try clear hfz33_0
                        try clear hfz33_1
                        try clear hfz33_2
                        try clear hfz33_3
                        try clear hfz33_4
                        try clear hfz33_5
                        try clear hfz37_0
                        try clear hfz37_1
                        try clear hfz37_2
                        try clear hfz37_3
                        try clear hfz37_4
                        try clear hfz37_5
                        try clear hfz39_0
                        try clear hfz39_1
                        try clear hfz39_2
                        try clear hfz39_3
                        try clear hfz39_4
                        try clear hfz39_5
                        try clear hfz41_0
                        try clear hfz41_1
                        try clear hfz41_2
                        try clear hfz41_3
                        try clear hfz41_4
                        try clear hfz41_5
                        try clear hfz46_0
                        try clear hfz46_1
                        try clear hfz46_2
                        try clear hfz46_3
                        try clear hfz46_4
                        try clear hfz46_5
                        try clear p2
                        obtain ⟨x9_3, rfl, HA, HK3, BK365, BK375, HB⟩ := hrel
                        cases gk with
                        | zero => exact absurd HA.out (by simp [laws_FnConns.l0])
                        | succ k3 =>
                          have H := HA.out
                          clear HA
                          simp only [laws_FnConns.l0] at H
                          by_cases c48 : x9_3 < 8
                          · rw [if_pos c48] at H
                            have c48b0 : decide (x9_3 < 8) = true := decide_eq_true c48
                            clear c48
                            replace H := Option.bind_eq_some_iff.mp H
                            obtain ⟨⟨t378, t379, t380, t381, t382, t383, t384⟩, A490, H⟩ := H
                            replace H : (if t384 = true then (some false) else (laws_FnConns.l0 k3 (wrap64 (x9_3 + 1)) t366 t367 t368 t369 t370 t371)) = some r := H
                            have A49 := Aside0.mk A490
                            clear A490
                            by_cases c50 : t384 = true
                            · subst c50
                              have H1 : (some false) = some r := by rw [if_pos rfl] at H; exact H
                              clear H
                              have H := H1
                              clear H1
                              obtain rfl := Option.some.inj H
                              have hnb51 := NB375_365.out
                              have hnc51 := NB365_375.out
                              obtain ⟨hcz52_0, hcz52_1, hcz52_2, hcz52_3, hcz52_4, hcz52_5, hfz52_0, hfz52_1, hfz52_2, hfz52_3, hfz52_4, hfz52_5⟩ := cz6_ BK375.out
                              go_wp2_with (first | ((with_reducible refine gate_callee (f := 13) rfl ?_); refine goesL_ (some 69) rfl rfl Try.func13 (by kernel_rfl) rfl #[.agg #[.int .i64 t366, .int .i64 t367, .int .i64 t368, .int .i64 t369, .int .i64 t370, .bool t371], .int .i64 x9_3, .int .i64 t369, .int .i64 1] rfl (by (try simp only [List.map_toArray, List.map_cons, List.map_nil]); first | done | rfl | (simp only [List.length_drop, List.length_take]; rfl)) ?_; (with_reducible refine (impl_StepConn.calls k3 t366 t367 t368 t369 t370 t371 x9_3 t369 1 t378 t379 t380 t381 t382 t383 true _ A49.out).mono ?_); rintro e w53 ⟨rfl, hb⟩; refine ⟨_, rfl, ?_⟩; have n0_ := Aside0.mk (blk_below (bl_ BK365.out) hb); have n1_ := Aside0.mk (blk_below (bl_ BK375.out) hb); have n2_ := Aside0.mk (below_step (be_ HB.out) hb); clear BK365 BK375 HB; have BK365 := n0_; have BK375 := n1_; have HB := n2_; clear n0_ n1_ n2_; (try clear hb); (try clear hb2); (try clear hk); (try clear hi)) | ((with_reducible refine gate_dst (N := 10) rfl ?_); refine box_event ?hg (N := 10) ?hd (cs := #[.int .i64 0, .int .i64 0, .int .i64 0, .int .i64 0, .int .i64 0, .bool false]) (t := 24) ?hr ?_; (case hd => rfl); (case hg => rfl); (case hr => first | (go_simp; done) | (go_simp; rfl)); intro gb385 hg w54 hbox hb; have n0_ := Aside0.mk (blk_below (bl_ BK365.out) hb); have n1_ := Aside0.mk (blk_below (bl_ BK375.out) hb); have n2_ := Aside0.mk (below_step (be_ HB.out) hb); have n3_ := Aside0.mk (hbox); have n4_ := Aside0.mk ((by rw [hg]; exact (below_size (be_ HB.out)) : w.heap.size ≤ gb385)); have n5_ := Aside0.mk ((by rw [hg]; exact (below_size (be_ HB.out)) : w.heap.size ≤ gb385)); have n6_ := Aside0.mk ((by rw [hg]; exact Nat.ne_of_lt (blk_lt (g := gb365) (o := .cells #[.int .i64 t356, .int .i64 t357, .int .i64 t358, .int .i64 t359, .int .i64 t360, .bool t361] 24 (0, 0)) (bl_ BK365.out)) : gb365 ≠ gb385)); have n7_ := Aside0.mk ((by rw [hg]; exact Nat.ne_of_gt (blk_lt (g := gb365) (o := .cells #[.int .i64 t356, .int .i64 t357, .int .i64 t358, .int .i64 t359, .int .i64 t360, .bool t361] 24 (0, 0)) (bl_ BK365.out)) : gb385 ≠ gb365)); have n8_ := Aside0.mk ((by rw [hg]; exact Nat.ne_of_lt (blk_lt (g := gb375) (o := .cells #[.int .i64 t366, .int .i64 t367, .int .i64 t368, .int .i64 t369, .int .i64 t370, .bool t371] 24 (0, 0)) (bl_ BK375.out)) : gb375 ≠ gb385)); have n9_ := Aside0.mk ((by rw [hg]; exact Nat.ne_of_gt (blk_lt (g := gb375) (o := .cells #[.int .i64 t366, .int .i64 t367, .int .i64 t368, .int .i64 t369, .int .i64 t370, .bool t371] 24 (0, 0)) (bl_ BK375.out)) : gb385 ≠ gb375)); clear BK365 BK375 HB; have BK365 := n0_; have BK375 := n1_; have HB := n2_; have BK385 := n3_; have GW385 := n4_; have GE385 := n5_; have NB365_385 := n6_; have NB385_365 := n7_; have NB375_385 := n8_; have NB385_375 := n9_; clear n0_ n1_ n2_ n3_ n4_ n5_ n6_ n7_ n8_ n9_; clear hb hbox hg; have hnb55 := NB385_365.out; have hnc55 := NB365_385.out; have hnb56 := NB385_375.out; have hnc56 := NB375_385.out; obtain ⟨hcz57_0, hcz57_1, hcz57_2, hcz57_3, hcz57_4, hcz57_5, hfz57_0, hfz57_1, hfz57_2, hfz57_3, hfz57_4, hfz57_5⟩ := cz6_ BK385.out))
                              go_ret
                              exact ⟨by first | rfl | (simp [errW_none, errW_some] <;> rfl) | (simp [*, errW_none, errW_some] <;> rfl), be_ HB.out⟩
                            · replace c50 := Bool.eq_false_iff.mpr c50
                              subst c50
                              have H1 : (laws_FnConns.l0 k3 (wrap64 (x9_3 + 1)) t366 t367 t368 t369 t370 t371) = some r := by rw [if_neg (show ¬ (false = true) by decide)] at H; exact H
                              clear H
                              have H := H1
                              clear H1
                              have H' := Aside0.mk H
                              clear H
                              have hnb58 := NB375_365.out
                              have hnc58 := NB365_375.out
                              obtain ⟨hcz59_0, hcz59_1, hcz59_2, hcz59_3, hcz59_4, hcz59_5, hfz59_0, hfz59_1, hfz59_2, hfz59_3, hfz59_4, hfz59_5⟩ := cz6_ BK375.out
                              go_wp2_with (first | ((with_reducible refine gate_callee (f := 13) rfl ?_); refine goesL_ (some 69) rfl rfl Try.func13 (by kernel_rfl) rfl #[.agg #[.int .i64 t366, .int .i64 t367, .int .i64 t368, .int .i64 t369, .int .i64 t370, .bool t371], .int .i64 x9_3, .int .i64 t369, .int .i64 1] rfl (by (try simp only [List.map_toArray, List.map_cons, List.map_nil]); first | done | rfl | (simp only [List.length_drop, List.length_take]; rfl)) ?_; (with_reducible refine (impl_StepConn.calls k3 t366 t367 t368 t369 t370 t371 x9_3 t369 1 t378 t379 t380 t381 t382 t383 false _ A49.out).mono ?_); rintro e w60 ⟨rfl, hb⟩; refine ⟨_, rfl, ?_⟩; have n0_ := Aside0.mk (blk_below (bl_ BK365.out) hb); have n1_ := Aside0.mk (blk_below (bl_ BK375.out) hb); have n2_ := Aside0.mk (below_step (be_ HB.out) hb); clear BK365 BK375 HB; have BK365 := n0_; have BK375 := n1_; have HB := n2_; clear n0_ n1_ n2_; (try clear hb); (try clear hb2); (try clear hk); (try clear hi)) | ((with_reducible refine gate_dst (N := 10) rfl ?_); refine box_event ?hg (N := 10) ?hd (cs := #[.int .i64 0, .int .i64 0, .int .i64 0, .int .i64 0, .int .i64 0, .bool false]) (t := 24) ?hr ?_; (case hd => rfl); (case hg => rfl); (case hr => first | (go_simp; done) | (go_simp; rfl)); intro gb385 hg w61 hbox hb; have n0_ := Aside0.mk (blk_below (bl_ BK365.out) hb); have n1_ := Aside0.mk (blk_below (bl_ BK375.out) hb); have n2_ := Aside0.mk (below_step (be_ HB.out) hb); have n3_ := Aside0.mk (hbox); have n4_ := Aside0.mk ((by rw [hg]; exact (below_size (be_ HB.out)) : w.heap.size ≤ gb385)); have n5_ := Aside0.mk ((by rw [hg]; exact (below_size (be_ HB.out)) : w.heap.size ≤ gb385)); have n6_ := Aside0.mk ((by rw [hg]; exact Nat.ne_of_lt (blk_lt (g := gb365) (o := .cells #[.int .i64 t356, .int .i64 t357, .int .i64 t358, .int .i64 t359, .int .i64 t360, .bool t361] 24 (0, 0)) (bl_ BK365.out)) : gb365 ≠ gb385)); have n7_ := Aside0.mk ((by rw [hg]; exact Nat.ne_of_gt (blk_lt (g := gb365) (o := .cells #[.int .i64 t356, .int .i64 t357, .int .i64 t358, .int .i64 t359, .int .i64 t360, .bool t361] 24 (0, 0)) (bl_ BK365.out)) : gb385 ≠ gb365)); have n8_ := Aside0.mk ((by rw [hg]; exact Nat.ne_of_lt (blk_lt (g := gb375) (o := .cells #[.int .i64 t366, .int .i64 t367, .int .i64 t368, .int .i64 t369, .int .i64 t370, .bool t371] 24 (0, 0)) (bl_ BK375.out)) : gb375 ≠ gb385)); have n9_ := Aside0.mk ((by rw [hg]; exact Nat.ne_of_gt (blk_lt (g := gb375) (o := .cells #[.int .i64 t366, .int .i64 t367, .int .i64 t368, .int .i64 t369, .int .i64 t370, .bool t371] 24 (0, 0)) (bl_ BK375.out)) : gb385 ≠ gb375)); clear BK365 BK375 HB; have BK365 := n0_; have BK375 := n1_; have HB := n2_; have BK385 := n3_; have GW385 := n4_; have GE385 := n5_; have NB365_385 := n6_; have NB385_365 := n7_; have NB375_385 := n8_; have NB385_375 := n9_; clear n0_ n1_ n2_ n3_ n4_ n5_ n6_ n7_ n8_ n9_; clear hb hbox hg; have hnb62 := NB385_365.out; have hnc62 := NB365_385.out; have hnb63 := NB385_375.out; have hnc63 := NB375_385.out; obtain ⟨hcz64_0, hcz64_1, hcz64_2, hcz64_3, hcz64_4, hcz64_5, hfz64_0, hfz64_1, hfz64_2, hfz64_3, hfz64_4, hfz64_5⟩ := cz6_ BK385.out))
                              go_roundg k3
                              case measure => have := HJ6.out; have := HJ30.out; have := HK3.out; omega
                              case rel => exact ⟨(wrap64 (x9_3 + 1)), (by first | rfl | (simp; done) | (simp [*]; done)), H', ⟨by have := HJ6.out; have := HJ30.out; have := HK3.out; omega⟩, ⟨by refine bl_ ?_; refine blk_far ?_ NB365_385.out _; refine bl_ ?_; refine blk_far ?_ NB365_385.out _; refine bl_ ?_; refine blk_far ?_ NB365_385.out _; refine bl_ ?_; refine blk_far ?_ NB365_385.out _; refine bl_ ?_; refine blk_far ?_ NB365_385.out _; refine bl_ ?_; refine blk_far ?_ NB365_385.out _; refine bl_ ?_; exact BK365.out⟩, ⟨by refine bl_ ?_; refine blk_far ?_ NB375_385.out _; refine bl_ ?_; refine blk_far ?_ NB375_385.out _; refine bl_ ?_; refine blk_far ?_ NB375_385.out _; refine bl_ ?_; refine blk_far ?_ NB375_385.out _; refine bl_ ?_; refine blk_far ?_ NB375_385.out _; refine bl_ ?_; refine blk_far ?_ NB375_385.out _; refine bl_ ?_; exact BK375.out⟩, ⟨be_ HB.out⟩⟩
                          · rw [if_neg c48] at H
                            have c48b0 : decide (x9_3 < 8) = false := decide_eq_false c48
                            clear c48
                            have H' := Aside0.mk H
                            clear H
                            go_wp2
                            go_meet
                            case rel => exact ⟨_, H', ⟨by have := HJ6.out; have := HJ30.out; have := HK3.out; first | omega | exact Nat.le_refl _⟩, ⟨by refine bl_ ?_; exact BK365.out⟩, ⟨by refine bl_ ?_; exact BK375.out⟩, ⟨be_ HB.out⟩⟩
                    · rw [if_neg c47] at H
                      have c47b0 : (t367 == 4) = false := beq_eq_false_iff_ne.mpr c47
                      have c47b1 : (t367 != 4) = true := bne_iff_ne.mpr c47
                      (first | rw [c47b0] | (simp only [i64_w, i32_w]; rw [c47b0]) | skip)
                      have H' := Aside0.mk H
                      clear H
                      go_wp2
                      go_meet
                      case rel => exact ⟨_, H', ⟨by have := HJ6.out; have := HJ30.out; first | omega | exact Nat.le_refl _⟩, ⟨by refine bl_ ?_; exact BK365.out⟩, ⟨by refine bl_ ?_; exact BK375.out⟩, ⟨be_ HB.out⟩⟩
                  case rest =>
                    clear HC44
                    try clear c1
                    try clear c2
                    try clear p2
                    try clear c3
                    try clear c4
                    try clear c5
                    try clear c6
                    try clear p6
                    try clear c10
                    try clear c13
                    try clear c15
                    try clear c17
                    try clear c17b0
                    try clear c18
                    try clear c22
                    try clear c27
                    try clear c28
                    try clear c28b0
                    try clear c28b1
                    try clear c29
                    try clear c31
                    try clear c32
                    try clear c33
                    try clear c35
                    try clear c36
                    try clear c39
                    try clear c40
                    try clear c42
                    try clear c43
                    try clear c45
                    try clear c47
                    try clear c47b0
                    try clear c47b1
                    try clear c48
                    try clear c48b0
                    try clear c50
                    try clear c51
                    try clear c55
                    try clear c56
                    try clear c58
                    try clear c62
                    try clear c63
                    try clear p64
                    try clear hcz12_0
                    try clear hcz12_1
                    try clear hcz12_2
                    try clear hcz12_3
                    try clear hcz12_4
                    try clear hcz12_5
                    try clear hcz16_0
                    try clear hcz16_1
                    try clear hcz16_2
                    try clear hcz16_3
                    try clear hcz16_4
                    try clear hcz16_5
                    try clear hcz19_0
                    try clear hcz19_1
                    try clear hcz19_2
                    try clear hcz19_3
                    try clear hcz19_4
                    try clear hcz19_5
                    try clear hcz20_0
                    try clear hcz20_1
                    try clear hcz20_2
                    try clear hcz20_3
                    try clear hcz20_4
                    try clear hcz20_5
                    try clear hcz23_0
                    try clear hcz23_1
                    try clear hcz23_2
                    try clear hcz23_3
                    try clear hcz23_4
                    try clear hcz23_5
                    try clear hcz24_0
                    try clear hcz24_1
                    try clear hcz24_2
                    try clear hcz24_3
                    try clear hcz24_4
                    try clear hcz24_5
                    try clear hcz30_0
                    try clear hcz30_1
                    try clear hcz30_2
                    try clear hcz30_3
                    try clear hcz30_4
                    try clear hcz30_5
                    try clear hcz33_0
                    try clear hcz33_1
                    try clear hcz33_2
                    try clear hcz33_3
                    try clear hcz33_4
                    try clear hcz33_5
                    try clear hcz37_0
                    try clear hcz37_1
                    try clear hcz37_2
                    try clear hcz37_3
                    try clear hcz37_4
                    try clear hcz37_5
                    try clear hcz39_0
                    try clear hcz39_1
                    try clear hcz39_2
                    try clear hcz39_3
                    try clear hcz39_4
                    try clear hcz39_5
                    try clear hcz41_0
                    try clear hcz41_1
                    try clear hcz41_2
                    try clear hcz41_3
                    try clear hcz41_4
                    try clear hcz41_5
                    try clear hcz46_0
                    try clear hcz46_1
                    try clear hcz46_2
                    try clear hcz46_3
                    try clear hcz46_4
                    try clear hcz46_5
                    try clear hcz52_0
                    try clear hcz52_1
                    try clear hcz52_2
                    try clear hcz52_3
                    try clear hcz52_4
                    try clear hcz52_5
                    try clear hcz57_0
                    try clear hcz57_1
                    try clear hcz57_2
                    try clear hcz57_3
                    try clear hcz57_4
                    try clear hcz57_5
                    try clear hcz59_0
                    try clear hcz59_1
                    try clear hcz59_2
                    try clear hcz59_3
                    try clear hcz59_4
                    try clear hcz59_5
                    try clear hcz64_0
                    try clear hcz64_1
                    try clear hcz64_2
                    try clear hcz64_3
                    try clear hcz64_4
                    try clear hcz64_5
                    try clear hfz12_0
                    try clear hfz12_1
                    try clear hfz12_2
                    try clear hfz12_3
                    try clear hfz12_4
                    try clear hfz12_5
                    try clear hfz16_0
                    try clear hfz16_1
                    try clear hfz16_2
                    try clear hfz16_3
                    try clear hfz16_4
                    try clear hfz16_5
                    try clear hfz19_0
                    try clear hfz19_1
                    try clear hfz19_2
                    try clear hfz19_3
                    try clear hfz19_4
                    try clear hfz19_5
                    try clear hfz20_0
                    try clear hfz20_1
                    try clear hfz20_2
                    try clear hfz20_3
                    try clear hfz20_4
                    try clear hfz20_5
                    try clear hfz23_0
                    try clear hfz23_1
                    try clear hfz23_2
                    try clear hfz23_3
                    try clear hfz23_4
                    try clear hfz23_5
                    try clear hfz24_0
                    try clear hfz24_1
                    try clear hfz24_2
                    try clear hfz24_3
                    try clear hfz24_4
                    try clear hfz24_5
                    try clear hfz30_0
                    try clear hfz30_1
                    try clear hfz30_2
                    try clear hfz30_3
                    try clear hfz30_4
                    try clear hfz30_5
                    try clear hfz33_0
                    try clear hfz33_1
                    try clear hfz33_2
                    try clear hfz33_3
                    try clear hfz33_4
                    try clear hfz33_5
                    try clear hfz37_0
                    try clear hfz37_1
                    try clear hfz37_2
                    try clear hfz37_3
                    try clear hfz37_4
                    try clear hfz37_5
                    try clear hfz39_0
                    try clear hfz39_1
                    try clear hfz39_2
                    try clear hfz39_3
                    try clear hfz39_4
                    try clear hfz39_5
                    try clear hfz41_0
                    try clear hfz41_1
                    try clear hfz41_2
                    try clear hfz41_3
                    try clear hfz41_4
                    try clear hfz41_5
                    try clear hfz46_0
                    try clear hfz46_1
                    try clear hfz46_2
                    try clear hfz46_3
                    try clear hfz46_4
                    try clear hfz46_5
                    try clear hfz52_0
                    try clear hfz52_1
                    try clear hfz52_2
                    try clear hfz52_3
                    try clear hfz52_4
                    try clear hfz52_5
                    try clear hfz57_0
                    try clear hfz57_1
                    try clear hfz57_2
                    try clear hfz57_3
                    try clear hfz57_4
                    try clear hfz57_5
                    try clear hfz59_0
                    try clear hfz59_1
                    try clear hfz59_2
                    try clear hfz59_3
                    try clear hfz59_4
                    try clear hfz59_5
                    try clear hfz64_0
                    try clear hfz64_1
                    try clear hfz64_2
                    try clear hfz64_3
                    try clear hfz64_4
                    try clear hfz64_5
                    try clear p2
                    obtain ⟨kq, HA, HJ43, BK365, BK375, HB⟩ := hcut
                    cases kq with
                    | zero => exact absurd HA.out (by simp [laws_FnConns.j3])
                    | succ kj43 =>
                      have H := HA.out
                      clear HA
                      simp only [laws_FnConns.j3] at H
                      replace H := Option.bind_eq_some_iff.mp H
                      obtain ⟨⟨t386, t387, t388, t389, t390, t391, t392, t393, t394, t395, t396, t397, t398, t399⟩, A650, H⟩ := H
                      replace H : ((impl_NextConnDue.f kj43 t386 t387 t388 t389 t390 t391 t392 t393 t394 t395 t396 t397 t398 t399 t366 t367 t368 t369 t370 t371).bind fun t401 => (if t401 < 0 then (if t367 = 1 then (some false) else (some (t367 != 3))) else ((impl_ConnDue.f kj43 t386 t387 t388 t389 t390 t391 t392 t393 t394 t395 t396 t397 t398 t399 t366 t367 t368 t369 t370 t371 t401).bind fun t402 => (if t402 = 0 then (some false) else (if t401 = 0 then (some true) else (if t401 = 1000000000 then (some true) else ((impl_ConnDue.f kj43 t386 t387 t388 t389 t390 t391 t392 t393 t394 t395 t396 t397 t398 t399 t366 t367 t368 t369 t370 t371 (wrap64 (t401 - 1))).bind fun t403 => (some (t403 == 0))))))))) = some r := H
                      have A65 := Aside0.mk A650
                      clear A650
                      replace H := Option.bind_eq_some_iff.mp H
                      obtain ⟨t401, A660, H⟩ := H
                      replace H : (if t401 < 0 then (if t367 = 1 then (some false) else (some (t367 != 3))) else ((impl_ConnDue.f kj43 t386 t387 t388 t389 t390 t391 t392 t393 t394 t395 t396 t397 t398 t399 t366 t367 t368 t369 t370 t371 t401).bind fun t402 => (if t402 = 0 then (some false) else (if t401 = 0 then (some true) else (if t401 = 1000000000 then (some true) else ((impl_ConnDue.f kj43 t386 t387 t388 t389 t390 t391 t392 t393 t394 t395 t396 t397 t398 t399 t366 t367 t368 t369 t370 t371 (wrap64 (t401 - 1))).bind fun t403 => (some (t403 == 0)))))))) = some r := H
                      have A66 := Aside0.mk A660
                      clear A660
                      go_upto_if 78 with (first | ((with_reducible refine gate_callee (f := 43) rfl ?_); refine goesL_ (some 73) rfl rfl Try.func43 (by kernel_rfl) rfl #[] rfl (by (try simp only [List.map_toArray, List.map_cons, List.map_nil]); first | done | rfl | (simp only [List.length_drop, List.length_take]; rfl)) ?_; (with_reducible refine (spec_DefaultConfig.calls  t386 t387 t388 t389 t390 t391 t392 t393 t394 t395 t396 t397 t398 t399 _ A65.out).mono ?_); rintro e w89 ⟨rfl, hb⟩; refine ⟨_, rfl, ?_⟩; have n0_ := Aside0.mk (blk_below (bl_ BK365.out) hb); have n1_ := Aside0.mk (blk_below (bl_ BK375.out) hb); have n2_ := Aside0.mk (below_step (be_ HB.out) hb); clear BK365 BK375 HB; have BK365 := n0_; have BK375 := n1_; have HB := n2_; clear n0_ n1_ n2_; (try clear hb); (try clear hb2); (try clear hk); (try clear hi)) | ((with_reducible refine gate_dst (N := 12) rfl ?_); refine box_event ?hg (N := 12) ?hd (cs := #[.int .i64 0, .int .i64 0, .int .i64 0, .int .i64 0, .int .i64 0, .int .i64 0, .int .i64 0, .int .i64 0, .int .i64 0, .int .i64 0, .int .i64 0, .int .i64 0, .int .i64 0, .int .i64 0]) (t := 44) ?hr ?_; (case hd => rfl); (case hg => rfl); (case hr => first | (go_simp; done) | (go_simp; rfl)); intro gb400 hg w90 hbox hb; have n0_ := Aside0.mk (blk_below (bl_ BK365.out) hb); have n1_ := Aside0.mk (blk_below (bl_ BK375.out) hb); have n2_ := Aside0.mk (below_step (be_ HB.out) hb); have n3_ := Aside0.mk (hbox); have n4_ := Aside0.mk ((by rw [hg]; exact (below_size (be_ HB.out)) : w.heap.size ≤ gb400)); have n5_ := Aside0.mk ((by rw [hg]; exact (below_size (be_ HB.out)) : w.heap.size ≤ gb400)); have n6_ := Aside0.mk ((by rw [hg]; exact Nat.ne_of_lt (blk_lt (g := gb365) (o := .cells #[.int .i64 t356, .int .i64 t357, .int .i64 t358, .int .i64 t359, .int .i64 t360, .bool t361] 24 (0, 0)) (bl_ BK365.out)) : gb365 ≠ gb400)); have n7_ := Aside0.mk ((by rw [hg]; exact Nat.ne_of_gt (blk_lt (g := gb365) (o := .cells #[.int .i64 t356, .int .i64 t357, .int .i64 t358, .int .i64 t359, .int .i64 t360, .bool t361] 24 (0, 0)) (bl_ BK365.out)) : gb400 ≠ gb365)); have n8_ := Aside0.mk ((by rw [hg]; exact Nat.ne_of_lt (blk_lt (g := gb375) (o := .cells #[.int .i64 t366, .int .i64 t367, .int .i64 t368, .int .i64 t369, .int .i64 t370, .bool t371] 24 (0, 0)) (bl_ BK375.out)) : gb375 ≠ gb400)); have n9_ := Aside0.mk ((by rw [hg]; exact Nat.ne_of_gt (blk_lt (g := gb375) (o := .cells #[.int .i64 t366, .int .i64 t367, .int .i64 t368, .int .i64 t369, .int .i64 t370, .bool t371] 24 (0, 0)) (bl_ BK375.out)) : gb400 ≠ gb375)); clear BK365 BK375 HB; have BK365 := n0_; have BK375 := n1_; have HB := n2_; have BK400 := n3_; have GW400 := n4_; have GE400 := n5_; have NB365_400 := n6_; have NB400_365 := n7_; have NB375_400 := n8_; have NB400_375 := n9_; clear n0_ n1_ n2_ n3_ n4_ n5_ n6_ n7_ n8_ n9_; clear hb hbox hg; have hnb91 := NB400_365.out; have hnc91 := NB365_400.out; have hnb92 := NB400_375.out; have hnc92 := NB375_400.out; obtain ⟨hcz93_0, hcz93_1, hcz93_2, hcz93_3, hcz93_4, hcz93_5, hcz93_6, hcz93_7, hcz93_8, hcz93_9, hcz93_10, hcz93_11, hcz93_12, hcz93_13, hfz93_0, hfz93_1, hfz93_2, hfz93_3, hfz93_4, hfz93_5, hfz93_6, hfz93_7, hfz93_8, hfz93_9, hfz93_10, hfz93_11, hfz93_12, hfz93_13⟩ := cz14_ BK400.out; have hnb94 := NB375_365.out; have hnc94 := NB365_375.out; obtain ⟨hcz95_0, hcz95_1, hcz95_2, hcz95_3, hcz95_4, hcz95_5, hfz95_0, hfz95_1, hfz95_2, hfz95_3, hfz95_4, hfz95_5⟩ := cz6_ BK375.out) | ((with_reducible refine gate_callee (f := 27) rfl ?_); refine goesL_ (some 76) rfl rfl Try.func27 (by kernel_rfl) rfl #[.agg #[.int .i64 t386, .int .i64 t387, .int .i64 t388, .int .i64 t389, .int .i64 t390, .int .i64 t391, .int .i64 t392, .int .i64 t393, .int .i64 t394, .int .i64 t395, .int .i64 t396, .int .i64 t397, .int .i64 t398, .int .i64 t399], .agg #[.int .i64 t366, .int .i64 t367, .int .i64 t368, .int .i64 t369, .int .i64 t370, .bool t371]] rfl (by (try simp only [List.map_toArray, List.map_cons, List.map_nil]); first | done | rfl | (simp only [List.length_drop, List.length_take]; rfl)) ?_; (with_reducible refine (impl_NextConnDue.calls kj43 t386 t387 t388 t389 t390 t391 t392 t393 t394 t395 t396 t397 t398 t399 t366 t367 t368 t369 t370 t371 t401 _ A66.out).mono ?_); rintro e w96 ⟨rfl, hb⟩; refine ⟨_, rfl, ?_⟩; have n0_ := Aside0.mk (blk_below (g := gb365) (o := .cells #[.int .i64 t356, .int .i64 t357, .int .i64 t358, .int .i64 t359, .int .i64 t360, .bool t361] 24 (0, 0)) (by refine bl_ ?_; refine blk_far ?_ NB365_400.out _; refine bl_ ?_; refine blk_far ?_ NB365_400.out _; refine bl_ ?_; refine blk_far ?_ NB365_400.out _; refine bl_ ?_; refine blk_far ?_ NB365_400.out _; refine bl_ ?_; refine blk_far ?_ NB365_400.out _; refine bl_ ?_; refine blk_far ?_ NB365_400.out _; refine bl_ ?_; refine blk_far ?_ NB365_400.out _; refine bl_ ?_; refine blk_far ?_ NB365_400.out _; refine bl_ ?_; refine blk_far ?_ NB365_400.out _; refine bl_ ?_; refine blk_far ?_ NB365_400.out _; refine bl_ ?_; refine blk_far ?_ NB365_400.out _; refine bl_ ?_; refine blk_far ?_ NB365_400.out _; refine bl_ ?_; refine blk_far ?_ NB365_400.out _; refine bl_ ?_; refine blk_far ?_ NB365_400.out _; refine bl_ ?_; exact BK365.out) hb); have n1_ := Aside0.mk (blk_below (g := gb375) (o := .cells #[.int .i64 t366, .int .i64 t367, .int .i64 t368, .int .i64 t369, .int .i64 t370, .bool t371] 24 (0, 0)) (by refine bl_ ?_; refine blk_far ?_ NB375_400.out _; refine bl_ ?_; refine blk_far ?_ NB375_400.out _; refine bl_ ?_; refine blk_far ?_ NB375_400.out _; refine bl_ ?_; refine blk_far ?_ NB375_400.out _; refine bl_ ?_; refine blk_far ?_ NB375_400.out _; refine bl_ ?_; refine blk_far ?_ NB375_400.out _; refine bl_ ?_; refine blk_far ?_ NB375_400.out _; refine bl_ ?_; refine blk_far ?_ NB375_400.out _; refine bl_ ?_; refine blk_far ?_ NB375_400.out _; refine bl_ ?_; refine blk_far ?_ NB375_400.out _; refine bl_ ?_; refine blk_far ?_ NB375_400.out _; refine bl_ ?_; refine blk_far ?_ NB375_400.out _; refine bl_ ?_; refine blk_far ?_ NB375_400.out _; refine bl_ ?_; refine blk_far ?_ NB375_400.out _; refine bl_ ?_; exact BK375.out) hb); have n2_ := Aside0.mk (blk_below (g := gb400) (o := .cells #[.int .i64 t386, .int .i64 t387, .int .i64 t388, .int .i64 t389, .int .i64 t390, .int .i64 t391, .int .i64 t392, .int .i64 t393, .int .i64 t394, .int .i64 t395, .int .i64 t396, .int .i64 t397, .int .i64 t398, .int .i64 t399] 44 (0, 0)) (by refine bl_ ?_; refine blk_put (cs := #[.int .i64 t386, .int .i64 t387, .int .i64 t388, .int .i64 t389, .int .i64 t390, .int .i64 t391, .int .i64 t392, .int .i64 t393, .int .i64 t394, .int .i64 t395, .int .i64 t396, .int .i64 t397, .int .i64 t398, .int .i64 0]) ?_ 13 _ rfl; refine bl_ ?_; refine blk_put (cs := #[.int .i64 t386, .int .i64 t387, .int .i64 t388, .int .i64 t389, .int .i64 t390, .int .i64 t391, .int .i64 t392, .int .i64 t393, .int .i64 t394, .int .i64 t395, .int .i64 t396, .int .i64 t397, .int .i64 0, .int .i64 0]) ?_ 12 _ rfl; refine bl_ ?_; refine blk_put (cs := #[.int .i64 t386, .int .i64 t387, .int .i64 t388, .int .i64 t389, .int .i64 t390, .int .i64 t391, .int .i64 t392, .int .i64 t393, .int .i64 t394, .int .i64 t395, .int .i64 t396, .int .i64 0, .int .i64 0, .int .i64 0]) ?_ 11 _ rfl; refine bl_ ?_; refine blk_put (cs := #[.int .i64 t386, .int .i64 t387, .int .i64 t388, .int .i64 t389, .int .i64 t390, .int .i64 t391, .int .i64 t392, .int .i64 t393, .int .i64 t394, .int .i64 t395, .int .i64 0, .int .i64 0, .int .i64 0, .int .i64 0]) ?_ 10 _ rfl; refine bl_ ?_; refine blk_put (cs := #[.int .i64 t386, .int .i64 t387, .int .i64 t388, .int .i64 t389, .int .i64 t390, .int .i64 t391, .int .i64 t392, .int .i64 t393, .int .i64 t394, .int .i64 0, .int .i64 0, .int .i64 0, .int .i64 0, .int .i64 0]) ?_ 9 _ rfl; refine bl_ ?_; refine blk_put (cs := #[.int .i64 t386, .int .i64 t387, .int .i64 t388, .int .i64 t389, .int .i64 t390, .int .i64 t391, .int .i64 t392, .int .i64 t393, .int .i64 0, .int .i64 0, .int .i64 0, .int .i64 0, .int .i64 0, .int .i64 0]) ?_ 8 _ rfl; refine bl_ ?_; refine blk_put (cs := #[.int .i64 t386, .int .i64 t387, .int .i64 t388, .int .i64 t389, .int .i64 t390, .int .i64 t391, .int .i64 t392, .int .i64 0, .int .i64 0, .int .i64 0, .int .i64 0, .int .i64 0, .int .i64 0, .int .i64 0]) ?_ 7 _ rfl; refine bl_ ?_; refine blk_put (cs := #[.int .i64 t386, .int .i64 t387, .int .i64 t388, .int .i64 t389, .int .i64 t390, .int .i64 t391, .int .i64 0, .int .i64 0, .int .i64 0, .int .i64 0, .int .i64 0, .int .i64 0, .int .i64 0, .int .i64 0]) ?_ 6 _ rfl; refine bl_ ?_; refine blk_put (cs := #[.int .i64 t386, .int .i64 t387, .int .i64 t388, .int .i64 t389, .int .i64 t390, .int .i64 0, .int .i64 0, .int .i64 0, .int .i64 0, .int .i64 0, .int .i64 0, .int .i64 0, .int .i64 0, .int .i64 0]) ?_ 5 _ rfl; refine bl_ ?_; refine blk_put (cs := #[.int .i64 t386, .int .i64 t387, .int .i64 t388, .int .i64 t389, .int .i64 0, .int .i64 0, .int .i64 0, .int .i64 0, .int .i64 0, .int .i64 0, .int .i64 0, .int .i64 0, .int .i64 0, .int .i64 0]) ?_ 4 _ rfl; refine bl_ ?_; refine blk_put (cs := #[.int .i64 t386, .int .i64 t387, .int .i64 t388, .int .i64 0, .int .i64 0, .int .i64 0, .int .i64 0, .int .i64 0, .int .i64 0, .int .i64 0, .int .i64 0, .int .i64 0, .int .i64 0, .int .i64 0]) ?_ 3 _ rfl; refine bl_ ?_; refine blk_put (cs := #[.int .i64 t386, .int .i64 t387, .int .i64 0, .int .i64 0, .int .i64 0, .int .i64 0, .int .i64 0, .int .i64 0, .int .i64 0, .int .i64 0, .int .i64 0, .int .i64 0, .int .i64 0, .int .i64 0]) ?_ 2 _ rfl; refine bl_ ?_; refine blk_put (cs := #[.int .i64 t386, .int .i64 0, .int .i64 0, .int .i64 0, .int .i64 0, .int .i64 0, .int .i64 0, .int .i64 0, .int .i64 0, .int .i64 0, .int .i64 0, .int .i64 0, .int .i64 0, .int .i64 0]) ?_ 1 _ rfl; refine bl_ ?_; refine blk_put (cs := #[.int .i64 0, .int .i64 0, .int .i64 0, .int .i64 0, .int .i64 0, .int .i64 0, .int .i64 0, .int .i64 0, .int .i64 0, .int .i64 0, .int .i64 0, .int .i64 0, .int .i64 0, .int .i64 0]) ?_ 0 _ rfl; refine bl_ ?_; exact BK400.out) hb); have n3_ := Aside0.mk (below_step (be_ HB.out) hb); clear BK365 BK375 BK400 HB; have BK365 := n0_; have BK375 := n1_; have BK400 := n2_; have HB := n3_; clear n0_ n1_ n2_ n3_; (try clear hb); (try clear hb2); (try clear hk); (try clear hi); obtain ⟨hcz97_0, hcz97_1, hcz97_2, hcz97_3, hcz97_4, hcz97_5, hcz97_6, hcz97_7, hcz97_8, hcz97_9, hcz97_10, hcz97_11, hcz97_12, hcz97_13, hfz97_0, hfz97_1, hfz97_2, hfz97_3, hfz97_4, hfz97_5, hfz97_6, hfz97_7, hfz97_8, hfz97_9, hfz97_10, hfz97_11, hfz97_12, hfz97_13⟩ := cz14_ BK400.out; obtain ⟨hcz98_0, hcz98_1, hcz98_2, hcz98_3, hcz98_4, hcz98_5, hfz98_0, hfz98_1, hfz98_2, hfz98_3, hfz98_4, hfz98_5⟩ := cz6_ BK375.out))
                      (try simp only [Act.put, List.setIfInBounds_toArray, List.set_cons_zero, List.set_cons_succ])
                      by_cases c67 : t401 < 0
                      · rw [if_pos c67] at H
                        have c67b0 : decide (t401 < 0) = true := decide_eq_true c67
                        (first | rw [c67b0] | (simp only [i64_w, i32_w]; rw [c67b0]) | skip)
                        clear c67
                        by_cases c68 : t367 = 1
                        · rw [if_pos c68] at H
                          have c68b0 : (t367 == 1) = true := beq_iff_eq.mpr c68
                          have c68b1 : (t367 != 1) = false := bne_eq_false_iff_eq.mpr c68
                          clear c68
                          obtain rfl := Option.some.inj H
                          go_wp2_with (first | ((with_reducible refine gate_callee (f := 43) rfl ?_); refine goesL_ (some 73) rfl rfl Try.func43 (by kernel_rfl) rfl #[] rfl (by (try simp only [List.map_toArray, List.map_cons, List.map_nil]); first | done | rfl | (simp only [List.length_drop, List.length_take]; rfl)) ?_; (with_reducible refine (spec_DefaultConfig.calls  t386 t387 t388 t389 t390 t391 t392 t393 t394 t395 t396 t397 t398 t399 _ A65.out).mono ?_); rintro e w69 ⟨rfl, hb⟩; refine ⟨_, rfl, ?_⟩; have n0_ := Aside0.mk (blk_below (bl_ BK365.out) hb); have n1_ := Aside0.mk (blk_below (bl_ BK375.out) hb); have n2_ := Aside0.mk (below_step (be_ HB.out) hb); clear BK365 BK375 HB; have BK365 := n0_; have BK375 := n1_; have HB := n2_; clear n0_ n1_ n2_; (try clear hb); (try clear hb2); (try clear hk); (try clear hi)) | ((with_reducible refine gate_dst (N := 12) rfl ?_); refine box_event ?hg (N := 12) ?hd (cs := #[.int .i64 0, .int .i64 0, .int .i64 0, .int .i64 0, .int .i64 0, .int .i64 0, .int .i64 0, .int .i64 0, .int .i64 0, .int .i64 0, .int .i64 0, .int .i64 0, .int .i64 0, .int .i64 0]) (t := 44) ?hr ?_; (case hd => rfl); (case hg => rfl); (case hr => first | (go_simp; done) | (go_simp; rfl)); intro gb400 hg w70 hbox hb; have n0_ := Aside0.mk (blk_below (bl_ BK365.out) hb); have n1_ := Aside0.mk (blk_below (bl_ BK375.out) hb); have n2_ := Aside0.mk (below_step (be_ HB.out) hb); have n3_ := Aside0.mk (hbox); have n4_ := Aside0.mk ((by rw [hg]; exact (below_size (be_ HB.out)) : w.heap.size ≤ gb400)); have n5_ := Aside0.mk ((by rw [hg]; exact (below_size (be_ HB.out)) : w.heap.size ≤ gb400)); have n6_ := Aside0.mk ((by rw [hg]; exact Nat.ne_of_lt (blk_lt (g := gb365) (o := .cells #[.int .i64 t356, .int .i64 t357, .int .i64 t358, .int .i64 t359, .int .i64 t360, .bool t361] 24 (0, 0)) (bl_ BK365.out)) : gb365 ≠ gb400)); have n7_ := Aside0.mk ((by rw [hg]; exact Nat.ne_of_gt (blk_lt (g := gb365) (o := .cells #[.int .i64 t356, .int .i64 t357, .int .i64 t358, .int .i64 t359, .int .i64 t360, .bool t361] 24 (0, 0)) (bl_ BK365.out)) : gb400 ≠ gb365)); have n8_ := Aside0.mk ((by rw [hg]; exact Nat.ne_of_lt (blk_lt (g := gb375) (o := .cells #[.int .i64 t366, .int .i64 t367, .int .i64 t368, .int .i64 t369, .int .i64 t370, .bool t371] 24 (0, 0)) (bl_ BK375.out)) : gb375 ≠ gb400)); have n9_ := Aside0.mk ((by rw [hg]; exact Nat.ne_of_gt (blk_lt (g := gb375) (o := .cells #[.int .i64 t366, .int .i64 t367, .int .i64 t368, .int .i64 t369, .int .i64 t370, .bool t371] 24 (0, 0)) (bl_ BK375.out)) : gb400 ≠ gb375)); clear BK365 BK375 HB; have BK365 := n0_; have BK375 := n1_; have HB := n2_; have BK400 := n3_; have GW400 := n4_; have GE400 := n5_; have NB365_400 := n6_; have NB400_365 := n7_; have NB375_400 := n8_; have NB400_375 := n9_; clear n0_ n1_ n2_ n3_ n4_ n5_ n6_ n7_ n8_ n9_; clear hb hbox hg; have hnb71 := NB400_365.out; have hnc71 := NB365_400.out; have hnb72 := NB400_375.out; have hnc72 := NB375_400.out; obtain ⟨hcz73_0, hcz73_1, hcz73_2, hcz73_3, hcz73_4, hcz73_5, hcz73_6, hcz73_7, hcz73_8, hcz73_9, hcz73_10, hcz73_11, hcz73_12, hcz73_13, hfz73_0, hfz73_1, hfz73_2, hfz73_3, hfz73_4, hfz73_5, hfz73_6, hfz73_7, hfz73_8, hfz73_9, hfz73_10, hfz73_11, hfz73_12, hfz73_13⟩ := cz14_ BK400.out; have hnb74 := NB375_365.out; have hnc74 := NB365_375.out; obtain ⟨hcz75_0, hcz75_1, hcz75_2, hcz75_3, hcz75_4, hcz75_5, hfz75_0, hfz75_1, hfz75_2, hfz75_3, hfz75_4, hfz75_5⟩ := cz6_ BK375.out) | ((with_reducible refine gate_callee (f := 27) rfl ?_); refine goesL_ (some 76) rfl rfl Try.func27 (by kernel_rfl) rfl #[.agg #[.int .i64 t386, .int .i64 t387, .int .i64 t388, .int .i64 t389, .int .i64 t390, .int .i64 t391, .int .i64 t392, .int .i64 t393, .int .i64 t394, .int .i64 t395, .int .i64 t396, .int .i64 t397, .int .i64 t398, .int .i64 t399], .agg #[.int .i64 t366, .int .i64 t367, .int .i64 t368, .int .i64 t369, .int .i64 t370, .bool t371]] rfl (by (try simp only [List.map_toArray, List.map_cons, List.map_nil]); first | done | rfl | (simp only [List.length_drop, List.length_take]; rfl)) ?_; (with_reducible refine (impl_NextConnDue.calls kj43 t386 t387 t388 t389 t390 t391 t392 t393 t394 t395 t396 t397 t398 t399 t366 t367 t368 t369 t370 t371 t401 _ A66.out).mono ?_); rintro e w76 ⟨rfl, hb⟩; refine ⟨_, rfl, ?_⟩; have n0_ := Aside0.mk (blk_below (g := gb365) (o := .cells #[.int .i64 t356, .int .i64 t357, .int .i64 t358, .int .i64 t359, .int .i64 t360, .bool t361] 24 (0, 0)) (by refine bl_ ?_; refine blk_far ?_ NB365_400.out _; refine bl_ ?_; refine blk_far ?_ NB365_400.out _; refine bl_ ?_; refine blk_far ?_ NB365_400.out _; refine bl_ ?_; refine blk_far ?_ NB365_400.out _; refine bl_ ?_; refine blk_far ?_ NB365_400.out _; refine bl_ ?_; refine blk_far ?_ NB365_400.out _; refine bl_ ?_; refine blk_far ?_ NB365_400.out _; refine bl_ ?_; refine blk_far ?_ NB365_400.out _; refine bl_ ?_; refine blk_far ?_ NB365_400.out _; refine bl_ ?_; refine blk_far ?_ NB365_400.out _; refine bl_ ?_; refine blk_far ?_ NB365_400.out _; refine bl_ ?_; refine blk_far ?_ NB365_400.out _; refine bl_ ?_; refine blk_far ?_ NB365_400.out _; refine bl_ ?_; refine blk_far ?_ NB365_400.out _; refine bl_ ?_; exact BK365.out) hb); have n1_ := Aside0.mk (blk_below (g := gb375) (o := .cells #[.int .i64 t366, .int .i64 t367, .int .i64 t368, .int .i64 t369, .int .i64 t370, .bool t371] 24 (0, 0)) (by refine bl_ ?_; refine blk_far ?_ NB375_400.out _; refine bl_ ?_; refine blk_far ?_ NB375_400.out _; refine bl_ ?_; refine blk_far ?_ NB375_400.out _; refine bl_ ?_; refine blk_far ?_ NB375_400.out _; refine bl_ ?_; refine blk_far ?_ NB375_400.out _; refine bl_ ?_; refine blk_far ?_ NB375_400.out _; refine bl_ ?_; refine blk_far ?_ NB375_400.out _; refine bl_ ?_; refine blk_far ?_ NB375_400.out _; refine bl_ ?_; refine blk_far ?_ NB375_400.out _; refine bl_ ?_; refine blk_far ?_ NB375_400.out _; refine bl_ ?_; refine blk_far ?_ NB375_400.out _; refine bl_ ?_; refine blk_far ?_ NB375_400.out _; refine bl_ ?_; refine blk_far ?_ NB375_400.out _; refine bl_ ?_; refine blk_far ?_ NB375_400.out _; refine bl_ ?_; exact BK375.out) hb); have n2_ := Aside0.mk (blk_below (g := gb400) (o := .cells #[.int .i64 t386, .int .i64 t387, .int .i64 t388, .int .i64 t389, .int .i64 t390, .int .i64 t391, .int .i64 t392, .int .i64 t393, .int .i64 t394, .int .i64 t395, .int .i64 t396, .int .i64 t397, .int .i64 t398, .int .i64 t399] 44 (0, 0)) (by refine bl_ ?_; refine blk_put (cs := #[.int .i64 t386, .int .i64 t387, .int .i64 t388, .int .i64 t389, .int .i64 t390, .int .i64 t391, .int .i64 t392, .int .i64 t393, .int .i64 t394, .int .i64 t395, .int .i64 t396, .int .i64 t397, .int .i64 t398, .int .i64 0]) ?_ 13 _ rfl; refine bl_ ?_; refine blk_put (cs := #[.int .i64 t386, .int .i64 t387, .int .i64 t388, .int .i64 t389, .int .i64 t390, .int .i64 t391, .int .i64 t392, .int .i64 t393, .int .i64 t394, .int .i64 t395, .int .i64 t396, .int .i64 t397, .int .i64 0, .int .i64 0]) ?_ 12 _ rfl; refine bl_ ?_; refine blk_put (cs := #[.int .i64 t386, .int .i64 t387, .int .i64 t388, .int .i64 t389, .int .i64 t390, .int .i64 t391, .int .i64 t392, .int .i64 t393, .int .i64 t394, .int .i64 t395, .int .i64 t396, .int .i64 0, .int .i64 0, .int .i64 0]) ?_ 11 _ rfl; refine bl_ ?_; refine blk_put (cs := #[.int .i64 t386, .int .i64 t387, .int .i64 t388, .int .i64 t389, .int .i64 t390, .int .i64 t391, .int .i64 t392, .int .i64 t393, .int .i64 t394, .int .i64 t395, .int .i64 0, .int .i64 0, .int .i64 0, .int .i64 0]) ?_ 10 _ rfl; refine bl_ ?_; refine blk_put (cs := #[.int .i64 t386, .int .i64 t387, .int .i64 t388, .int .i64 t389, .int .i64 t390, .int .i64 t391, .int .i64 t392, .int .i64 t393, .int .i64 t394, .int .i64 0, .int .i64 0, .int .i64 0, .int .i64 0, .int .i64 0]) ?_ 9 _ rfl; refine bl_ ?_; refine blk_put (cs := #[.int .i64 t386, .int .i64 t387, .int .i64 t388, .int .i64 t389, .int .i64 t390, .int .i64 t391, .int .i64 t392, .int .i64 t393, .int .i64 0, .int .i64 0, .int .i64 0, .int .i64 0, .int .i64 0, .int .i64 0]) ?_ 8 _ rfl; refine bl_ ?_; refine blk_put (cs := #[.int .i64 t386, .int .i64 t387, .int .i64 t388, .int .i64 t389, .int .i64 t390, .int .i64 t391, .int .i64 t392, .int .i64 0, .int .i64 0, .int .i64 0, .int .i64 0, .int .i64 0, .int .i64 0, .int .i64 0]) ?_ 7 _ rfl; refine bl_ ?_; refine blk_put (cs := #[.int .i64 t386, .int .i64 t387, .int .i64 t388, .int .i64 t389, .int .i64 t390, .int .i64 t391, .int .i64 0, .int .i64 0, .int .i64 0, .int .i64 0, .int .i64 0, .int .i64 0, .int .i64 0, .int .i64 0]) ?_ 6 _ rfl; refine bl_ ?_; refine blk_put (cs := #[.int .i64 t386, .int .i64 t387, .int .i64 t388, .int .i64 t389, .int .i64 t390, .int .i64 0, .int .i64 0, .int .i64 0, .int .i64 0, .int .i64 0, .int .i64 0, .int .i64 0, .int .i64 0, .int .i64 0]) ?_ 5 _ rfl; refine bl_ ?_; refine blk_put (cs := #[.int .i64 t386, .int .i64 t387, .int .i64 t388, .int .i64 t389, .int .i64 0, .int .i64 0, .int .i64 0, .int .i64 0, .int .i64 0, .int .i64 0, .int .i64 0, .int .i64 0, .int .i64 0, .int .i64 0]) ?_ 4 _ rfl; refine bl_ ?_; refine blk_put (cs := #[.int .i64 t386, .int .i64 t387, .int .i64 t388, .int .i64 0, .int .i64 0, .int .i64 0, .int .i64 0, .int .i64 0, .int .i64 0, .int .i64 0, .int .i64 0, .int .i64 0, .int .i64 0, .int .i64 0]) ?_ 3 _ rfl; refine bl_ ?_; refine blk_put (cs := #[.int .i64 t386, .int .i64 t387, .int .i64 0, .int .i64 0, .int .i64 0, .int .i64 0, .int .i64 0, .int .i64 0, .int .i64 0, .int .i64 0, .int .i64 0, .int .i64 0, .int .i64 0, .int .i64 0]) ?_ 2 _ rfl; refine bl_ ?_; refine blk_put (cs := #[.int .i64 t386, .int .i64 0, .int .i64 0, .int .i64 0, .int .i64 0, .int .i64 0, .int .i64 0, .int .i64 0, .int .i64 0, .int .i64 0, .int .i64 0, .int .i64 0, .int .i64 0, .int .i64 0]) ?_ 1 _ rfl; refine bl_ ?_; refine blk_put (cs := #[.int .i64 0, .int .i64 0, .int .i64 0, .int .i64 0, .int .i64 0, .int .i64 0, .int .i64 0, .int .i64 0, .int .i64 0, .int .i64 0, .int .i64 0, .int .i64 0, .int .i64 0, .int .i64 0]) ?_ 0 _ rfl; refine bl_ ?_; exact BK400.out) hb); have n3_ := Aside0.mk (below_step (be_ HB.out) hb); clear BK365 BK375 BK400 HB; have BK365 := n0_; have BK375 := n1_; have BK400 := n2_; have HB := n3_; clear n0_ n1_ n2_ n3_; (try clear hb); (try clear hb2); (try clear hk); (try clear hi); obtain ⟨hcz77_0, hcz77_1, hcz77_2, hcz77_3, hcz77_4, hcz77_5, hfz77_0, hfz77_1, hfz77_2, hfz77_3, hfz77_4, hfz77_5⟩ := cz6_ BK375.out))
                          go_ret
                          exact ⟨by first | rfl | (simp [errW_none, errW_some] <;> rfl) | (simp [*, errW_none, errW_some] <;> rfl), be_ HB.out⟩
                        · rw [if_neg c68] at H
                          have c68b0 : (t367 == 1) = false := beq_eq_false_iff_ne.mpr c68
                          have c68b1 : (t367 != 1) = true := bne_iff_ne.mpr c68
                          obtain rfl := Option.some.inj H
                          go_wp2_with (first | ((with_reducible refine gate_callee (f := 43) rfl ?_); refine goesL_ (some 73) rfl rfl Try.func43 (by kernel_rfl) rfl #[] rfl (by (try simp only [List.map_toArray, List.map_cons, List.map_nil]); first | done | rfl | (simp only [List.length_drop, List.length_take]; rfl)) ?_; (with_reducible refine (spec_DefaultConfig.calls  t386 t387 t388 t389 t390 t391 t392 t393 t394 t395 t396 t397 t398 t399 _ A65.out).mono ?_); rintro e w78 ⟨rfl, hb⟩; refine ⟨_, rfl, ?_⟩; have n0_ := Aside0.mk (blk_below (bl_ BK365.out) hb); have n1_ := Aside0.mk (blk_below (bl_ BK375.out) hb); have n2_ := Aside0.mk (below_step (be_ HB.out) hb); clear BK365 BK375 HB; have BK365 := n0_; have BK375 := n1_; have HB := n2_; clear n0_ n1_ n2_; (try clear hb); (try clear hb2); (try clear hk); (try clear hi)) | ((with_reducible refine gate_dst (N := 12) rfl ?_); refine box_event ?hg (N := 12) ?hd (cs := #[.int .i64 0, .int .i64 0, .int .i64 0, .int .i64 0, .int .i64 0, .int .i64 0, .int .i64 0, .int .i64 0, .int .i64 0, .int .i64 0, .int .i64 0, .int .i64 0, .int .i64 0, .int .i64 0]) (t := 44) ?hr ?_; (case hd => rfl); (case hg => rfl); (case hr => first | (go_simp; done) | (go_simp; rfl)); intro gb400 hg w79 hbox hb; have n0_ := Aside0.mk (blk_below (bl_ BK365.out) hb); have n1_ := Aside0.mk (blk_below (bl_ BK375.out) hb); have n2_ := Aside0.mk (below_step (be_ HB.out) hb); have n3_ := Aside0.mk (hbox); have n4_ := Aside0.mk ((by rw [hg]; exact (below_size (be_ HB.out)) : w.heap.size ≤ gb400)); have n5_ := Aside0.mk ((by rw [hg]; exact (below_size (be_ HB.out)) : w.heap.size ≤ gb400)); have n6_ := Aside0.mk ((by rw [hg]; exact Nat.ne_of_lt (blk_lt (g := gb365) (o := .cells #[.int .i64 t356, .int .i64 t357, .int .i64 t358, .int .i64 t359, .int .i64 t360, .bool t361] 24 (0, 0)) (bl_ BK365.out)) : gb365 ≠ gb400)); have n7_ := Aside0.mk ((by rw [hg]; exact Nat.ne_of_gt (blk_lt (g := gb365) (o := .cells #[.int .i64 t356, .int .i64 t357, .int .i64 t358, .int .i64 t359, .int .i64 t360, .bool t361] 24 (0, 0)) (bl_ BK365.out)) : gb400 ≠ gb365)); have n8_ := Aside0.mk ((by rw [hg]; exact Nat.ne_of_lt (blk_lt (g := gb375) (o := .cells #[.int .i64 t366, .int .i64 t367, .int .i64 t368, .int .i64 t369, .int .i64 t370, .bool t371] 24 (0, 0)) (bl_ BK375.out)) : gb375 ≠ gb400)); have n9_ := Aside0.mk ((by rw [hg]; exact Nat.ne_of_gt (blk_lt (g := gb375) (o := .cells #[.int .i64 t366, .int .i64 t367, .int .i64 t368, .int .i64 t369, .int .i64 t370, .bool t371] 24 (0, 0)) (bl_ BK375.out)) : gb400 ≠ gb375)); clear BK365 BK375 HB; have BK365 := n0_; have BK375 := n1_; have HB := n2_; have BK400 := n3_; have GW400 := n4_; have GE400 := n5_; have NB365_400 := n6_; have NB400_365 := n7_; have NB375_400 := n8_; have NB400_375 := n9_; clear n0_ n1_ n2_ n3_ n4_ n5_ n6_ n7_ n8_ n9_; clear hb hbox hg; have hnb80 := NB400_365.out; have hnc80 := NB365_400.out; have hnb81 := NB400_375.out; have hnc81 := NB375_400.out; obtain ⟨hcz82_0, hcz82_1, hcz82_2, hcz82_3, hcz82_4, hcz82_5, hcz82_6, hcz82_7, hcz82_8, hcz82_9, hcz82_10, hcz82_11, hcz82_12, hcz82_13, hfz82_0, hfz82_1, hfz82_2, hfz82_3, hfz82_4, hfz82_5, hfz82_6, hfz82_7, hfz82_8, hfz82_9, hfz82_10, hfz82_11, hfz82_12, hfz82_13⟩ := cz14_ BK400.out; have hnb83 := NB375_365.out; have hnc83 := NB365_375.out; obtain ⟨hcz84_0, hcz84_1, hcz84_2, hcz84_3, hcz84_4, hcz84_5, hfz84_0, hfz84_1, hfz84_2, hfz84_3, hfz84_4, hfz84_5⟩ := cz6_ BK375.out) | ((with_reducible refine gate_callee (f := 27) rfl ?_); refine goesL_ (some 76) rfl rfl Try.func27 (by kernel_rfl) rfl #[.agg #[.int .i64 t386, .int .i64 t387, .int .i64 t388, .int .i64 t389, .int .i64 t390, .int .i64 t391, .int .i64 t392, .int .i64 t393, .int .i64 t394, .int .i64 t395, .int .i64 t396, .int .i64 t397, .int .i64 t398, .int .i64 t399], .agg #[.int .i64 t366, .int .i64 t367, .int .i64 t368, .int .i64 t369, .int .i64 t370, .bool t371]] rfl (by (try simp only [List.map_toArray, List.map_cons, List.map_nil]); first | done | rfl | (simp only [List.length_drop, List.length_take]; rfl)) ?_; (with_reducible refine (impl_NextConnDue.calls kj43 t386 t387 t388 t389 t390 t391 t392 t393 t394 t395 t396 t397 t398 t399 t366 t367 t368 t369 t370 t371 t401 _ A66.out).mono ?_); rintro e w85 ⟨rfl, hb⟩; refine ⟨_, rfl, ?_⟩; have n0_ := Aside0.mk (blk_below (g := gb365) (o := .cells #[.int .i64 t356, .int .i64 t357, .int .i64 t358, .int .i64 t359, .int .i64 t360, .bool t361] 24 (0, 0)) (by refine bl_ ?_; refine blk_far ?_ NB365_400.out _; refine bl_ ?_; refine blk_far ?_ NB365_400.out _; refine bl_ ?_; refine blk_far ?_ NB365_400.out _; refine bl_ ?_; refine blk_far ?_ NB365_400.out _; refine bl_ ?_; refine blk_far ?_ NB365_400.out _; refine bl_ ?_; refine blk_far ?_ NB365_400.out _; refine bl_ ?_; refine blk_far ?_ NB365_400.out _; refine bl_ ?_; refine blk_far ?_ NB365_400.out _; refine bl_ ?_; refine blk_far ?_ NB365_400.out _; refine bl_ ?_; refine blk_far ?_ NB365_400.out _; refine bl_ ?_; refine blk_far ?_ NB365_400.out _; refine bl_ ?_; refine blk_far ?_ NB365_400.out _; refine bl_ ?_; refine blk_far ?_ NB365_400.out _; refine bl_ ?_; refine blk_far ?_ NB365_400.out _; refine bl_ ?_; exact BK365.out) hb); have n1_ := Aside0.mk (blk_below (g := gb375) (o := .cells #[.int .i64 t366, .int .i64 t367, .int .i64 t368, .int .i64 t369, .int .i64 t370, .bool t371] 24 (0, 0)) (by refine bl_ ?_; refine blk_far ?_ NB375_400.out _; refine bl_ ?_; refine blk_far ?_ NB375_400.out _; refine bl_ ?_; refine blk_far ?_ NB375_400.out _; refine bl_ ?_; refine blk_far ?_ NB375_400.out _; refine bl_ ?_; refine blk_far ?_ NB375_400.out _; refine bl_ ?_; refine blk_far ?_ NB375_400.out _; refine bl_ ?_; refine blk_far ?_ NB375_400.out _; refine bl_ ?_; refine blk_far ?_ NB375_400.out _; refine bl_ ?_; refine blk_far ?_ NB375_400.out _; refine bl_ ?_; refine blk_far ?_ NB375_400.out _; refine bl_ ?_; refine blk_far ?_ NB375_400.out _; refine bl_ ?_; refine blk_far ?_ NB375_400.out _; refine bl_ ?_; refine blk_far ?_ NB375_400.out _; refine bl_ ?_; refine blk_far ?_ NB375_400.out _; refine bl_ ?_; exact BK375.out) hb); have n2_ := Aside0.mk (blk_below (g := gb400) (o := .cells #[.int .i64 t386, .int .i64 t387, .int .i64 t388, .int .i64 t389, .int .i64 t390, .int .i64 t391, .int .i64 t392, .int .i64 t393, .int .i64 t394, .int .i64 t395, .int .i64 t396, .int .i64 t397, .int .i64 t398, .int .i64 t399] 44 (0, 0)) (by refine bl_ ?_; refine blk_put (cs := #[.int .i64 t386, .int .i64 t387, .int .i64 t388, .int .i64 t389, .int .i64 t390, .int .i64 t391, .int .i64 t392, .int .i64 t393, .int .i64 t394, .int .i64 t395, .int .i64 t396, .int .i64 t397, .int .i64 t398, .int .i64 0]) ?_ 13 _ rfl; refine bl_ ?_; refine blk_put (cs := #[.int .i64 t386, .int .i64 t387, .int .i64 t388, .int .i64 t389, .int .i64 t390, .int .i64 t391, .int .i64 t392, .int .i64 t393, .int .i64 t394, .int .i64 t395, .int .i64 t396, .int .i64 t397, .int .i64 0, .int .i64 0]) ?_ 12 _ rfl; refine bl_ ?_; refine blk_put (cs := #[.int .i64 t386, .int .i64 t387, .int .i64 t388, .int .i64 t389, .int .i64 t390, .int .i64 t391, .int .i64 t392, .int .i64 t393, .int .i64 t394, .int .i64 t395, .int .i64 t396, .int .i64 0, .int .i64 0, .int .i64 0]) ?_ 11 _ rfl; refine bl_ ?_; refine blk_put (cs := #[.int .i64 t386, .int .i64 t387, .int .i64 t388, .int .i64 t389, .int .i64 t390, .int .i64 t391, .int .i64 t392, .int .i64 t393, .int .i64 t394, .int .i64 t395, .int .i64 0, .int .i64 0, .int .i64 0, .int .i64 0]) ?_ 10 _ rfl; refine bl_ ?_; refine blk_put (cs := #[.int .i64 t386, .int .i64 t387, .int .i64 t388, .int .i64 t389, .int .i64 t390, .int .i64 t391, .int .i64 t392, .int .i64 t393, .int .i64 t394, .int .i64 0, .int .i64 0, .int .i64 0, .int .i64 0, .int .i64 0]) ?_ 9 _ rfl; refine bl_ ?_; refine blk_put (cs := #[.int .i64 t386, .int .i64 t387, .int .i64 t388, .int .i64 t389, .int .i64 t390, .int .i64 t391, .int .i64 t392, .int .i64 t393, .int .i64 0, .int .i64 0, .int .i64 0, .int .i64 0, .int .i64 0, .int .i64 0]) ?_ 8 _ rfl; refine bl_ ?_; refine blk_put (cs := #[.int .i64 t386, .int .i64 t387, .int .i64 t388, .int .i64 t389, .int .i64 t390, .int .i64 t391, .int .i64 t392, .int .i64 0, .int .i64 0, .int .i64 0, .int .i64 0, .int .i64 0, .int .i64 0, .int .i64 0]) ?_ 7 _ rfl; refine bl_ ?_; refine blk_put (cs := #[.int .i64 t386, .int .i64 t387, .int .i64 t388, .int .i64 t389, .int .i64 t390, .int .i64 t391, .int .i64 0, .int .i64 0, .int .i64 0, .int .i64 0, .int .i64 0, .int .i64 0, .int .i64 0, .int .i64 0]) ?_ 6 _ rfl; refine bl_ ?_; refine blk_put (cs := #[.int .i64 t386, .int .i64 t387, .int .i64 t388, .int .i64 t389, .int .i64 t390, .int .i64 0, .int .i64 0, .int .i64 0, .int .i64 0, .int .i64 0, .int .i64 0, .int .i64 0, .int .i64 0, .int .i64 0]) ?_ 5 _ rfl; refine bl_ ?_; refine blk_put (cs := #[.int .i64 t386, .int .i64 t387, .int .i64 t388, .int .i64 t389, .int .i64 0, .int .i64 0, .int .i64 0, .int .i64 0, .int .i64 0, .int .i64 0, .int .i64 0, .int .i64 0, .int .i64 0, .int .i64 0]) ?_ 4 _ rfl; refine bl_ ?_; refine blk_put (cs := #[.int .i64 t386, .int .i64 t387, .int .i64 t388, .int .i64 0, .int .i64 0, .int .i64 0, .int .i64 0, .int .i64 0, .int .i64 0, .int .i64 0, .int .i64 0, .int .i64 0, .int .i64 0, .int .i64 0]) ?_ 3 _ rfl; refine bl_ ?_; refine blk_put (cs := #[.int .i64 t386, .int .i64 t387, .int .i64 0, .int .i64 0, .int .i64 0, .int .i64 0, .int .i64 0, .int .i64 0, .int .i64 0, .int .i64 0, .int .i64 0, .int .i64 0, .int .i64 0, .int .i64 0]) ?_ 2 _ rfl; refine bl_ ?_; refine blk_put (cs := #[.int .i64 t386, .int .i64 0, .int .i64 0, .int .i64 0, .int .i64 0, .int .i64 0, .int .i64 0, .int .i64 0, .int .i64 0, .int .i64 0, .int .i64 0, .int .i64 0, .int .i64 0, .int .i64 0]) ?_ 1 _ rfl; refine bl_ ?_; refine blk_put (cs := #[.int .i64 0, .int .i64 0, .int .i64 0, .int .i64 0, .int .i64 0, .int .i64 0, .int .i64 0, .int .i64 0, .int .i64 0, .int .i64 0, .int .i64 0, .int .i64 0, .int .i64 0, .int .i64 0]) ?_ 0 _ rfl; refine bl_ ?_; exact BK400.out) hb); have n3_ := Aside0.mk (below_step (be_ HB.out) hb); clear BK365 BK375 BK400 HB; have BK365 := n0_; have BK375 := n1_; have BK400 := n2_; have HB := n3_; clear n0_ n1_ n2_ n3_; (try clear hb); (try clear hb2); (try clear hk); (try clear hi); obtain ⟨hcz86_0, hcz86_1, hcz86_2, hcz86_3, hcz86_4, hcz86_5, hfz86_0, hfz86_1, hfz86_2, hfz86_3, hfz86_4, hfz86_5⟩ := cz6_ BK375.out))
                          go_ret
                          exact ⟨by first | rfl | (simp [errW_none, errW_some] <;> rfl) | (simp [*, errW_none, errW_some] <;> rfl), be_ HB.out⟩
                      · rw [if_neg c67] at H
                        have c67b0 : decide (t401 < 0) = false := decide_eq_false c67
                        (first | rw [c67b0] | (simp only [i64_w, i32_w]; rw [c67b0]) | skip)
                        clear c67
                        replace H := Option.bind_eq_some_iff.mp H
                        obtain ⟨t402, A870, H⟩ := H
                        replace H : (if t402 = 0 then (some false) else (if t401 = 0 then (some true) else (if t401 = 1000000000 then (some true) else ((impl_ConnDue.f kj43 t386 t387 t388 t389 t390 t391 t392 t393 t394 t395 t396 t397 t398 t399 t366 t367 t368 t369 t370 t371 (wrap64 (t401 - 1))).bind fun t403 => (some (t403 == 0)))))) = some r := H
                        have A87 := Aside0.mk A870
                        clear A870
                        by_cases c88 : t402 = 0
                        · rw [if_pos c88] at H
                          have c88b0 : (t402 == 0) = true := beq_iff_eq.mpr c88
                          have c88b1 : (t402 != 0) = false := bne_eq_false_iff_eq.mpr c88
                          clear c88
                          obtain rfl := Option.some.inj H
                          go_wp2_with (first | ((with_reducible refine gate_callee (f := 43) rfl ?_); refine goesL_ (some 73) rfl rfl Try.func43 (by kernel_rfl) rfl #[] rfl (by (try simp only [List.map_toArray, List.map_cons, List.map_nil]); first | done | rfl | (simp only [List.length_drop, List.length_take]; rfl)) ?_; (with_reducible refine (spec_DefaultConfig.calls  t386 t387 t388 t389 t390 t391 t392 t393 t394 t395 t396 t397 t398 t399 _ A65.out).mono ?_); rintro e w89 ⟨rfl, hb⟩; refine ⟨_, rfl, ?_⟩; have n0_ := Aside0.mk (blk_below (bl_ BK365.out) hb); have n1_ := Aside0.mk (blk_below (bl_ BK375.out) hb); have n2_ := Aside0.mk (below_step (be_ HB.out) hb); clear BK365 BK375 HB; have BK365 := n0_; have BK375 := n1_; have HB := n2_; clear n0_ n1_ n2_; (try clear hb); (try clear hb2); (try clear hk); (try clear hi)) | ((with_reducible refine gate_dst (N := 12) rfl ?_); refine box_event ?hg (N := 12) ?hd (cs := #[.int .i64 0, .int .i64 0, .int .i64 0, .int .i64 0, .int .i64 0, .int .i64 0, .int .i64 0, .int .i64 0, .int .i64 0, .int .i64 0, .int .i64 0, .int .i64 0, .int .i64 0, .int .i64 0]) (t := 44) ?hr ?_; (case hd => rfl); (case hg => rfl); (case hr => first | (go_simp; done) | (go_simp; rfl)); intro gb400 hg w90 hbox hb; have n0_ := Aside0.mk (blk_below (bl_ BK365.out) hb); have n1_ := Aside0.mk (blk_below (bl_ BK375.out) hb); have n2_ := Aside0.mk (below_step (be_ HB.out) hb); have n3_ := Aside0.mk (hbox); have n4_ := Aside0.mk ((by rw [hg]; exact (below_size (be_ HB.out)) : w.heap.size ≤ gb400)); have n5_ := Aside0.mk ((by rw [hg]; exact (below_size (be_ HB.out)) : w.heap.size ≤ gb400)); have n6_ := Aside0.mk ((by rw [hg]; exact Nat.ne_of_lt (blk_lt (g := gb365) (o := .cells #[.int .i64 t356, .int .i64 t357, .int .i64 t358, .int .i64 t359, .int .i64 t360, .bool t361] 24 (0, 0)) (bl_ BK365.out)) : gb365 ≠ gb400)); have n7_ := Aside0.mk ((by rw [hg]; exact Nat.ne_of_gt (blk_lt (g := gb365) (o := .cells #[.int .i64 t356, .int .i64 t357, .int .i64 t358, .int .i64 t359, .int .i64 t360, .bool t361] 24 (0, 0)) (bl_ BK365.out)) : gb400 ≠ gb365)); have n8_ := Aside0.mk ((by rw [hg]; exact Nat.ne_of_lt (blk_lt (g := gb375) (o := .cells #[.int .i64 t366, .int .i64 t367, .int .i64 t368, .int .i64 t369, .int .i64 t370, .bool t371] 24 (0, 0)) (bl_ BK375.out)) : gb375 ≠ gb400)); have n9_ := Aside0.mk ((by rw [hg]; exact Nat.ne_of_gt (blk_lt (g := gb375) (o := .cells #[.int .i64 t366, .int .i64 t367, .int .i64 t368, .int .i64 t369, .int .i64 t370, .bool t371] 24 (0, 0)) (bl_ BK375.out)) : gb400 ≠ gb375)); clear BK365 BK375 HB; have BK365 := n0_; have BK375 := n1_; have HB := n2_; have BK400 := n3_; have GW400 := n4_; have GE400 := n5_; have NB365_400 := n6_; have NB400_365 := n7_; have NB375_400 := n8_; have NB400_375 := n9_; clear n0_ n1_ n2_ n3_ n4_ n5_ n6_ n7_ n8_ n9_; clear hb hbox hg; have hnb91 := NB400_365.out; have hnc91 := NB365_400.out; have hnb92 := NB400_375.out; have hnc92 := NB375_400.out; obtain ⟨hcz93_0, hcz93_1, hcz93_2, hcz93_3, hcz93_4, hcz93_5, hcz93_6, hcz93_7, hcz93_8, hcz93_9, hcz93_10, hcz93_11, hcz93_12, hcz93_13, hfz93_0, hfz93_1, hfz93_2, hfz93_3, hfz93_4, hfz93_5, hfz93_6, hfz93_7, hfz93_8, hfz93_9, hfz93_10, hfz93_11, hfz93_12, hfz93_13⟩ := cz14_ BK400.out; have hnb94 := NB375_365.out; have hnc94 := NB365_375.out; obtain ⟨hcz95_0, hcz95_1, hcz95_2, hcz95_3, hcz95_4, hcz95_5, hfz95_0, hfz95_1, hfz95_2, hfz95_3, hfz95_4, hfz95_5⟩ := cz6_ BK375.out) | ((with_reducible refine gate_callee (f := 27) rfl ?_); refine goesL_ (some 76) rfl rfl Try.func27 (by kernel_rfl) rfl #[.agg #[.int .i64 t386, .int .i64 t387, .int .i64 t388, .int .i64 t389, .int .i64 t390, .int .i64 t391, .int .i64 t392, .int .i64 t393, .int .i64 t394, .int .i64 t395, .int .i64 t396, .int .i64 t397, .int .i64 t398, .int .i64 t399], .agg #[.int .i64 t366, .int .i64 t367, .int .i64 t368, .int .i64 t369, .int .i64 t370, .bool t371]] rfl (by (try simp only [List.map_toArray, List.map_cons, List.map_nil]); first | done | rfl | (simp only [List.length_drop, List.length_take]; rfl)) ?_; (with_reducible refine (impl_NextConnDue.calls kj43 t386 t387 t388 t389 t390 t391 t392 t393 t394 t395 t396 t397 t398 t399 t366 t367 t368 t369 t370 t371 t401 _ A66.out).mono ?_); rintro e w96 ⟨rfl, hb⟩; refine ⟨_, rfl, ?_⟩; have n0_ := Aside0.mk (blk_below (g := gb365) (o := .cells #[.int .i64 t356, .int .i64 t357, .int .i64 t358, .int .i64 t359, .int .i64 t360, .bool t361] 24 (0, 0)) (by refine bl_ ?_; refine blk_far ?_ NB365_400.out _; refine bl_ ?_; refine blk_far ?_ NB365_400.out _; refine bl_ ?_; refine blk_far ?_ NB365_400.out _; refine bl_ ?_; refine blk_far ?_ NB365_400.out _; refine bl_ ?_; refine blk_far ?_ NB365_400.out _; refine bl_ ?_; refine blk_far ?_ NB365_400.out _; refine bl_ ?_; refine blk_far ?_ NB365_400.out _; refine bl_ ?_; refine blk_far ?_ NB365_400.out _; refine bl_ ?_; refine blk_far ?_ NB365_400.out _; refine bl_ ?_; refine blk_far ?_ NB365_400.out _; refine bl_ ?_; refine blk_far ?_ NB365_400.out _; refine bl_ ?_; refine blk_far ?_ NB365_400.out _; refine bl_ ?_; refine blk_far ?_ NB365_400.out _; refine bl_ ?_; refine blk_far ?_ NB365_400.out _; refine bl_ ?_; exact BK365.out) hb); have n1_ := Aside0.mk (blk_below (g := gb375) (o := .cells #[.int .i64 t366, .int .i64 t367, .int .i64 t368, .int .i64 t369, .int .i64 t370, .bool t371] 24 (0, 0)) (by refine bl_ ?_; refine blk_far ?_ NB375_400.out _; refine bl_ ?_; refine blk_far ?_ NB375_400.out _; refine bl_ ?_; refine blk_far ?_ NB375_400.out _; refine bl_ ?_; refine blk_far ?_ NB375_400.out _; refine bl_ ?_; refine blk_far ?_ NB375_400.out _; refine bl_ ?_; refine blk_far ?_ NB375_400.out _; refine bl_ ?_; refine blk_far ?_ NB375_400.out _; refine bl_ ?_; refine blk_far ?_ NB375_400.out _; refine bl_ ?_; refine blk_far ?_ NB375_400.out _; refine bl_ ?_; refine blk_far ?_ NB375_400.out _; refine bl_ ?_; refine blk_far ?_ NB375_400.out _; refine bl_ ?_; refine blk_far ?_ NB375_400.out _; refine bl_ ?_; refine blk_far ?_ NB375_400.out _; refine bl_ ?_; refine blk_far ?_ NB375_400.out _; refine bl_ ?_; exact BK375.out) hb); have n2_ := Aside0.mk (blk_below (g := gb400) (o := .cells #[.int .i64 t386, .int .i64 t387, .int .i64 t388, .int .i64 t389, .int .i64 t390, .int .i64 t391, .int .i64 t392, .int .i64 t393, .int .i64 t394, .int .i64 t395, .int .i64 t396, .int .i64 t397, .int .i64 t398, .int .i64 t399] 44 (0, 0)) (by refine bl_ ?_; refine blk_put (cs := #[.int .i64 t386, .int .i64 t387, .int .i64 t388, .int .i64 t389, .int .i64 t390, .int .i64 t391, .int .i64 t392, .int .i64 t393, .int .i64 t394, .int .i64 t395, .int .i64 t396, .int .i64 t397, .int .i64 t398, .int .i64 0]) ?_ 13 _ rfl; refine bl_ ?_; refine blk_put (cs := #[.int .i64 t386, .int .i64 t387, .int .i64 t388, .int .i64 t389, .int .i64 t390, .int .i64 t391, .int .i64 t392, .int .i64 t393, .int .i64 t394, .int .i64 t395, .int .i64 t396, .int .i64 t397, .int .i64 0, .int .i64 0]) ?_ 12 _ rfl; refine bl_ ?_; refine blk_put (cs := #[.int .i64 t386, .int .i64 t387, .int .i64 t388, .int .i64 t389, .int .i64 t390, .int .i64 t391, .int .i64 t392, .int .i64 t393, .int .i64 t394, .int .i64 t395, .int .i64 t396, .int .i64 0, .int .i64 0, .int .i64 0]) ?_ 11 _ rfl; refine bl_ ?_; refine blk_put (cs := #[.int .i64 t386, .int .i64 t387, .int .i64 t388, .int .i64 t389, .int .i64 t390, .int .i64 t391, .int .i64 t392, .int .i64 t393, .int .i64 t394, .int .i64 t395, .int .i64 0, .int .i64 0, .int .i64 0, .int .i64 0]) ?_ 10 _ rfl; refine bl_ ?_; refine blk_put (cs := #[.int .i64 t386, .int .i64 t387, .int .i64 t388, .int .i64 t389, .int .i64 t390, .int .i64 t391, .int .i64 t392, .int .i64 t393, .int .i64 t394, .int .i64 0, .int .i64 0, .int .i64 0, .int .i64 0, .int .i64 0]) ?_ 9 _ rfl; refine bl_ ?_; refine blk_put (cs := #[.int .i64 t386, .int .i64 t387, .int .i64 t388, .int .i64 t389, .int .i64 t390, .int .i64 t391, .int .i64 t392, .int .i64 t393, .int .i64 0, .int .i64 0, .int .i64 0, .int .i64 0, .int .i64 0, .int .i64 0]) ?_ 8 _ rfl; refine bl_ ?_; refine blk_put (cs := #[.int .i64 t386, .int .i64 t387, .int .i64 t388, .int .i64 t389, .int .i64 t390, .int .i64 t391, .int .i64 t392, .int .i64 0, .int .i64 0, .int .i64 0, .int .i64 0, .int .i64 0, .int .i64 0, .int .i64 0]) ?_ 7 _ rfl; refine bl_ ?_; refine blk_put (cs := #[.int .i64 t386, .int .i64 t387, .int .i64 t388, .int .i64 t389, .int .i64 t390, .int .i64 t391, .int .i64 0, .int .i64 0, .int .i64 0, .int .i64 0, .int .i64 0, .int .i64 0, .int .i64 0, .int .i64 0]) ?_ 6 _ rfl; refine bl_ ?_; refine blk_put (cs := #[.int .i64 t386, .int .i64 t387, .int .i64 t388, .int .i64 t389, .int .i64 t390, .int .i64 0, .int .i64 0, .int .i64 0, .int .i64 0, .int .i64 0, .int .i64 0, .int .i64 0, .int .i64 0, .int .i64 0]) ?_ 5 _ rfl; refine bl_ ?_; refine blk_put (cs := #[.int .i64 t386, .int .i64 t387, .int .i64 t388, .int .i64 t389, .int .i64 0, .int .i64 0, .int .i64 0, .int .i64 0, .int .i64 0, .int .i64 0, .int .i64 0, .int .i64 0, .int .i64 0, .int .i64 0]) ?_ 4 _ rfl; refine bl_ ?_; refine blk_put (cs := #[.int .i64 t386, .int .i64 t387, .int .i64 t388, .int .i64 0, .int .i64 0, .int .i64 0, .int .i64 0, .int .i64 0, .int .i64 0, .int .i64 0, .int .i64 0, .int .i64 0, .int .i64 0, .int .i64 0]) ?_ 3 _ rfl; refine bl_ ?_; refine blk_put (cs := #[.int .i64 t386, .int .i64 t387, .int .i64 0, .int .i64 0, .int .i64 0, .int .i64 0, .int .i64 0, .int .i64 0, .int .i64 0, .int .i64 0, .int .i64 0, .int .i64 0, .int .i64 0, .int .i64 0]) ?_ 2 _ rfl; refine bl_ ?_; refine blk_put (cs := #[.int .i64 t386, .int .i64 0, .int .i64 0, .int .i64 0, .int .i64 0, .int .i64 0, .int .i64 0, .int .i64 0, .int .i64 0, .int .i64 0, .int .i64 0, .int .i64 0, .int .i64 0, .int .i64 0]) ?_ 1 _ rfl; refine bl_ ?_; refine blk_put (cs := #[.int .i64 0, .int .i64 0, .int .i64 0, .int .i64 0, .int .i64 0, .int .i64 0, .int .i64 0, .int .i64 0, .int .i64 0, .int .i64 0, .int .i64 0, .int .i64 0, .int .i64 0, .int .i64 0]) ?_ 0 _ rfl; refine bl_ ?_; exact BK400.out) hb); have n3_ := Aside0.mk (below_step (be_ HB.out) hb); clear BK365 BK375 BK400 HB; have BK365 := n0_; have BK375 := n1_; have BK400 := n2_; have HB := n3_; clear n0_ n1_ n2_ n3_; (try clear hb); (try clear hb2); (try clear hk); (try clear hi); obtain ⟨hcz97_0, hcz97_1, hcz97_2, hcz97_3, hcz97_4, hcz97_5, hcz97_6, hcz97_7, hcz97_8, hcz97_9, hcz97_10, hcz97_11, hcz97_12, hcz97_13, hfz97_0, hfz97_1, hfz97_2, hfz97_3, hfz97_4, hfz97_5, hfz97_6, hfz97_7, hfz97_8, hfz97_9, hfz97_10, hfz97_11, hfz97_12, hfz97_13⟩ := cz14_ BK400.out; obtain ⟨hcz98_0, hcz98_1, hcz98_2, hcz98_3, hcz98_4, hcz98_5, hfz98_0, hfz98_1, hfz98_2, hfz98_3, hfz98_4, hfz98_5⟩ := cz6_ BK375.out) | ((with_reducible refine gate_callee (f := 22) rfl ?_); refine goesL_ (some 90) rfl rfl Try.func22 (by kernel_rfl) rfl #[.agg #[.int .i64 t386, .int .i64 t387, .int .i64 t388, .int .i64 t389, .int .i64 t390, .int .i64 t391, .int .i64 t392, .int .i64 t393, .int .i64 t394, .int .i64 t395, .int .i64 t396, .int .i64 t397, .int .i64 t398, .int .i64 t399], .agg #[.int .i64 t366, .int .i64 t367, .int .i64 t368, .int .i64 t369, .int .i64 t370, .bool t371], .int .i64 t401] rfl (by (try simp only [List.map_toArray, List.map_cons, List.map_nil]); first | done | rfl | (simp only [List.length_drop, List.length_take]; rfl)) ?_; (with_reducible refine (impl_ConnDue.calls kj43 t386 t387 t388 t389 t390 t391 t392 t393 t394 t395 t396 t397 t398 t399 t366 t367 t368 t369 t370 t371 t401 t402 _ A87.out).mono ?_); rintro e w99 ⟨rfl, hb⟩; refine ⟨_, rfl, ?_⟩; have n0_ := Aside0.mk (blk_below (bl_ BK365.out) hb); have n1_ := Aside0.mk (blk_below (bl_ BK375.out) hb); have n2_ := Aside0.mk (blk_below (bl_ BK400.out) hb); have n3_ := Aside0.mk (below_step (be_ HB.out) hb); clear BK365 BK375 BK400 HB; have BK365 := n0_; have BK375 := n1_; have BK400 := n2_; have HB := n3_; clear n0_ n1_ n2_ n3_; (try clear hb); (try clear hb2); (try clear hk); (try clear hi)))
                          go_ret
                          exact ⟨by first | rfl | (simp [errW_none, errW_some] <;> rfl) | (simp [*, errW_none, errW_some] <;> rfl), be_ HB.out⟩
                        · rw [if_neg c88] at H
                          have c88b0 : (t402 == 0) = false := beq_eq_false_iff_ne.mpr c88
                          have c88b1 : (t402 != 0) = true := bne_iff_ne.mpr c88
                          by_cases c100 : t401 = 0
                          · rw [if_pos c100] at H
                            have c100b0 : (t401 == 0) = true := beq_iff_eq.mpr c100
                            have c100b1 : (t401 != 0) = false := bne_eq_false_iff_eq.mpr c100
                            clear c100
                            obtain rfl := Option.some.inj H
                            go_wp2_with (first | ((with_reducible refine gate_callee (f := 43) rfl ?_); refine goesL_ (some 73) rfl rfl Try.func43 (by kernel_rfl) rfl #[] rfl (by (try simp only [List.map_toArray, List.map_cons, List.map_nil]); first | done | rfl | (simp only [List.length_drop, List.length_take]; rfl)) ?_; (with_reducible refine (spec_DefaultConfig.calls  t386 t387 t388 t389 t390 t391 t392 t393 t394 t395 t396 t397 t398 t399 _ A65.out).mono ?_); rintro e w101 ⟨rfl, hb⟩; refine ⟨_, rfl, ?_⟩; have n0_ := Aside0.mk (blk_below (bl_ BK365.out) hb); have n1_ := Aside0.mk (blk_below (bl_ BK375.out) hb); have n2_ := Aside0.mk (below_step (be_ HB.out) hb); clear BK365 BK375 HB; have BK365 := n0_; have BK375 := n1_; have HB := n2_; clear n0_ n1_ n2_; (try clear hb); (try clear hb2); (try clear hk); (try clear hi)) | ((with_reducible refine gate_dst (N := 12) rfl ?_); refine box_event ?hg (N := 12) ?hd (cs := #[.int .i64 0, .int .i64 0, .int .i64 0, .int .i64 0, .int .i64 0, .int .i64 0, .int .i64 0, .int .i64 0, .int .i64 0, .int .i64 0, .int .i64 0, .int .i64 0, .int .i64 0, .int .i64 0]) (t := 44) ?hr ?_; (case hd => rfl); (case hg => rfl); (case hr => first | (go_simp; done) | (go_simp; rfl)); intro gb400 hg w102 hbox hb; have n0_ := Aside0.mk (blk_below (bl_ BK365.out) hb); have n1_ := Aside0.mk (blk_below (bl_ BK375.out) hb); have n2_ := Aside0.mk (below_step (be_ HB.out) hb); have n3_ := Aside0.mk (hbox); have n4_ := Aside0.mk ((by rw [hg]; exact (below_size (be_ HB.out)) : w.heap.size ≤ gb400)); have n5_ := Aside0.mk ((by rw [hg]; exact (below_size (be_ HB.out)) : w.heap.size ≤ gb400)); have n6_ := Aside0.mk ((by rw [hg]; exact Nat.ne_of_lt (blk_lt (g := gb365) (o := .cells #[.int .i64 t356, .int .i64 t357, .int .i64 t358, .int .i64 t359, .int .i64 t360, .bool t361] 24 (0, 0)) (bl_ BK365.out)) : gb365 ≠ gb400)); have n7_ := Aside0.mk ((by rw [hg]; exact Nat.ne_of_gt (blk_lt (g := gb365) (o := .cells #[.int .i64 t356, .int .i64 t357, .int .i64 t358, .int .i64 t359, .int .i64 t360, .bool t361] 24 (0, 0)) (bl_ BK365.out)) : gb400 ≠ gb365)); have n8_ := Aside0.mk ((by rw [hg]; exact Nat.ne_of_lt (blk_lt (g := gb375) (o := .cells #[.int .i64 t366, .int .i64 t367, .int .i64 t368, .int .i64 t369, .int .i64 t370, .bool t371] 24 (0, 0)) (bl_ BK375.out)) : gb375 ≠ gb400)); have n9_ := Aside0.mk ((by rw [hg]; exact Nat.ne_of_gt (blk_lt (g := gb375) (o := .cells #[.int .i64 t366, .int .i64 t367, .int .i64 t368, .int .i64 t369, .int .i64 t370, .bool t371] 24 (0, 0)) (bl_ BK375.out)) : gb400 ≠ gb375)); clear BK365 BK375 HB; have BK365 := n0_; have BK375 := n1_; have HB := n2_; have BK400 := n3_; have GW400 := n4_; have GE400 := n5_; have NB365_400 := n6_; have NB400_365 := n7_; have NB375_400 := n8_; have NB400_375 := n9_; clear n0_ n1_ n2_ n3_ n4_ n5_ n6_ n7_ n8_ n9_; clear hb hbox hg; have hnb103 := NB400_365.out; have hnc103 := NB365_400.out; have hnb104 := NB400_375.out; have hnc104 := NB375_400.out; obtain ⟨hcz105_0, hcz105_1, hcz105_2, hcz105_3, hcz105_4, hcz105_5, hcz105_6, hcz105_7, hcz105_8, hcz105_9, hcz105_10, hcz105_11, hcz105_12, hcz105_13, hfz105_0, hfz105_1, hfz105_2, hfz105_3, hfz105_4, hfz105_5, hfz105_6, hfz105_7, hfz105_8, hfz105_9, hfz105_10, hfz105_11, hfz105_12, hfz105_13⟩ := cz14_ BK400.out; have hnb106 := NB375_365.out; have hnc106 := NB365_375.out; obtain ⟨hcz107_0, hcz107_1, hcz107_2, hcz107_3, hcz107_4, hcz107_5, hfz107_0, hfz107_1, hfz107_2, hfz107_3, hfz107_4, hfz107_5⟩ := cz6_ BK375.out) | ((with_reducible refine gate_callee (f := 27) rfl ?_); refine goesL_ (some 76) rfl rfl Try.func27 (by kernel_rfl) rfl #[.agg #[.int .i64 t386, .int .i64 t387, .int .i64 t388, .int .i64 t389, .int .i64 t390, .int .i64 t391, .int .i64 t392, .int .i64 t393, .int .i64 t394, .int .i64 t395, .int .i64 t396, .int .i64 t397, .int .i64 t398, .int .i64 t399], .agg #[.int .i64 t366, .int .i64 t367, .int .i64 t368, .int .i64 t369, .int .i64 t370, .bool t371]] rfl (by (try simp only [List.map_toArray, List.map_cons, List.map_nil]); first | done | rfl | (simp only [List.length_drop, List.length_take]; rfl)) ?_; (with_reducible refine (impl_NextConnDue.calls kj43 t386 t387 t388 t389 t390 t391 t392 t393 t394 t395 t396 t397 t398 t399 t366 t367 t368 t369 t370 t371 t401 _ A66.out).mono ?_); rintro e w108 ⟨rfl, hb⟩; refine ⟨_, rfl, ?_⟩; have n0_ := Aside0.mk (blk_below (g := gb365) (o := .cells #[.int .i64 t356, .int .i64 t357, .int .i64 t358, .int .i64 t359, .int .i64 t360, .bool t361] 24 (0, 0)) (by refine bl_ ?_; refine blk_far ?_ NB365_400.out _; refine bl_ ?_; refine blk_far ?_ NB365_400.out _; refine bl_ ?_; refine blk_far ?_ NB365_400.out _; refine bl_ ?_; refine blk_far ?_ NB365_400.out _; refine bl_ ?_; refine blk_far ?_ NB365_400.out _; refine bl_ ?_; refine blk_far ?_ NB365_400.out _; refine bl_ ?_; refine blk_far ?_ NB365_400.out _; refine bl_ ?_; refine blk_far ?_ NB365_400.out _; refine bl_ ?_; refine blk_far ?_ NB365_400.out _; refine bl_ ?_; refine blk_far ?_ NB365_400.out _; refine bl_ ?_; refine blk_far ?_ NB365_400.out _; refine bl_ ?_; refine blk_far ?_ NB365_400.out _; refine bl_ ?_; refine blk_far ?_ NB365_400.out _; refine bl_ ?_; refine blk_far ?_ NB365_400.out _; refine bl_ ?_; exact BK365.out) hb); have n1_ := Aside0.mk (blk_below (g := gb375) (o := .cells #[.int .i64 t366, .int .i64 t367, .int .i64 t368, .int .i64 t369, .int .i64 t370, .bool t371] 24 (0, 0)) (by refine bl_ ?_; refine blk_far ?_ NB375_400.out _; refine bl_ ?_; refine blk_far ?_ NB375_400.out _; refine bl_ ?_; refine blk_far ?_ NB375_400.out _; refine bl_ ?_; refine blk_far ?_ NB375_400.out _; refine bl_ ?_; refine blk_far ?_ NB375_400.out _; refine bl_ ?_; refine blk_far ?_ NB375_400.out _; refine bl_ ?_; refine blk_far ?_ NB375_400.out _; refine bl_ ?_; refine blk_far ?_ NB375_400.out _; refine bl_ ?_; refine blk_far ?_ NB375_400.out _; refine bl_ ?_; refine blk_far ?_ NB375_400.out _; refine bl_ ?_; refine blk_far ?_ NB375_400.out _; refine bl_ ?_; refine blk_far ?_ NB375_400.out _; refine bl_ ?_; refine blk_far ?_ NB375_400.out _; refine bl_ ?_; refine blk_far ?_ NB375_400.out _; refine bl_ ?_; exact BK375.out) hb); have n2_ := Aside0.mk (blk_below (g := gb400) (o := .cells #[.int .i64 t386, .int .i64 t387, .int .i64 t388, .int .i64 t389, .int .i64 t390, .int .i64 t391, .int .i64 t392, .int .i64 t393, .int .i64 t394, .int .i64 t395, .int .i64 t396, .int .i64 t397, .int .i64 t398, .int .i64 t399] 44 (0, 0)) (by refine bl_ ?_; refine blk_put (cs := #[.int .i64 t386, .int .i64 t387, .int .i64 t388, .int .i64 t389, .int .i64 t390, .int .i64 t391, .int .i64 t392, .int .i64 t393, .int .i64 t394, .int .i64 t395, .int .i64 t396, .int .i64 t397, .int .i64 t398, .int .i64 0]) ?_ 13 _ rfl; refine bl_ ?_; refine blk_put (cs := #[.int .i64 t386, .int .i64 t387, .int .i64 t388, .int .i64 t389, .int .i64 t390, .int .i64 t391, .int .i64 t392, .int .i64 t393, .int .i64 t394, .int .i64 t395, .int .i64 t396, .int .i64 t397, .int .i64 0, .int .i64 0]) ?_ 12 _ rfl; refine bl_ ?_; refine blk_put (cs := #[.int .i64 t386, .int .i64 t387, .int .i64 t388, .int .i64 t389, .int .i64 t390, .int .i64 t391, .int .i64 t392, .int .i64 t393, .int .i64 t394, .int .i64 t395, .int .i64 t396, .int .i64 0, .int .i64 0, .int .i64 0]) ?_ 11 _ rfl; refine bl_ ?_; refine blk_put (cs := #[.int .i64 t386, .int .i64 t387, .int .i64 t388, .int .i64 t389, .int .i64 t390, .int .i64 t391, .int .i64 t392, .int .i64 t393, .int .i64 t394, .int .i64 t395, .int .i64 0, .int .i64 0, .int .i64 0, .int .i64 0]) ?_ 10 _ rfl; refine bl_ ?_; refine blk_put (cs := #[.int .i64 t386, .int .i64 t387, .int .i64 t388, .int .i64 t389, .int .i64 t390, .int .i64 t391, .int .i64 t392, .int .i64 t393, .int .i64 t394, .int .i64 0, .int .i64 0, .int .i64 0, .int .i64 0, .int .i64 0]) ?_ 9 _ rfl; refine bl_ ?_; refine blk_put (cs := #[.int .i64 t386, .int .i64 t387, .int .i64 t388, .int .i64 t389, .int .i64 t390, .int .i64 t391, .int .i64 t392, .int .i64 t393, .int .i64 0, .int .i64 0, .int .i64 0, .int .i64 0, .int .i64 0, .int .i64 0]) ?_ 8 _ rfl; refine bl_ ?_; refine blk_put (cs := #[.int .i64 t386, .int .i64 t387, .int .i64 t388, .int .i64 t389, .int .i64 t390, .int .i64 t391, .int .i64 t392, .int .i64 0, .int .i64 0, .int .i64 0, .int .i64 0, .int .i64 0, .int .i64 0, .int .i64 0]) ?_ 7 _ rfl; refine bl_ ?_; refine blk_put (cs := #[.int .i64 t386, .int .i64 t387, .int .i64 t388, .int .i64 t389, .int .i64 t390, .int .i64 t391, .int .i64 0, .int .i64 0, .int .i64 0, .int .i64 0, .int .i64 0, .int .i64 0, .int .i64 0, .int .i64 0]) ?_ 6 _ rfl; refine bl_ ?_; refine blk_put (cs := #[.int .i64 t386, .int .i64 t387, .int .i64 t388, .int .i64 t389, .int .i64 t390, .int .i64 0, .int .i64 0, .int .i64 0, .int .i64 0, .int .i64 0, .int .i64 0, .int .i64 0, .int .i64 0, .int .i64 0]) ?_ 5 _ rfl; refine bl_ ?_; refine blk_put (cs := #[.int .i64 t386, .int .i64 t387, .int .i64 t388, .int .i64 t389, .int .i64 0, .int .i64 0, .int .i64 0, .int .i64 0, .int .i64 0, .int .i64 0, .int .i64 0, .int .i64 0, .int .i64 0, .int .i64 0]) ?_ 4 _ rfl; refine bl_ ?_; refine blk_put (cs := #[.int .i64 t386, .int .i64 t387, .int .i64 t388, .int .i64 0, .int .i64 0, .int .i64 0, .int .i64 0, .int .i64 0, .int .i64 0, .int .i64 0, .int .i64 0, .int .i64 0, .int .i64 0, .int .i64 0]) ?_ 3 _ rfl; refine bl_ ?_; refine blk_put (cs := #[.int .i64 t386, .int .i64 t387, .int .i64 0, .int .i64 0, .int .i64 0, .int .i64 0, .int .i64 0, .int .i64 0, .int .i64 0, .int .i64 0, .int .i64 0, .int .i64 0, .int .i64 0, .int .i64 0]) ?_ 2 _ rfl; refine bl_ ?_; refine blk_put (cs := #[.int .i64 t386, .int .i64 0, .int .i64 0, .int .i64 0, .int .i64 0, .int .i64 0, .int .i64 0, .int .i64 0, .int .i64 0, .int .i64 0, .int .i64 0, .int .i64 0, .int .i64 0, .int .i64 0]) ?_ 1 _ rfl; refine bl_ ?_; refine blk_put (cs := #[.int .i64 0, .int .i64 0, .int .i64 0, .int .i64 0, .int .i64 0, .int .i64 0, .int .i64 0, .int .i64 0, .int .i64 0, .int .i64 0, .int .i64 0, .int .i64 0, .int .i64 0, .int .i64 0]) ?_ 0 _ rfl; refine bl_ ?_; exact BK400.out) hb); have n3_ := Aside0.mk (below_step (be_ HB.out) hb); clear BK365 BK375 BK400 HB; have BK365 := n0_; have BK375 := n1_; have BK400 := n2_; have HB := n3_; clear n0_ n1_ n2_ n3_; (try clear hb); (try clear hb2); (try clear hk); (try clear hi); obtain ⟨hcz109_0, hcz109_1, hcz109_2, hcz109_3, hcz109_4, hcz109_5, hcz109_6, hcz109_7, hcz109_8, hcz109_9, hcz109_10, hcz109_11, hcz109_12, hcz109_13, hfz109_0, hfz109_1, hfz109_2, hfz109_3, hfz109_4, hfz109_5, hfz109_6, hfz109_7, hfz109_8, hfz109_9, hfz109_10, hfz109_11, hfz109_12, hfz109_13⟩ := cz14_ BK400.out; obtain ⟨hcz110_0, hcz110_1, hcz110_2, hcz110_3, hcz110_4, hcz110_5, hfz110_0, hfz110_1, hfz110_2, hfz110_3, hfz110_4, hfz110_5⟩ := cz6_ BK375.out) | ((with_reducible refine gate_callee (f := 22) rfl ?_); refine goesL_ (some 90) rfl rfl Try.func22 (by kernel_rfl) rfl #[.agg #[.int .i64 t386, .int .i64 t387, .int .i64 t388, .int .i64 t389, .int .i64 t390, .int .i64 t391, .int .i64 t392, .int .i64 t393, .int .i64 t394, .int .i64 t395, .int .i64 t396, .int .i64 t397, .int .i64 t398, .int .i64 t399], .agg #[.int .i64 t366, .int .i64 t367, .int .i64 t368, .int .i64 t369, .int .i64 t370, .bool t371], .int .i64 t401] rfl (by (try simp only [List.map_toArray, List.map_cons, List.map_nil]); first | done | rfl | (simp only [List.length_drop, List.length_take]; rfl)) ?_; (with_reducible refine (impl_ConnDue.calls kj43 t386 t387 t388 t389 t390 t391 t392 t393 t394 t395 t396 t397 t398 t399 t366 t367 t368 t369 t370 t371 t401 t402 _ A87.out).mono ?_); rintro e w111 ⟨rfl, hb⟩; refine ⟨_, rfl, ?_⟩; have n0_ := Aside0.mk (blk_below (bl_ BK365.out) hb); have n1_ := Aside0.mk (blk_below (bl_ BK375.out) hb); have n2_ := Aside0.mk (blk_below (bl_ BK400.out) hb); have n3_ := Aside0.mk (below_step (be_ HB.out) hb); clear BK365 BK375 BK400 HB; have BK365 := n0_; have BK375 := n1_; have BK400 := n2_; have HB := n3_; clear n0_ n1_ n2_ n3_; (try clear hb); (try clear hb2); (try clear hk); (try clear hi)))
                            go_ret
                            exact ⟨by first | rfl | (simp [errW_none, errW_some] <;> rfl) | (simp [*, errW_none, errW_some] <;> rfl), be_ HB.out⟩
                          · rw [if_neg c100] at H
                            have c100b0 : (t401 == 0) = false := beq_eq_false_iff_ne.mpr c100
                            have c100b1 : (t401 != 0) = true := bne_iff_ne.mpr c100
                            by_cases c112 : t401 = 1000000000
                            · rw [if_pos c112] at H
                              have c112b0 : (t401 == 1000000000) = true := beq_iff_eq.mpr c112
                              have c112b1 : (t401 != 1000000000) = false := bne_eq_false_iff_eq.mpr c112
                              clear c112
                              obtain rfl := Option.some.inj H
                              go_wp2_with (first | ((with_reducible refine gate_callee (f := 43) rfl ?_); refine goesL_ (some 73) rfl rfl Try.func43 (by kernel_rfl) rfl #[] rfl (by (try simp only [List.map_toArray, List.map_cons, List.map_nil]); first | done | rfl | (simp only [List.length_drop, List.length_take]; rfl)) ?_; (with_reducible refine (spec_DefaultConfig.calls  t386 t387 t388 t389 t390 t391 t392 t393 t394 t395 t396 t397 t398 t399 _ A65.out).mono ?_); rintro e w113 ⟨rfl, hb⟩; refine ⟨_, rfl, ?_⟩; have n0_ := Aside0.mk (blk_below (bl_ BK365.out) hb); have n1_ := Aside0.mk (blk_below (bl_ BK375.out) hb); have n2_ := Aside0.mk (below_step (be_ HB.out) hb); clear BK365 BK375 HB; have BK365 := n0_; have BK375 := n1_; have HB := n2_; clear n0_ n1_ n2_; (try clear hb); (try clear hb2); (try clear hk); (try clear hi)) | ((with_reducible refine gate_dst (N := 12) rfl ?_); refine box_event ?hg (N := 12) ?hd (cs := #[.int .i64 0, .int .i64 0, .int .i64 0, .int .i64 0, .int .i64 0, .int .i64 0, .int .i64 0, .int .i64 0, .int .i64 0, .int .i64 0, .int .i64 0, .int .i64 0, .int .i64 0, .int .i64 0]) (t := 44) ?hr ?_; (case hd => rfl); (case hg => rfl); (case hr => first | (go_simp; done) | (go_simp; rfl)); intro gb400 hg w114 hbox hb; have n0_ := Aside0.mk (blk_below (bl_ BK365.out) hb); have n1_ := Aside0.mk (blk_below (bl_ BK375.out) hb); have n2_ := Aside0.mk (below_step (be_ HB.out) hb); have n3_ := Aside0.mk (hbox); have n4_ := Aside0.mk ((by rw [hg]; exact (below_size (be_ HB.out)) : w.heap.size ≤ gb400)); have n5_ := Aside0.mk ((by rw [hg]; exact (below_size (be_ HB.out)) : w.heap.size ≤ gb400)); have n6_ := Aside0.mk ((by rw [hg]; exact Nat.ne_of_lt (blk_lt (g := gb365) (o := .cells #[.int .i64 t356, .int .i64 t357, .int .i64 t358, .int .i64 t359, .int .i64 t360, .bool t361] 24 (0, 0)) (bl_ BK365.out)) : gb365 ≠ gb400)); have n7_ := Aside0.mk ((by rw [hg]; exact Nat.ne_of_gt (blk_lt (g := gb365) (o := .cells #[.int .i64 t356, .int .i64 t357, .int .i64 t358, .int .i64 t359, .int .i64 t360, .bool t361] 24 (0, 0)) (bl_ BK365.out)) : gb400 ≠ gb365)); have n8_ := Aside0.mk ((by rw [hg]; exact Nat.ne_of_lt (blk_lt (g := gb375) (o := .cells #[.int .i64 t366, .int .i64 t367, .int .i64 t368, .int .i64 t369, .int .i64 t370, .bool t371] 24 (0, 0)) (bl_ BK375.out)) : gb375 ≠ gb400)); have n9_ := Aside0.mk ((by rw [hg]; exact Nat.ne_of_gt (blk_lt (g := gb375) (o := .cells #[.int .i64 t366, .int .i64 t367, .int .i64 t368, .int .i64 t369, .int .i64 t370, .bool t371] 24 (0, 0)) (bl_ BK375.out)) : gb400 ≠ gb375)); clear BK365 BK375 HB; have BK365 := n0_; have BK375 := n1_; have HB := n2_; have BK400 := n3_; have GW400 := n4_; have GE400 := n5_; have NB365_400 := n6_; have NB400_365 := n7_; have NB375_400 := n8_; have NB400_375 := n9_; clear n0_ n1_ n2_ n3_ n4_ n5_ n6_ n7_ n8_ n9_; clear hb hbox hg; have hnb115 := NB400_365.out; have hnc115 := NB365_400.out; have hnb116 := NB400_375.out; have hnc116 := NB375_400.out; obtain ⟨hcz117_0, hcz117_1, hcz117_2, hcz117_3, hcz117_4, hcz117_5, hcz117_6, hcz117_7, hcz117_8, hcz117_9, hcz117_10, hcz117_11, hcz117_12, hcz117_13, hfz117_0, hfz117_1, hfz117_2, hfz117_3, hfz117_4, hfz117_5, hfz117_6, hfz117_7, hfz117_8, hfz117_9, hfz117_10, hfz117_11, hfz117_12, hfz117_13⟩ := cz14_ BK400.out; have hnb118 := NB375_365.out; have hnc118 := NB365_375.out; obtain ⟨hcz119_0, hcz119_1, hcz119_2, hcz119_3, hcz119_4, hcz119_5, hfz119_0, hfz119_1, hfz119_2, hfz119_3, hfz119_4, hfz119_5⟩ := cz6_ BK375.out) | ((with_reducible refine gate_callee (f := 27) rfl ?_); refine goesL_ (some 76) rfl rfl Try.func27 (by kernel_rfl) rfl #[.agg #[.int .i64 t386, .int .i64 t387, .int .i64 t388, .int .i64 t389, .int .i64 t390, .int .i64 t391, .int .i64 t392, .int .i64 t393, .int .i64 t394, .int .i64 t395, .int .i64 t396, .int .i64 t397, .int .i64 t398, .int .i64 t399], .agg #[.int .i64 t366, .int .i64 t367, .int .i64 t368, .int .i64 t369, .int .i64 t370, .bool t371]] rfl (by (try simp only [List.map_toArray, List.map_cons, List.map_nil]); first | done | rfl | (simp only [List.length_drop, List.length_take]; rfl)) ?_; (with_reducible refine (impl_NextConnDue.calls kj43 t386 t387 t388 t389 t390 t391 t392 t393 t394 t395 t396 t397 t398 t399 t366 t367 t368 t369 t370 t371 t401 _ A66.out).mono ?_); rintro e w120 ⟨rfl, hb⟩; refine ⟨_, rfl, ?_⟩; have n0_ := Aside0.mk (blk_below (g := gb365) (o := .cells #[.int .i64 t356, .int .i64 t357, .int .i64 t358, .int .i64 t359, .int .i64 t360, .bool t361] 24 (0, 0)) (by refine bl_ ?_; refine blk_far ?_ NB365_400.out _; refine bl_ ?_; refine blk_far ?_ NB365_400.out _; refine bl_ ?_; refine blk_far ?_ NB365_400.out _; refine bl_ ?_; refine blk_far ?_ NB365_400.out _; refine bl_ ?_; refine blk_far ?_ NB365_400.out _; refine bl_ ?_; refine blk_far ?_ NB365_400.out _; refine bl_ ?_; refine blk_far ?_ NB365_400.out _; refine bl_ ?_; refine blk_far ?_ NB365_400.out _; refine bl_ ?_; refine blk_far ?_ NB365_400.out _; refine bl_ ?_; refine blk_far ?_ NB365_400.out _; refine bl_ ?_; refine blk_far ?_ NB365_400.out _; refine bl_ ?_; refine blk_far ?_ NB365_400.out _; refine bl_ ?_; refine blk_far ?_ NB365_400.out _; refine bl_ ?_; refine blk_far ?_ NB365_400.out _; refine bl_ ?_; exact BK365.out) hb); have n1_ := Aside0.mk (blk_below (g := gb375) (o := .cells #[.int .i64 t366, .int .i64 t367, .int .i64 t368, .int .i64 t369, .int .i64 t370, .bool t371] 24 (0, 0)) (by refine bl_ ?_; refine blk_far ?_ NB375_400.out _; refine bl_ ?_; refine blk_far ?_ NB375_400.out _; refine bl_ ?_; refine blk_far ?_ NB375_400.out _; refine bl_ ?_; refine blk_far ?_ NB375_400.out _; refine bl_ ?_; refine blk_far ?_ NB375_400.out _; refine bl_ ?_; refine blk_far ?_ NB375_400.out _; refine bl_ ?_; refine blk_far ?_ NB375_400.out _; refine bl_ ?_; refine blk_far ?_ NB375_400.out _; refine bl_ ?_; refine blk_far ?_ NB375_400.out _; refine bl_ ?_; refine blk_far ?_ NB375_400.out _; refine bl_ ?_; refine blk_far ?_ NB375_400.out _; refine bl_ ?_; refine blk_far ?_ NB375_400.out _; refine bl_ ?_; refine blk_far ?_ NB375_400.out _; refine bl_ ?_; refine blk_far ?_ NB375_400.out _; refine bl_ ?_; exact BK375.out) hb); have n2_ := Aside0.mk (blk_below (g := gb400) (o := .cells #[.int .i64 t386, .int .i64 t387, .int .i64 t388, .int .i64 t389, .int .i64 t390, .int .i64 t391, .int .i64 t392, .int .i64 t393, .int .i64 t394, .int .i64 t395, .int .i64 t396, .int .i64 t397, .int .i64 t398, .int .i64 t399] 44 (0, 0)) (by refine bl_ ?_; refine blk_put (cs := #[.int .i64 t386, .int .i64 t387, .int .i64 t388, .int .i64 t389, .int .i64 t390, .int .i64 t391, .int .i64 t392, .int .i64 t393, .int .i64 t394, .int .i64 t395, .int .i64 t396, .int .i64 t397, .int .i64 t398, .int .i64 0]) ?_ 13 _ rfl; refine bl_ ?_; refine blk_put (cs := #[.int .i64 t386, .int .i64 t387, .int .i64 t388, .int .i64 t389, .int .i64 t390, .int .i64 t391, .int .i64 t392, .int .i64 t393, .int .i64 t394, .int .i64 t395, .int .i64 t396, .int .i64 t397, .int .i64 0, .int .i64 0]) ?_ 12 _ rfl; refine bl_ ?_; refine blk_put (cs := #[.int .i64 t386, .int .i64 t387, .int .i64 t388, .int .i64 t389, .int .i64 t390, .int .i64 t391, .int .i64 t392, .int .i64 t393, .int .i64 t394, .int .i64 t395, .int .i64 t396, .int .i64 0, .int .i64 0, .int .i64 0]) ?_ 11 _ rfl; refine bl_ ?_; refine blk_put (cs := #[.int .i64 t386, .int .i64 t387, .int .i64 t388, .int .i64 t389, .int .i64 t390, .int .i64 t391, .int .i64 t392, .int .i64 t393, .int .i64 t394, .int .i64 t395, .int .i64 0, .int .i64 0, .int .i64 0, .int .i64 0]) ?_ 10 _ rfl; refine bl_ ?_; refine blk_put (cs := #[.int .i64 t386, .int .i64 t387, .int .i64 t388, .int .i64 t389, .int .i64 t390, .int .i64 t391, .int .i64 t392, .int .i64 t393, .int .i64 t394, .int .i64 0, .int .i64 0, .int .i64 0, .int .i64 0, .int .i64 0]) ?_ 9 _ rfl; refine bl_ ?_; refine blk_put (cs := #[.int .i64 t386, .int .i64 t387, .int .i64 t388, .int .i64 t389, .int .i64 t390, .int .i64 t391, .int .i64 t392, .int .i64 t393, .int .i64 0, .int .i64 0, .int .i64 0, .int .i64 0, .int .i64 0, .int .i64 0]) ?_ 8 _ rfl; refine bl_ ?_; refine blk_put (cs := #[.int .i64 t386, .int .i64 t387, .int .i64 t388, .int .i64 t389, .int .i64 t390, .int .i64 t391, .int .i64 t392, .int .i64 0, .int .i64 0, .int .i64 0, .int .i64 0, .int .i64 0, .int .i64 0, .int .i64 0]) ?_ 7 _ rfl; refine bl_ ?_; refine blk_put (cs := #[.int .i64 t386, .int .i64 t387, .int .i64 t388, .int .i64 t389, .int .i64 t390, .int .i64 t391, .int .i64 0, .int .i64 0, .int .i64 0, .int .i64 0, .int .i64 0, .int .i64 0, .int .i64 0, .int .i64 0]) ?_ 6 _ rfl; refine bl_ ?_; refine blk_put (cs := #[.int .i64 t386, .int .i64 t387, .int .i64 t388, .int .i64 t389, .int .i64 t390, .int .i64 0, .int .i64 0, .int .i64 0, .int .i64 0, .int .i64 0, .int .i64 0, .int .i64 0, .int .i64 0, .int .i64 0]) ?_ 5 _ rfl; refine bl_ ?_; refine blk_put (cs := #[.int .i64 t386, .int .i64 t387, .int .i64 t388, .int .i64 t389, .int .i64 0, .int .i64 0, .int .i64 0, .int .i64 0, .int .i64 0, .int .i64 0, .int .i64 0, .int .i64 0, .int .i64 0, .int .i64 0]) ?_ 4 _ rfl; refine bl_ ?_; refine blk_put (cs := #[.int .i64 t386, .int .i64 t387, .int .i64 t388, .int .i64 0, .int .i64 0, .int .i64 0, .int .i64 0, .int .i64 0, .int .i64 0, .int .i64 0, .int .i64 0, .int .i64 0, .int .i64 0, .int .i64 0]) ?_ 3 _ rfl; refine bl_ ?_; refine blk_put (cs := #[.int .i64 t386, .int .i64 t387, .int .i64 0, .int .i64 0, .int .i64 0, .int .i64 0, .int .i64 0, .int .i64 0, .int .i64 0, .int .i64 0, .int .i64 0, .int .i64 0, .int .i64 0, .int .i64 0]) ?_ 2 _ rfl; refine bl_ ?_; refine blk_put (cs := #[.int .i64 t386, .int .i64 0, .int .i64 0, .int .i64 0, .int .i64 0, .int .i64 0, .int .i64 0, .int .i64 0, .int .i64 0, .int .i64 0, .int .i64 0, .int .i64 0, .int .i64 0, .int .i64 0]) ?_ 1 _ rfl; refine bl_ ?_; refine blk_put (cs := #[.int .i64 0, .int .i64 0, .int .i64 0, .int .i64 0, .int .i64 0, .int .i64 0, .int .i64 0, .int .i64 0, .int .i64 0, .int .i64 0, .int .i64 0, .int .i64 0, .int .i64 0, .int .i64 0]) ?_ 0 _ rfl; refine bl_ ?_; exact BK400.out) hb); have n3_ := Aside0.mk (below_step (be_ HB.out) hb); clear BK365 BK375 BK400 HB; have BK365 := n0_; have BK375 := n1_; have BK400 := n2_; have HB := n3_; clear n0_ n1_ n2_ n3_; (try clear hb); (try clear hb2); (try clear hk); (try clear hi); obtain ⟨hcz121_0, hcz121_1, hcz121_2, hcz121_3, hcz121_4, hcz121_5, hcz121_6, hcz121_7, hcz121_8, hcz121_9, hcz121_10, hcz121_11, hcz121_12, hcz121_13, hfz121_0, hfz121_1, hfz121_2, hfz121_3, hfz121_4, hfz121_5, hfz121_6, hfz121_7, hfz121_8, hfz121_9, hfz121_10, hfz121_11, hfz121_12, hfz121_13⟩ := cz14_ BK400.out; obtain ⟨hcz122_0, hcz122_1, hcz122_2, hcz122_3, hcz122_4, hcz122_5, hfz122_0, hfz122_1, hfz122_2, hfz122_3, hfz122_4, hfz122_5⟩ := cz6_ BK375.out) | ((with_reducible refine gate_callee (f := 22) rfl ?_); refine goesL_ (some 90) rfl rfl Try.func22 (by kernel_rfl) rfl #[.agg #[.int .i64 t386, .int .i64 t387, .int .i64 t388, .int .i64 t389, .int .i64 t390, .int .i64 t391, .int .i64 t392, .int .i64 t393, .int .i64 t394, .int .i64 t395, .int .i64 t396, .int .i64 t397, .int .i64 t398, .int .i64 t399], .agg #[.int .i64 t366, .int .i64 t367, .int .i64 t368, .int .i64 t369, .int .i64 t370, .bool t371], .int .i64 t401] rfl (by (try simp only [List.map_toArray, List.map_cons, List.map_nil]); first | done | rfl | (simp only [List.length_drop, List.length_take]; rfl)) ?_; (with_reducible refine (impl_ConnDue.calls kj43 t386 t387 t388 t389 t390 t391 t392 t393 t394 t395 t396 t397 t398 t399 t366 t367 t368 t369 t370 t371 t401 t402 _ A87.out).mono ?_); rintro e w123 ⟨rfl, hb⟩; refine ⟨_, rfl, ?_⟩; have n0_ := Aside0.mk (blk_below (bl_ BK365.out) hb); have n1_ := Aside0.mk (blk_below (bl_ BK375.out) hb); have n2_ := Aside0.mk (blk_below (bl_ BK400.out) hb); have n3_ := Aside0.mk (below_step (be_ HB.out) hb); clear BK365 BK375 BK400 HB; have BK365 := n0_; have BK375 := n1_; have BK400 := n2_; have HB := n3_; clear n0_ n1_ n2_ n3_; (try clear hb); (try clear hb2); (try clear hk); (try clear hi)))
                              go_ret
                              exact ⟨by first | rfl | (simp [errW_none, errW_some] <;> rfl) | (simp [*, errW_none, errW_some] <;> rfl), be_ HB.out⟩
                            · rw [if_neg c112] at H
                              have c112b0 : (t401 == 1000000000) = false := beq_eq_false_iff_ne.mpr c112
                              have c112b1 : (t401 != 1000000000) = true := bne_iff_ne.mpr c112
                              replace H := Option.bind_eq_some_iff.mp H
                              obtain ⟨t403, A1240, H⟩ := H
                              replace H : (some (t403 == 0)) = some r := H
                              have A124 := Aside0.mk A1240
                              clear A1240
                              obtain rfl := Option.some.inj H
                              go_wp2_with (first | ((with_reducible refine gate_callee (f := 43) rfl ?_); refine goesL_ (some 73) rfl rfl Try.func43 (by kernel_rfl) rfl #[] rfl (by (try simp only [List.map_toArray, List.map_cons, List.map_nil]); first | done | rfl | (simp only [List.length_drop, List.length_take]; rfl)) ?_; (with_reducible refine (spec_DefaultConfig.calls  t386 t387 t388 t389 t390 t391 t392 t393 t394 t395 t396 t397 t398 t399 _ A65.out).mono ?_); rintro e w125 ⟨rfl, hb⟩; refine ⟨_, rfl, ?_⟩; have n0_ := Aside0.mk (blk_below (bl_ BK365.out) hb); have n1_ := Aside0.mk (blk_below (bl_ BK375.out) hb); have n2_ := Aside0.mk (below_step (be_ HB.out) hb); clear BK365 BK375 HB; have BK365 := n0_; have BK375 := n1_; have HB := n2_; clear n0_ n1_ n2_; (try clear hb); (try clear hb2); (try clear hk); (try clear hi)) | ((with_reducible refine gate_dst (N := 12) rfl ?_); refine box_event ?hg (N := 12) ?hd (cs := #[.int .i64 0, .int .i64 0, .int .i64 0, .int .i64 0, .int .i64 0, .int .i64 0, .int .i64 0, .int .i64 0, .int .i64 0, .int .i64 0, .int .i64 0, .int .i64 0, .int .i64 0, .int .i64 0]) (t := 44) ?hr ?_; (case hd => rfl); (case hg => rfl); (case hr => first | (go_simp; done) | (go_simp; rfl)); intro gb400 hg w126 hbox hb; have n0_ := Aside0.mk (blk_below (bl_ BK365.out) hb); have n1_ := Aside0.mk (blk_below (bl_ BK375.out) hb); have n2_ := Aside0.mk (below_step (be_ HB.out) hb); have n3_ := Aside0.mk (hbox); have n4_ := Aside0.mk ((by rw [hg]; exact (below_size (be_ HB.out)) : w.heap.size ≤ gb400)); have n5_ := Aside0.mk ((by rw [hg]; exact (below_size (be_ HB.out)) : w.heap.size ≤ gb400)); have n6_ := Aside0.mk ((by rw [hg]; exact Nat.ne_of_lt (blk_lt (g := gb365) (o := .cells #[.int .i64 t356, .int .i64 t357, .int .i64 t358, .int .i64 t359, .int .i64 t360, .bool t361] 24 (0, 0)) (bl_ BK365.out)) : gb365 ≠ gb400)); have n7_ := Aside0.mk ((by rw [hg]; exact Nat.ne_of_gt (blk_lt (g := gb365) (o := .cells #[.int .i64 t356, .int .i64 t357, .int .i64 t358, .int .i64 t359, .int .i64 t360, .bool t361] 24 (0, 0)) (bl_ BK365.out)) : gb400 ≠ gb365)); have n8_ := Aside0.mk ((by rw [hg]; exact Nat.ne_of_lt (blk_lt (g := gb375) (o := .cells #[.int .i64 t366, .int .i64 t367, .int .i64 t368, .int .i64 t369, .int .i64 t370, .bool t371] 24 (0, 0)) (bl_ BK375.out)) : gb375 ≠ gb400)); have n9_ := Aside0.mk ((by rw [hg]; exact Nat.ne_of_gt (blk_lt (g := gb375) (o := .cells #[.int .i64 t366, .int .i64 t367, .int .i64 t368, .int .i64 t369, .int .i64 t370, .bool t371] 24 (0, 0)) (bl_ BK375.out)) : gb400 ≠ gb375)); clear BK365 BK375 HB; have BK365 := n0_; have BK375 := n1_; have HB := n2_; have BK400 := n3_; have GW400 := n4_; have GE400 := n5_; have NB365_400 := n6_; have NB400_365 := n7_; have NB375_400 := n8_; have NB400_375 := n9_; clear n0_ n1_ n2_ n3_ n4_ n5_ n6_ n7_ n8_ n9_; clear hb hbox hg; have hnb127 := NB400_365.out; have hnc127 := NB365_400.out; have hnb128 := NB400_375.out; have hnc128 := NB375_400.out; obtain ⟨hcz129_0, hcz129_1, hcz129_2, hcz129_3, hcz129_4, hcz129_5, hcz129_6, hcz129_7, hcz129_8, hcz129_9, hcz129_10, hcz129_11, hcz129_12, hcz129_13, hfz129_0, hfz129_1, hfz129_2, hfz129_3, hfz129_4, hfz129_5, hfz129_6, hfz129_7, hfz129_8, hfz129_9, hfz129_10, hfz129_11, hfz129_12, hfz129_13⟩ := cz14_ BK400.out; have hnb130 := NB375_365.out; have hnc130 := NB365_375.out; obtain ⟨hcz131_0, hcz131_1, hcz131_2, hcz131_3, hcz131_4, hcz131_5, hfz131_0, hfz131_1, hfz131_2, hfz131_3, hfz131_4, hfz131_5⟩ := cz6_ BK375.out) | ((with_reducible refine gate_callee (f := 27) rfl ?_); refine goesL_ (some 76) rfl rfl Try.func27 (by kernel_rfl) rfl #[.agg #[.int .i64 t386, .int .i64 t387, .int .i64 t388, .int .i64 t389, .int .i64 t390, .int .i64 t391, .int .i64 t392, .int .i64 t393, .int .i64 t394, .int .i64 t395, .int .i64 t396, .int .i64 t397, .int .i64 t398, .int .i64 t399], .agg #[.int .i64 t366, .int .i64 t367, .int .i64 t368, .int .i64 t369, .int .i64 t370, .bool t371]] rfl (by (try simp only [List.map_toArray, List.map_cons, List.map_nil]); first | done | rfl | (simp only [List.length_drop, List.length_take]; rfl)) ?_; (with_reducible refine (impl_NextConnDue.calls kj43 t386 t387 t388 t389 t390 t391 t392 t393 t394 t395 t396 t397 t398 t399 t366 t367 t368 t369 t370 t371 t401 _ A66.out).mono ?_); rintro e w132 ⟨rfl, hb⟩; refine ⟨_, rfl, ?_⟩; have n0_ := Aside0.mk (blk_below (g := gb365) (o := .cells #[.int .i64 t356, .int .i64 t357, .int .i64 t358, .int .i64 t359, .int .i64 t360, .bool t361] 24 (0, 0)) (by refine bl_ ?_; refine blk_far ?_ NB365_400.out _; refine bl_ ?_; refine blk_far ?_ NB365_400.out _; refine bl_ ?_; refine blk_far ?_ NB365_400.out _; refine bl_ ?_; refine blk_far ?_ NB365_400.out _; refine bl_ ?_; refine blk_far ?_ NB365_400.out _; refine bl_ ?_; refine blk_far ?_ NB365_400.out _; refine bl_ ?_; refine blk_far ?_ NB365_400.out _; refine bl_ ?_; refine blk_far ?_ NB365_400.out _; refine bl_ ?_; refine blk_far ?_ NB365_400.out _; refine bl_ ?_; refine blk_far ?_ NB365_400.out _; refine bl_ ?_; refine blk_far ?_ NB365_400.out _; refine bl_ ?_; refine blk_far ?_ NB365_400.out _; refine bl_ ?_; refine blk_far ?_ NB365_400.out _; refine bl_ ?_; refine blk_far ?_ NB365_400.out _; refine bl_ ?_; exact BK365.out) hb); have n1_ := Aside0.mk (blk_below (g := gb375) (o := .cells #[.int .i64 t366, .int .i64 t367, .int .i64 t368, .int .i64 t369, .int .i64 t370, .bool t371] 24 (0, 0)) (by refine bl_ ?_; refine blk_far ?_ NB375_400.out _; refine bl_ ?_; refine blk_far ?_ NB375_400.out _; refine bl_ ?_; refine blk_far ?_ NB375_400.out _; refine bl_ ?_; refine blk_far ?_ NB375_400.out _; refine bl_ ?_; refine blk_far ?_ NB375_400.out _; refine bl_ ?_; refine blk_far ?_ NB375_400.out _; refine bl_ ?_; refine blk_far ?_ NB375_400.out _; refine bl_ ?_; refine blk_far ?_ NB375_400.out _; refine bl_ ?_; refine blk_far ?_ NB375_400.out _; refine bl_ ?_; refine blk_far ?_ NB375_400.out _; refine bl_ ?_; refine blk_far ?_ NB375_400.out _; refine bl_ ?_; refine blk_far ?_ NB375_400.out _; refine bl_ ?_; refine blk_far ?_ NB375_400.out _; refine bl_ ?_; refine blk_far ?_ NB375_400.out _; refine bl_ ?_; exact BK375.out) hb); have n2_ := Aside0.mk (blk_below (g := gb400) (o := .cells #[.int .i64 t386, .int .i64 t387, .int .i64 t388, .int .i64 t389, .int .i64 t390, .int .i64 t391, .int .i64 t392, .int .i64 t393, .int .i64 t394, .int .i64 t395, .int .i64 t396, .int .i64 t397, .int .i64 t398, .int .i64 t399] 44 (0, 0)) (by refine bl_ ?_; refine blk_put (cs := #[.int .i64 t386, .int .i64 t387, .int .i64 t388, .int .i64 t389, .int .i64 t390, .int .i64 t391, .int .i64 t392, .int .i64 t393, .int .i64 t394, .int .i64 t395, .int .i64 t396, .int .i64 t397, .int .i64 t398, .int .i64 0]) ?_ 13 _ rfl; refine bl_ ?_; refine blk_put (cs := #[.int .i64 t386, .int .i64 t387, .int .i64 t388, .int .i64 t389, .int .i64 t390, .int .i64 t391, .int .i64 t392, .int .i64 t393, .int .i64 t394, .int .i64 t395, .int .i64 t396, .int .i64 t397, .int .i64 0, .int .i64 0]) ?_ 12 _ rfl; refine bl_ ?_; refine blk_put (cs := #[.int .i64 t386, .int .i64 t387, .int .i64 t388, .int .i64 t389, .int .i64 t390, .int .i64 t391, .int .i64 t392, .int .i64 t393, .int .i64 t394, .int .i64 t395, .int .i64 t396, .int .i64 0, .int .i64 0, .int .i64 0]) ?_ 11 _ rfl; refine bl_ ?_; refine blk_put (cs := #[.int .i64 t386, .int .i64 t387, .int .i64 t388, .int .i64 t389, .int .i64 t390, .int .i64 t391, .int .i64 t392, .int .i64 t393, .int .i64 t394, .int .i64 t395, .int .i64 0, .int .i64 0, .int .i64 0, .int .i64 0]) ?_ 10 _ rfl; refine bl_ ?_; refine blk_put (cs := #[.int .i64 t386, .int .i64 t387, .int .i64 t388, .int .i64 t389, .int .i64 t390, .int .i64 t391, .int .i64 t392, .int .i64 t393, .int .i64 t394, .int .i64 0, .int .i64 0, .int .i64 0, .int .i64 0, .int .i64 0]) ?_ 9 _ rfl; refine bl_ ?_; refine blk_put (cs := #[.int .i64 t386, .int .i64 t387, .int .i64 t388, .int .i64 t389, .int .i64 t390, .int .i64 t391, .int .i64 t392, .int .i64 t393, .int .i64 0, .int .i64 0, .int .i64 0, .int .i64 0, .int .i64 0, .int .i64 0]) ?_ 8 _ rfl; refine bl_ ?_; refine blk_put (cs := #[.int .i64 t386, .int .i64 t387, .int .i64 t388, .int .i64 t389, .int .i64 t390, .int .i64 t391, .int .i64 t392, .int .i64 0, .int .i64 0, .int .i64 0, .int .i64 0, .int .i64 0, .int .i64 0, .int .i64 0]) ?_ 7 _ rfl; refine bl_ ?_; refine blk_put (cs := #[.int .i64 t386, .int .i64 t387, .int .i64 t388, .int .i64 t389, .int .i64 t390, .int .i64 t391, .int .i64 0, .int .i64 0, .int .i64 0, .int .i64 0, .int .i64 0, .int .i64 0, .int .i64 0, .int .i64 0]) ?_ 6 _ rfl; refine bl_ ?_; refine blk_put (cs := #[.int .i64 t386, .int .i64 t387, .int .i64 t388, .int .i64 t389, .int .i64 t390, .int .i64 0, .int .i64 0, .int .i64 0, .int .i64 0, .int .i64 0, .int .i64 0, .int .i64 0, .int .i64 0, .int .i64 0]) ?_ 5 _ rfl; refine bl_ ?_; refine blk_put (cs := #[.int .i64 t386, .int .i64 t387, .int .i64 t388, .int .i64 t389, .int .i64 0, .int .i64 0, .int .i64 0, .int .i64 0, .int .i64 0, .int .i64 0, .int .i64 0, .int .i64 0, .int .i64 0, .int .i64 0]) ?_ 4 _ rfl; refine bl_ ?_; refine blk_put (cs := #[.int .i64 t386, .int .i64 t387, .int .i64 t388, .int .i64 0, .int .i64 0, .int .i64 0, .int .i64 0, .int .i64 0, .int .i64 0, .int .i64 0, .int .i64 0, .int .i64 0, .int .i64 0, .int .i64 0]) ?_ 3 _ rfl; refine bl_ ?_; refine blk_put (cs := #[.int .i64 t386, .int .i64 t387, .int .i64 0, .int .i64 0, .int .i64 0, .int .i64 0, .int .i64 0, .int .i64 0, .int .i64 0, .int .i64 0, .int .i64 0, .int .i64 0, .int .i64 0, .int .i64 0]) ?_ 2 _ rfl; refine bl_ ?_; refine blk_put (cs := #[.int .i64 t386, .int .i64 0, .int .i64 0, .int .i64 0, .int .i64 0, .int .i64 0, .int .i64 0, .int .i64 0, .int .i64 0, .int .i64 0, .int .i64 0, .int .i64 0, .int .i64 0, .int .i64 0]) ?_ 1 _ rfl; refine bl_ ?_; refine blk_put (cs := #[.int .i64 0, .int .i64 0, .int .i64 0, .int .i64 0, .int .i64 0, .int .i64 0, .int .i64 0, .int .i64 0, .int .i64 0, .int .i64 0, .int .i64 0, .int .i64 0, .int .i64 0, .int .i64 0]) ?_ 0 _ rfl; refine bl_ ?_; exact BK400.out) hb); have n3_ := Aside0.mk (below_step (be_ HB.out) hb); clear BK365 BK375 BK400 HB; have BK365 := n0_; have BK375 := n1_; have BK400 := n2_; have HB := n3_; clear n0_ n1_ n2_ n3_; (try clear hb); (try clear hb2); (try clear hk); (try clear hi); obtain ⟨hcz133_0, hcz133_1, hcz133_2, hcz133_3, hcz133_4, hcz133_5, hcz133_6, hcz133_7, hcz133_8, hcz133_9, hcz133_10, hcz133_11, hcz133_12, hcz133_13, hfz133_0, hfz133_1, hfz133_2, hfz133_3, hfz133_4, hfz133_5, hfz133_6, hfz133_7, hfz133_8, hfz133_9, hfz133_10, hfz133_11, hfz133_12, hfz133_13⟩ := cz14_ BK400.out; obtain ⟨hcz134_0, hcz134_1, hcz134_2, hcz134_3, hcz134_4, hcz134_5, hfz134_0, hfz134_1, hfz134_2, hfz134_3, hfz134_4, hfz134_5⟩ := cz6_ BK375.out) | ((with_reducible refine gate_callee (f := 22) rfl ?_); refine goesL_ (some 90) rfl rfl Try.func22 (by kernel_rfl) rfl #[.agg #[.int .i64 t386, .int .i64 t387, .int .i64 t388, .int .i64 t389, .int .i64 t390, .int .i64 t391, .int .i64 t392, .int .i64 t393, .int .i64 t394, .int .i64 t395, .int .i64 t396, .int .i64 t397, .int .i64 t398, .int .i64 t399], .agg #[.int .i64 t366, .int .i64 t367, .int .i64 t368, .int .i64 t369, .int .i64 t370, .bool t371], .int .i64 t401] rfl (by (try simp only [List.map_toArray, List.map_cons, List.map_nil]); first | done | rfl | (simp only [List.length_drop, List.length_take]; rfl)) ?_; (with_reducible refine (impl_ConnDue.calls kj43 t386 t387 t388 t389 t390 t391 t392 t393 t394 t395 t396 t397 t398 t399 t366 t367 t368 t369 t370 t371 t401 t402 _ A87.out).mono ?_); rintro e w135 ⟨rfl, hb⟩; refine ⟨_, rfl, ?_⟩; have n0_ := Aside0.mk (blk_below (bl_ BK365.out) hb); have n1_ := Aside0.mk (blk_below (bl_ BK375.out) hb); have n2_ := Aside0.mk (blk_below (bl_ BK400.out) hb); have n3_ := Aside0.mk (below_step (be_ HB.out) hb); clear BK365 BK375 BK400 HB; have BK365 := n0_; have BK375 := n1_; have BK400 := n2_; have HB := n3_; clear n0_ n1_ n2_ n3_; (try clear hb); (try clear hb2); (try clear hk); (try clear hi); obtain ⟨hcz136_0, hcz136_1, hcz136_2, hcz136_3, hcz136_4, hcz136_5, hcz136_6, hcz136_7, hcz136_8, hcz136_9, hcz136_10, hcz136_11, hcz136_12, hcz136_13, hfz136_0, hfz136_1, hfz136_2, hfz136_3, hfz136_4, hfz136_5, hfz136_6, hfz136_7, hfz136_8, hfz136_9, hfz136_10, hfz136_11, hfz136_12, hfz136_13⟩ := cz14_ BK400.out; obtain ⟨hcz137_0, hcz137_1, hcz137_2, hcz137_3, hcz137_4, hcz137_5, hfz137_0, hfz137_1, hfz137_2, hfz137_3, hfz137_4, hfz137_5⟩ := cz6_ BK375.out) | (go_at_call 22; (with_reducible refine (impl_ConnDue.calls kj43 t386 t387 t388 t389 t390 t391 t392 t393 t394 t395 t396 t397 t398 t399 t366 t367 t368 t369 t370 t371 (wrap64 (t401 - 1)) t403 _ A124.out).mono ?_); rintro e w138 ⟨rfl, hb⟩; have n0_ := Aside0.mk (blk_below (bl_ BK365.out) hb); have n1_ := Aside0.mk (blk_below (bl_ BK375.out) hb); have n2_ := Aside0.mk (blk_below (bl_ BK400.out) hb); have n3_ := Aside0.mk (below_step (be_ HB.out) hb); clear BK365 BK375 BK400 HB; have BK365 := n0_; have BK375 := n1_; have BK400 := n2_; have HB := n3_; clear n0_ n1_ n2_ n3_; (try clear hb); (try clear hb2); (try clear hk); (try clear hi)))
                              go_ret
                              exact ⟨by first | rfl | (simp [errW_none, errW_some] <;> rfl) | (simp [*, errW_none, errW_some] <;> rfl), be_ HB.out⟩

/-- THE ONE PURE STATEMENT of laws_FnConns: yours. -/
def laws_FnConns.Pure : Prop := ∀ (l0 : List Int), l0.length ≤ maxLen → l0.length * 1 ≤ 140737488351232 → (∀ x ∈ l0, (Lit.int .u8 x).wf = true) → ∃ k, laws_FnConns.f k l0 = some true
theorem laws_FnConns.walk (P : laws_FnConns.Pure) (a0 : Option Addr) (len0 cap0 : Nat) (z0 : List Int) (w : World) (w0 : (a0 = none ∧ len0 = 0 ∧ cap0 = 0 ∧ z0 = []) ∨ ∃ x, a0 = some x ∧ len0 ≤ cap0 ∧ cap0 ≤ maxLen ∧ z0.length = cap0 ∧ (∀ i, i < z0.length → w.cell? (x.add i) = some (.int .u8 (z0.getD i 0))) ∧ ∀ n ∈ z0, (Lit.int .u8 n).wf = true) (y0 : len0 * 1 ≤ 140737488351232) :
    Calls Try.prog 10 #[.slice a0 len0 cap0] w fun e w' => e = .returned (.bool true) ∧ Below w.heap.size w w' := by
  obtain ⟨l0, rfl, hr0, hm0, hw0, hc0⟩ := ReadsInt.ofRowC w0
  obtain ⟨k, h⟩ := P l0 hm0 y0 hw0
  refine (laws_FnConns.calls k _ _ l0 true w (Kd.C_of_reads (d := (0 : Int)) (h1 := fun _ => rfl) hr0) hc0 h).mono ?_
  rintro e w' ⟨rfl, hd⟩
  exact ⟨rfl, hd⟩

end Go.Proofs.Ytpckdemamlhpdaa.MFnConns
