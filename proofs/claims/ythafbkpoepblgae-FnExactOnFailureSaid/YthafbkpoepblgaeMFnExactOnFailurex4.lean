-- Written by a program of this session over the kit's print, with stand-ins for the functions that the print leaves; Lean checks it.
import Derived.Test.YthafbkpoepblgaeMFnExactOnFailurex0
import Derived.Test.YthafbkpoepblgaeMFnExactOnFailurex1
import Derived.Test.YthafbkpoepblgaeMFnExactOnFailurex2
import Derived.Test.YthafbkpoepblgaeMFnExactOnFailurex3
namespace Go.Proofs.Ythafbkpoepblgae.MFnExactOnFailure
open Go.RowKit Go.Proofs.YthafbkpoepblgaeW.PrintWords Go.Proofs.YthafbkpoepblgaeW.PrintLast Go.Proofs.YthafbkpoepblgaeW.PrintMore
attribute [local go_sem] max2_int min2_int max_two min_two max_three min_three max_four min_four   -- for this text's walks alone
set_option linter.unusedVariables false
set_option linter.unusedSimpArgs false

/-! ### spec_OnFailure: function 5 -/
mutual
def spec_OnFailure.j0 : Nat → Int → Bool → Int → Int → Int → Int → Int → Int → Int → Int → Int → Int → Int → Int → Int → Int → Int → List Int → Int → Int → List Int → Int → Option (Int × List Int × Int × Bool)
 | 0, _, _, _, _, _, _, _, _, _, _, _, _, _, _, _, _, _, _, _, _, _, _ => none
 | k + 1, x2, x43, x141000, x141001, x141002, x141003, x141004, x141005, x141006, x141007, x141008, x141009, x141010, x141011, x141012, x141013, x142000, x142001, x142002, x149000, x149001, x149002 => if x43 = true then (some (x149000, x149001, x149002, false)) else (if x142000 = 2 then ((spec_AddTick.f k x2 x141012).bind fun t153 => (some (1, ([] : List Int), t153, true))) else (if x142000 = 1 then (some (x149000, x149001, x149002, true)) else (spec_OnFailure.l0 k x2 (([] : List Int)) 0 x141000 x141001 x141002 x141003 x141004 x141005 x141006 x141007 x141008 x141009 x141010 x141011 x141012 x141013 x142000 x142001 x142002 x149000 x149001 x149002)))
def spec_OnFailure.l0 : Nat → Int → List Int → Int → Int → Int → Int → Int → Int → Int → Int → Int → Int → Int → Int → Int → Int → Int → Int → List Int → Int → Int → List Int → Int → Option (Int × List Int × Int × Bool)
 | 0, _, _, _, _, _, _, _, _, _, _, _, _, _, _, _, _, _, _, _, _, _, _, _ => none
 | k + 1, x2, x9, x10, x141000, x141001, x141002, x141003, x141004, x141005, x141006, x141007, x141008, x141009, x141010, x141011, x141012, x141013, x142000, x142001, x142002, x149000, x149001, x149002 => if x10 < (x142001.length : Int) then (if 0 ≤ x10 then (if (rd x142001 x10) ≥ (wrap64 (x2 - x141010)) then (if x9.length < 17592186044416 then (spec_OnFailure.l0 k x2 (x9 ++ [rd x142001 x10]) (wrap64 (x10 + 1)) x141000 x141001 x141002 x141003 x141004 x141005 x141006 x141007 x141008 x141009 x141010 x141011 x141012 x141013 x142000 x142001 x142002 x149000 x149001 x149002) else (none)) else (spec_OnFailure.l0 k x2 x9 (wrap64 (x10 + 1)) x141000 x141001 x141002 x141003 x141004 x141005 x141006 x141007 x141008 x141009 x141010 x141011 x141012 x141013 x142000 x142001 x142002 x149000 x149001 x149002)) else (none)) else (if x9.length < 17592186044416 then ((some (x9 ++ [x2] : List Int)).bind fun y162 => (if (y162.length : Int) ≥ x141011 then ((spec_AddTick.f k x2 x141012).bind fun t165 => (some (1, ([] : List Int), t165, true))) else (some (x149000, y162, x149002, true)))) else (none))
end
def spec_OnFailure.f (k : Nat) (a0_0 : Int) (a0_1 : Int) (a0_2 : Int) (a0_3 : Int) (a0_4 : Int) (a0_5 : Int) (a0_6 : Int) (a0_7 : Int) (a0_8 : Int) (a0_9 : Int) (a0_10 : Int) (a0_11 : Int) (a0_12 : Int) (a0_13 : Int) (a1_0 : Int) (l1_1 : List Int) (a1_2 : Int) (a2 : Int) : Option (Int × List Int × Int × Bool) := (spec_l06Copy.f k a1_0 l1_1 a1_2).bind fun bt143 => ((spec_ConfigOk.f k a0_0 a0_1 a0_2 a0_3 a0_4 a0_5 a0_6 a0_7 a0_8 a0_9 a0_10 a0_11 a0_12 a0_13).bind fun t149 => (if t149 = true then ((spec_BreakerOk.f k a1_0 l1_1 a1_2).bind fun t150 => (if t150 = true then ((spec_TickOk.f a2).bind fun t151 => (if t151 = true then (if (l1_1.length : Int) > 0 then (if 0 ≤ (wrap64 ((l1_1.length : Int) - 1)) then (if (wrap64 ((l1_1.length : Int) - 1)) < (l1_1.length : Int) then (spec_OnFailure.j0 k a2 (decide (a2 < (rd l1_1 (wrap64 ((l1_1.length : Int) - 1))))) a0_0 a0_1 a0_2 a0_3 a0_4 a0_5 a0_6 a0_7 a0_8 a0_9 a0_10 a0_11 a0_12 a0_13 a1_0 l1_1 a1_2 bt143.1 bt143.2.1 bt143.2.2) else (none)) else (none)) else (spec_OnFailure.j0 k a2 false a0_0 a0_1 a0_2 a0_3 a0_4 a0_5 a0_6 a0_7 a0_8 a0_9 a0_10 a0_11 a0_12 a0_13 a1_0 l1_1 a1_2 bt143.1 bt143.2.1 bt143.2.2)) else (spec_OnFailure.j0 k a2 true a0_0 a0_1 a0_2 a0_3 a0_4 a0_5 a0_6 a0_7 a0_8 a0_9 a0_10 a0_11 a0_12 a0_13 a1_0 l1_1 a1_2 bt143.1 bt143.2.1 bt143.2.2))) else (spec_OnFailure.j0 k a2 true a0_0 a0_1 a0_2 a0_3 a0_4 a0_5 a0_6 a0_7 a0_8 a0_9 a0_10 a0_11 a0_12 a0_13 a1_0 l1_1 a1_2 bt143.1 bt143.2.1 bt143.2.2))) else (spec_OnFailure.j0 k a2 true a0_0 a0_1 a0_2 a0_3 a0_4 a0_5 a0_6 a0_7 a0_8 a0_9 a0_10 a0_11 a0_12 a0_13 a1_0 l1_1 a1_2 bt143.1 bt143.2.1 bt143.2.2)))
theorem spec_OnFailure.mono_l : ∀ k, (∀ y0 y1 y2 y3 y4 y5 y6 y7 y8 y9 y10 y11 y12 y13 y14 y15 y16 y17 y18 y19 y20 y21, LeO (spec_OnFailure.j0 k y0 y1 y2 y3 y4 y5 y6 y7 y8 y9 y10 y11 y12 y13 y14 y15 y16 y17 y18 y19 y20 y21) (spec_OnFailure.j0 (k + 1) y0 y1 y2 y3 y4 y5 y6 y7 y8 y9 y10 y11 y12 y13 y14 y15 y16 y17 y18 y19 y20 y21)) ∧ (∀ y0 y1 y2 y3 y4 y5 y6 y7 y8 y9 y10 y11 y12 y13 y14 y15 y16 y17 y18 y19 y20 y21 y22, LeO (spec_OnFailure.l0 k y0 y1 y2 y3 y4 y5 y6 y7 y8 y9 y10 y11 y12 y13 y14 y15 y16 y17 y18 y19 y20 y21 y22) (spec_OnFailure.l0 (k + 1) y0 y1 y2 y3 y4 y5 y6 y7 y8 y9 y10 y11 y12 y13 y14 y15 y16 y17 y18 y19 y20 y21 y22))
 | 0 => ⟨fun _ _ _ _ _ _ _ _ _ _ _ _ _ _ _ _ _ _ _ _ _ _ r h => by simp [spec_OnFailure.j0] at h, fun _ _ _ _ _ _ _ _ _ _ _ _ _ _ _ _ _ _ _ _ _ _ _ r h => by simp [spec_OnFailure.l0] at h⟩
 | k + 1 => by
  obtain ⟨ih0, ih1⟩ := spec_OnFailure.mono_l k
  refine ⟨?_, ?_⟩
  ·
   intro y0 y1 y2 y3 y4 y5 y6 y7 y8 y9 y10 y11 y12 y13 y14 y15 y16 y17 y18 y19 y20 y21
   unfold spec_OnFailure.j0
   repeat' first
   | (with_reducible exact ih0 _ _ _ _ _ _ _ _ _ _ _ _ _ _ _ _ _ _ _ _ _ _)
   | (with_reducible exact ih1 _ _ _ _ _ _ _ _ _ _ _ _ _ _ _ _ _ _ _ _ _ _ _)
   | (with_reducible exact spec_AddTick.mono _ _ _)
   | (with_reducible exact spec_BreakerOk.mono _ _ _ _)
   | (with_reducible exact spec_ConfigOk.mono _ _ _ _ _ _ _ _ _ _ _ _ _ _ _)
   | (with_reducible exact spec_l06Copy.mono _ _ _ _)
   | (with_reducible exact LeO.refl _)
   | (with_reducible exact LeO.none _)
   | (with_reducible refine LeO.ite ?_ ?_)
   | (with_reducible refine LeO.bind ?_ (fun _ => ?_))
   | exact ih0 _ _ _ _ _ _ _ _ _ _ _ _ _ _ _ _ _ _ _ _ _ _
   | exact ih1 _ _ _ _ _ _ _ _ _ _ _ _ _ _ _ _ _ _ _ _ _ _ _
   | exact spec_AddTick.mono _ _ _
   | exact spec_BreakerOk.mono _ _ _ _
   | exact spec_ConfigOk.mono _ _ _ _ _ _ _ _ _ _ _ _ _ _ _
   | exact spec_l06Copy.mono _ _ _ _
   | exact LeO.none _
   | refine LeO.ite ?_ ?_
   | refine LeO.bind ?_ (fun _ => ?_)
  intro y0 y1 y2 y3 y4 y5 y6 y7 y8 y9 y10 y11 y12 y13 y14 y15 y16 y17 y18 y19 y20 y21 y22
  unfold spec_OnFailure.l0
  repeat' first
  | (with_reducible exact ih0 _ _ _ _ _ _ _ _ _ _ _ _ _ _ _ _ _ _ _ _ _ _)
  | (with_reducible exact ih1 _ _ _ _ _ _ _ _ _ _ _ _ _ _ _ _ _ _ _ _ _ _ _)
  | (with_reducible exact spec_AddTick.mono _ _ _)
  | (with_reducible exact spec_BreakerOk.mono _ _ _ _)
  | (with_reducible exact spec_ConfigOk.mono _ _ _ _ _ _ _ _ _ _ _ _ _ _ _)
  | (with_reducible exact spec_l06Copy.mono _ _ _ _)
  | (with_reducible exact LeO.refl _)
  | (with_reducible exact LeO.none _)
  | (with_reducible refine LeO.ite ?_ ?_)
  | (with_reducible refine LeO.bind ?_ (fun _ => ?_))
  | exact ih0 _ _ _ _ _ _ _ _ _ _ _ _ _ _ _ _ _ _ _ _ _ _
  | exact ih1 _ _ _ _ _ _ _ _ _ _ _ _ _ _ _ _ _ _ _ _ _ _ _
  | exact spec_AddTick.mono _ _ _
  | exact spec_BreakerOk.mono _ _ _ _
  | exact spec_ConfigOk.mono _ _ _ _ _ _ _ _ _ _ _ _ _ _ _
  | exact spec_l06Copy.mono _ _ _ _
  | exact LeO.none _
  | refine LeO.ite ?_ ?_
  | refine LeO.bind ?_ (fun _ => ?_)
theorem spec_OnFailure.mono : ∀ a0 a1 a2 a3 a4 a5 a6 a7 a8 a9 a10 a11 a12 a13 a14 a15 a16 a17 k, LeO (spec_OnFailure.f k a0 a1 a2 a3 a4 a5 a6 a7 a8 a9 a10 a11 a12 a13 a14 a15 a16 a17) (spec_OnFailure.f (k + 1) a0 a1 a2 a3 a4 a5 a6 a7 a8 a9 a10 a11 a12 a13 a14 a15 a16 a17) := by
 intro a0 a1 a2 a3 a4 a5 a6 a7 a8 a9 a10 a11 a12 a13 a14 a15 a16 a17 k
 obtain ⟨ih0, ih1⟩ := spec_OnFailure.mono_l k
 unfold spec_OnFailure.f
 repeat' first
  | (with_reducible exact ih0 _ _ _ _ _ _ _ _ _ _ _ _ _ _ _ _ _ _ _ _ _ _)
  | (with_reducible exact ih1 _ _ _ _ _ _ _ _ _ _ _ _ _ _ _ _ _ _ _ _ _ _ _)
  | (with_reducible exact spec_AddTick.mono _ _ _)
  | (with_reducible exact spec_BreakerOk.mono _ _ _ _)
  | (with_reducible exact spec_ConfigOk.mono _ _ _ _ _ _ _ _ _ _ _ _ _ _ _)
  | (with_reducible exact spec_l06Copy.mono _ _ _ _)
  | (with_reducible exact LeO.refl _)
  | (with_reducible exact LeO.none _)
  | (with_reducible refine LeO.ite ?_ ?_)
  | (with_reducible refine LeO.bind ?_ (fun _ => ?_))
  | exact ih0 _ _ _ _ _ _ _ _ _ _ _ _ _ _ _ _ _ _ _ _ _ _
  | exact ih1 _ _ _ _ _ _ _ _ _ _ _ _ _ _ _ _ _ _ _ _ _ _ _
  | exact spec_AddTick.mono _ _ _
  | exact spec_BreakerOk.mono _ _ _ _
  | exact spec_ConfigOk.mono _ _ _ _ _ _ _ _ _ _ _ _ _ _ _
  | exact spec_l06Copy.mono _ _ _ _
  | exact LeO.none _
  | refine LeO.ite ?_ ?_
  | refine LeO.bind ?_ (fun _ => ?_)
set_option maxHeartbeats 40000000 in
set_option maxRecDepth 100000 in
theorem spec_OnFailure.calls (k : Nat) (a0_0 : Int) (a0_1 : Int) (a0_2 : Int) (a0_3 : Int) (a0_4 : Int) (a0_5 : Int) (a0_6 : Int) (a0_7 : Int) (a0_8 : Int) (a0_9 : Int) (a0_10 : Int) (a0_11 : Int) (a0_12 : Int) (a0_13 : Int) (a1_0 : Int) (A1_1 : Option Addr) (c1_1 : Nat) (l1_1 : List Int) (a1_2 : Int) (a2 : Int) (r1 : Int) (r2 : List Int) (r3 : Int) (r4 : Bool) (w : World) (hr1_1 : Kd.C (Kd.int .i64) w A1_1 l1_1.length l1_1) (hc1_1 : l1_1.length ≤ c1_1) (h : spec_OnFailure.f k a0_0 a0_1 a0_2 a0_3 a0_4 a0_5 a0_6 a0_7 a0_8 a0_9 a0_10 a0_11 a0_12 a0_13 a1_0 l1_1 a1_2 a2 = some (r1, r2, r3, r4)) :
 Calls Try.prog 5 #[.agg #[.int .i64 a0_0, .int .i64 a0_1, .int .i64 a0_2, .int .i64 a0_3, .int .i64 a0_4, .int .i64 a0_5, .int .i64 a0_6, .int .i64 a0_7, .int .i64 a0_8, .int .i64 a0_9, .int .i64 a0_10, .int .i64 a0_11, .int .i64 a0_12, .int .i64 a0_13], .agg #[.int .i64 a1_0, .slice A1_1 l1_1.length c1_1, .int .i64 a1_2], .int .i64 a2] w fun e w' => ∃ v1_ : Value, e = .returned (.tuple #[.agg #[.int .i64 r1, v1_, .int .i64 r3], .bool r4]) ∧ Kd.R (Kd.int .i64) 3 w' w.heap.size (fun _ => True) v1_ r2 ∧ Below w.heap.size w w' := by
 have hu31 := Try.underlying31
 have hu28 := Try.underlying28
 have HR1_1 := Aside0.mk hr1_1
 have HC1_1 := Aside0.mk hc1_1
 clear hr1_1 hc1_1
 have HB := Aside0.mk (Below.refl w.heap.size w)
 have H : ((spec_l06Copy.f k a1_0 l1_1 a1_2).bind fun bt143 => ((spec_ConfigOk.f k a0_0 a0_1 a0_2 a0_3 a0_4 a0_5 a0_6 a0_7 a0_8 a0_9 a0_10 a0_11 a0_12 a0_13).bind fun t149 => (if t149 = true then ((spec_BreakerOk.f k a1_0 l1_1 a1_2).bind fun t150 => (if t150 = true then ((spec_TickOk.f a2).bind fun t151 => (if t151 = true then (if (l1_1.length : Int) > 0 then (if 0 ≤ (wrap64 ((l1_1.length : Int) - 1)) then (if (wrap64 ((l1_1.length : Int) - 1)) < (l1_1.length : Int) then (spec_OnFailure.j0 k a2 (decide (a2 < (rd l1_1 (wrap64 ((l1_1.length : Int) - 1))))) a0_0 a0_1 a0_2 a0_3 a0_4 a0_5 a0_6 a0_7 a0_8 a0_9 a0_10 a0_11 a0_12 a0_13 a1_0 l1_1 a1_2 bt143.1 bt143.2.1 bt143.2.2) else (none)) else (none)) else (spec_OnFailure.j0 k a2 false a0_0 a0_1 a0_2 a0_3 a0_4 a0_5 a0_6 a0_7 a0_8 a0_9 a0_10 a0_11 a0_12 a0_13 a1_0 l1_1 a1_2 bt143.1 bt143.2.1 bt143.2.2)) else (spec_OnFailure.j0 k a2 true a0_0 a0_1 a0_2 a0_3 a0_4 a0_5 a0_6 a0_7 a0_8 a0_9 a0_10 a0_11 a0_12 a0_13 a1_0 l1_1 a1_2 bt143.1 bt143.2.1 bt143.2.2))) else (spec_OnFailure.j0 k a2 true a0_0 a0_1 a0_2 a0_3 a0_4 a0_5 a0_6 a0_7 a0_8 a0_9 a0_10 a0_11 a0_12 a0_13 a1_0 l1_1 a1_2 bt143.1 bt143.2.1 bt143.2.2))) else (spec_OnFailure.j0 k a2 true a0_0 a0_1 a0_2 a0_3 a0_4 a0_5 a0_6 a0_7 a0_8 a0_9 a0_10 a0_11 a0_12 a0_13 a1_0 l1_1 a1_2 bt143.1 bt143.2.1 bt143.2.2)))) = some (r1, r2, r3, r4) := h
 clear h
 replace H := Option.bind_eq_some_iff.mp H
 obtain ⟨⟨t143, t144, t147⟩, A40, H⟩ := H
 replace H : ((spec_ConfigOk.f k a0_0 a0_1 a0_2 a0_3 a0_4 a0_5 a0_6 a0_7 a0_8 a0_9 a0_10 a0_11 a0_12 a0_13).bind fun t149 => (if t149 = true then ((spec_BreakerOk.f k a1_0 l1_1 a1_2).bind fun t150 => (if t150 = true then ((spec_TickOk.f a2).bind fun t151 => (if t151 = true then (if (l1_1.length : Int) > 0 then (if 0 ≤ (wrap64 ((l1_1.length : Int) - 1)) then (if (wrap64 ((l1_1.length : Int) - 1)) < (l1_1.length : Int) then (spec_OnFailure.j0 k a2 (decide (a2 < (rd l1_1 (wrap64 ((l1_1.length : Int) - 1))))) a0_0 a0_1 a0_2 a0_3 a0_4 a0_5 a0_6 a0_7 a0_8 a0_9 a0_10 a0_11 a0_12 a0_13 a1_0 l1_1 a1_2 t143 t144 t147) else (none)) else (none)) else (spec_OnFailure.j0 k a2 false a0_0 a0_1 a0_2 a0_3 a0_4 a0_5 a0_6 a0_7 a0_8 a0_9 a0_10 a0_11 a0_12 a0_13 a1_0 l1_1 a1_2 t143 t144 t147)) else (spec_OnFailure.j0 k a2 true a0_0 a0_1 a0_2 a0_3 a0_4 a0_5 a0_6 a0_7 a0_8 a0_9 a0_10 a0_11 a0_12 a0_13 a1_0 l1_1 a1_2 t143 t144 t147))) else (spec_OnFailure.j0 k a2 true a0_0 a0_1 a0_2 a0_3 a0_4 a0_5 a0_6 a0_7 a0_8 a0_9 a0_10 a0_11 a0_12 a0_13 a1_0 l1_1 a1_2 t143 t144 t147))) else (spec_OnFailure.j0 k a2 true a0_0 a0_1 a0_2 a0_3 a0_4 a0_5 a0_6 a0_7 a0_8 a0_9 a0_10 a0_11 a0_12 a0_13 a1_0 l1_1 a1_2 t143 t144 t147))) = some (r1, r2, r3, r4) := H
 have A4 := Aside0.mk A40
 clear A40
 have HC5 := Aside0.mk H
 clear H
 go_enter Try.func5, Try.ntmps5
 go_upto_region 2 with (first | ((with_reducible refine gate_dst (N := 3) rfl ?_); (try (refine gate_guard (by rfl) ?_; dsimp only)); refine box_event ?hg (N := 3) ?hd (cs := #[.int .i64 a0_0, .int .i64 a0_1, .int .i64 a0_2, .int .i64 a0_3, .int .i64 a0_4, .int .i64 a0_5, .int .i64 a0_6, .int .i64 a0_7, .int .i64 a0_8, .int .i64 a0_9, .int .i64 a0_10, .int .i64 a0_11, .int .i64 a0_12, .int .i64 a0_13]) (t := 31) ?hr ?_; (case hd => rfl); (case hg => rfl); (case hr => first | (go_simp; done) | (go_simp; rfl)); intro gb140 hg w6 hbox hb; have n0_ := Aside0.mk (below_step (be_ HB.out) hb); have n1_ := Aside0.mk (hbox); have n2_ := Aside0.mk (gs_ hg (be_ HB.out)); have n3_ := Aside0.mk (gs_ hg (be_ HB.out)); clear HB; have HB := n0_; have BK140 := n1_; have GW140 := n2_; have GE140 := n3_; clear n0_ n1_ n2_ n3_; clear hb hbox hg) | ((with_reducible refine gate_dst (N := 4) rfl ?_); (try (refine gate_guard (by rfl) ?_; dsimp only)); refine box_event ?hg (N := 4) ?hd (cs := #[.int .i64 a1_0, .slice A1_1 l1_1.length c1_1, .int .i64 a1_2]) (t := 28) ?hr ?_; (case hd => rfl); (case hg => rfl); (case hr => first | (go_simp; done) | (go_simp; rfl)); intro gb141 hg w7 hbox hb; have n0_ := Aside0.mk (blk_below (bl_ BK140.out) hb); have n1_ := Aside0.mk (below_step (be_ HB.out) hb); have n2_ := Aside0.mk (hbox); have n3_ := Aside0.mk (gs_ hg (be_ HB.out)); have n4_ := Aside0.mk (gs_ hg (be_ HB.out)); have n5_ := Aside0.mk (nl_ hg (bl_ BK140.out)); have n6_ := Aside0.mk (ng_ hg (bl_ BK140.out)); clear BK140 HB; have BK140 := n0_; have HB := n1_; have BK141 := n2_; have GW141 := n3_; have GE141 := n4_; have NB140_141 := n5_; have NB141_140 := n6_; clear n0_ n1_ n2_ n3_ n4_ n5_ n6_; clear hb hbox hg) | ((with_reducible refine gate_dst (N := 6) rfl ?_); (try (refine gate_guard (by rfl) ?_; dsimp only)); refine box_event ?hg (N := 6) ?hd (cs := #[.int .i64 0, .slice none 0 0, .int .i64 0]) (t := 28) ?hr ?_; (case hd => rfl); (case hg => rfl); (case hr => first | (go_simp; done) | (go_simp; rfl)); intro gb142 hg w8 hbox hb; have n0_ := Aside0.mk (blk_below (bl_ BK140.out) hb); have n1_ := Aside0.mk (blk_below (bl_ BK141.out) hb); have n2_ := Aside0.mk (below_step (be_ HB.out) hb); have n3_ := Aside0.mk (hbox); have n4_ := Aside0.mk (gs_ hg (be_ HB.out)); have n5_ := Aside0.mk (gs_ hg (be_ HB.out)); have n6_ := Aside0.mk (nl_ hg (bl_ BK140.out)); have n7_ := Aside0.mk (ng_ hg (bl_ BK140.out)); have n8_ := Aside0.mk (nl_ hg (bl_ BK141.out)); have n9_ := Aside0.mk (ng_ hg (bl_ BK141.out)); clear BK140 BK141 HB; have BK140 := n0_; have BK141 := n1_; have HB := n2_; have BK142 := n3_; have GW142 := n4_; have GE142 := n5_; have NB140_142 := n6_; have NB142_140 := n7_; have NB141_142 := n8_; have NB142_141 := n9_; clear n0_ n1_ n2_ n3_ n4_ n5_ n6_ n7_ n8_ n9_; clear hb hbox hg; have hnb9 := NB141_140.out; have hnc9 := NB140_141.out; have hnb10 := NB141_142.out; have hnc10 := NB142_141.out; obtain ⟨hcz11_0, hcz11_1, hcz11_2, hfz11_0, hfz11_1, hfz11_2⟩ := cz3_ BK141.out) | (go_at_call 13; (with_reducible refine (spec_l06Copy.calls k a1_0 _ _ l1_1 a1_2 t143 t144 t147 _ ?side1 ?side2 A4.out).mono ?_); (case side1 => repeat (first | exact (Kd.C_below HR1_1.out HB.out) | (with_reducible refine Kd.C_alloc ?_ _) | (with_reducible refine Kd.C_drewN ?_ _) | (with_reducible refine Kd.C_drew ?_))); (case side2 => exact HC1_1.out); rintro e w12 ⟨v145, rfl, ho0, hb⟩; have n0_ := Aside0.mk (Kd.R_lower ho0 (below_size (be_ HB.out))); have n1_ := Aside0.mk (blk_below (bl_ BK140.out) hb); have n2_ := Aside0.mk (blk_below (bl_ BK141.out) hb); have n3_ := Aside0.mk (blk_below (bl_ BK142.out) hb); have n4_ := Aside0.mk (below_step (be_ HB.out) hb); clear BK140 BK141 BK142 HB; have HO146 := n0_; have BK140 := n1_; have BK141 := n2_; have BK142 := n3_; have HB := n4_; clear n0_ n1_ n2_ n3_ n4_; (try clear hb); (try clear hb2); (try clear hk); (try clear hi); (try clear ho0)) | ((with_reducible refine gate_dst (N := 8) rfl ?_); (try (refine gate_guard (by rfl) ?_; dsimp only)); refine box_event ?hg (N := 8) ?hd (cs := #[.int .i64 0, .slice none 0 0, .int .i64 0]) (t := 28) ?hr ?_; (case hd => rfl); (case hg => rfl); (case hr => first | (go_simp; done) | (go_simp; rfl)); intro gb148 hg w13 hbox hb; have n0_ := Aside0.mk (Kd.R_below (ro_ HO146.out) hb); have n1_ := Aside0.mk (blk_below (bl_ BK140.out) hb); have n2_ := Aside0.mk (blk_below (bl_ BK141.out) hb); have n3_ := Aside0.mk (blk_below (bl_ BK142.out) hb); have n4_ := Aside0.mk (below_step (be_ HB.out) hb); have n5_ := Aside0.mk (hbox); have n6_ := Aside0.mk (gs_ hg (be_ HB.out)); have n7_ := Aside0.mk (gs_ hg (be_ HB.out)); have n8_ := Aside0.mk (nl_ hg (bl_ BK140.out)); have n9_ := Aside0.mk (ng_ hg (bl_ BK140.out)); have n10_ := Aside0.mk (nl_ hg (bl_ BK141.out)); have n11_ := Aside0.mk (ng_ hg (bl_ BK141.out)); have n12_ := Aside0.mk (nl_ hg (bl_ BK142.out)); have n13_ := Aside0.mk (ng_ hg (bl_ BK142.out)); clear HO146 BK140 BK141 BK142 HB; have HO146 := n0_; have BK140 := n1_; have BK141 := n2_; have BK142 := n3_; have HB := n4_; have BK148 := n5_; have GW148 := n6_; have GE148 := n7_; have NB140_148 := n8_; have NB148_140 := n9_; have NB141_148 := n10_; have NB148_141 := n11_; have NB142_148 := n12_; have NB148_142 := n13_; clear n0_ n1_ n2_ n3_ n4_ n5_ n6_ n7_ n8_ n9_ n10_ n11_ n12_ n13_; clear hb hbox hg; have hnb14 := NB148_140.out; have hnc14 := NB140_148.out; have hnb15 := NB148_141.out; have hnc15 := NB141_148.out; have hnb16 := NB148_142.out; have hnc16 := NB142_148.out; obtain ⟨hcz17_0, hcz17_1, hcz17_2, hfz17_0, hfz17_1, hfz17_2⟩ := cz3_ BK148.out; obtain ⟨Ao18, co18, eo18⟩ := Kd.R_slice HO146.out; subst eo18))
 repeat (go_quiet (first | ((with_reducible refine gate_dst (N := 3) rfl ?_); (try (refine gate_guard (by rfl) ?_; dsimp only)); refine box_event ?hg (N := 3) ?hd (cs := #[.int .i64 a0_0, .int .i64 a0_1, .int .i64 a0_2, .int .i64 a0_3, .int .i64 a0_4, .int .i64 a0_5, .int .i64 a0_6, .int .i64 a0_7, .int .i64 a0_8, .int .i64 a0_9, .int .i64 a0_10, .int .i64 a0_11, .int .i64 a0_12, .int .i64 a0_13]) (t := 31) ?hr ?_; (case hd => rfl); (case hg => rfl); (case hr => first | (go_simp; done) | (go_simp; rfl)); intro gb140 hg w6 hbox hb; have n0_ := Aside0.mk (below_step (be_ HB.out) hb); have n1_ := Aside0.mk (hbox); have n2_ := Aside0.mk (gs_ hg (be_ HB.out)); have n3_ := Aside0.mk (gs_ hg (be_ HB.out)); clear HB; have HB := n0_; have BK140 := n1_; have GW140 := n2_; have GE140 := n3_; clear n0_ n1_ n2_ n3_; clear hb hbox hg) | ((with_reducible refine gate_dst (N := 4) rfl ?_); (try (refine gate_guard (by rfl) ?_; dsimp only)); refine box_event ?hg (N := 4) ?hd (cs := #[.int .i64 a1_0, .slice A1_1 l1_1.length c1_1, .int .i64 a1_2]) (t := 28) ?hr ?_; (case hd => rfl); (case hg => rfl); (case hr => first | (go_simp; done) | (go_simp; rfl)); intro gb141 hg w7 hbox hb; have n0_ := Aside0.mk (blk_below (bl_ BK140.out) hb); have n1_ := Aside0.mk (below_step (be_ HB.out) hb); have n2_ := Aside0.mk (hbox); have n3_ := Aside0.mk (gs_ hg (be_ HB.out)); have n4_ := Aside0.mk (gs_ hg (be_ HB.out)); have n5_ := Aside0.mk (nl_ hg (bl_ BK140.out)); have n6_ := Aside0.mk (ng_ hg (bl_ BK140.out)); clear BK140 HB; have BK140 := n0_; have HB := n1_; have BK141 := n2_; have GW141 := n3_; have GE141 := n4_; have NB140_141 := n5_; have NB141_140 := n6_; clear n0_ n1_ n2_ n3_ n4_ n5_ n6_; clear hb hbox hg) | ((with_reducible refine gate_dst (N := 6) rfl ?_); (try (refine gate_guard (by rfl) ?_; dsimp only)); refine box_event ?hg (N := 6) ?hd (cs := #[.int .i64 0, .slice none 0 0, .int .i64 0]) (t := 28) ?hr ?_; (case hd => rfl); (case hg => rfl); (case hr => first | (go_simp; done) | (go_simp; rfl)); intro gb142 hg w8 hbox hb; have n0_ := Aside0.mk (blk_below (bl_ BK140.out) hb); have n1_ := Aside0.mk (blk_below (bl_ BK141.out) hb); have n2_ := Aside0.mk (below_step (be_ HB.out) hb); have n3_ := Aside0.mk (hbox); have n4_ := Aside0.mk (gs_ hg (be_ HB.out)); have n5_ := Aside0.mk (gs_ hg (be_ HB.out)); have n6_ := Aside0.mk (nl_ hg (bl_ BK140.out)); have n7_ := Aside0.mk (ng_ hg (bl_ BK140.out)); have n8_ := Aside0.mk (nl_ hg (bl_ BK141.out)); have n9_ := Aside0.mk (ng_ hg (bl_ BK141.out)); clear BK140 BK141 HB; have BK140 := n0_; have BK141 := n1_; have HB := n2_; have BK142 := n3_; have GW142 := n4_; have GE142 := n5_; have NB140_142 := n6_; have NB142_140 := n7_; have NB141_142 := n8_; have NB142_141 := n9_; clear n0_ n1_ n2_ n3_ n4_ n5_ n6_ n7_ n8_ n9_; clear hb hbox hg; have hnb9 := NB141_140.out; have hnc9 := NB140_141.out; have hnb10 := NB141_142.out; have hnc10 := NB142_141.out; obtain ⟨hcz11_0, hcz11_1, hcz11_2, hfz11_0, hfz11_1, hfz11_2⟩ := cz3_ BK141.out) | (go_at_call 13; (with_reducible refine (spec_l06Copy.calls k a1_0 _ _ l1_1 a1_2 t143 t144 t147 _ ?side1 ?side2 A4.out).mono ?_); (case side1 => repeat (first | exact (Kd.C_below HR1_1.out HB.out) | (with_reducible refine Kd.C_alloc ?_ _) | (with_reducible refine Kd.C_drewN ?_ _) | (with_reducible refine Kd.C_drew ?_))); (case side2 => exact HC1_1.out); rintro e w12 ⟨v145, rfl, ho0, hb⟩; have n0_ := Aside0.mk (Kd.R_lower ho0 (below_size (be_ HB.out))); have n1_ := Aside0.mk (blk_below (bl_ BK140.out) hb); have n2_ := Aside0.mk (blk_below (bl_ BK141.out) hb); have n3_ := Aside0.mk (blk_below (bl_ BK142.out) hb); have n4_ := Aside0.mk (below_step (be_ HB.out) hb); clear BK140 BK141 BK142 HB; have HO146 := n0_; have BK140 := n1_; have BK141 := n2_; have BK142 := n3_; have HB := n4_; clear n0_ n1_ n2_ n3_ n4_; (try clear hb); (try clear hb2); (try clear hk); (try clear hi); (try clear ho0)) | ((with_reducible refine gate_dst (N := 8) rfl ?_); (try (refine gate_guard (by rfl) ?_; dsimp only)); refine box_event ?hg (N := 8) ?hd (cs := #[.int .i64 0, .slice none 0 0, .int .i64 0]) (t := 28) ?hr ?_; (case hd => rfl); (case hg => rfl); (case hr => first | (go_simp; done) | (go_simp; rfl)); intro gb148 hg w13 hbox hb; have n0_ := Aside0.mk (Kd.R_below (ro_ HO146.out) hb); have n1_ := Aside0.mk (blk_below (bl_ BK140.out) hb); have n2_ := Aside0.mk (blk_below (bl_ BK141.out) hb); have n3_ := Aside0.mk (blk_below (bl_ BK142.out) hb); have n4_ := Aside0.mk (below_step (be_ HB.out) hb); have n5_ := Aside0.mk (hbox); have n6_ := Aside0.mk (gs_ hg (be_ HB.out)); have n7_ := Aside0.mk (gs_ hg (be_ HB.out)); have n8_ := Aside0.mk (nl_ hg (bl_ BK140.out)); have n9_ := Aside0.mk (ng_ hg (bl_ BK140.out)); have n10_ := Aside0.mk (nl_ hg (bl_ BK141.out)); have n11_ := Aside0.mk (ng_ hg (bl_ BK141.out)); have n12_ := Aside0.mk (nl_ hg (bl_ BK142.out)); have n13_ := Aside0.mk (ng_ hg (bl_ BK142.out)); clear HO146 BK140 BK141 BK142 HB; have HO146 := n0_; have BK140 := n1_; have BK141 := n2_; have BK142 := n3_; have HB := n4_; have BK148 := n5_; have GW148 := n6_; have GE148 := n7_; have NB140_148 := n8_; have NB148_140 := n9_; have NB141_148 := n10_; have NB148_141 := n11_; have NB142_148 := n12_; have NB148_142 := n13_; clear n0_ n1_ n2_ n3_ n4_ n5_ n6_ n7_ n8_ n9_ n10_ n11_ n12_ n13_; clear hb hbox hg; have hnb14 := NB148_140.out; have hnc14 := NB140_148.out; have hnb15 := NB148_141.out; have hnc15 := NB141_148.out; have hnb16 := NB148_142.out; have hnc16 := NB142_148.out; obtain ⟨hcz17_0, hcz17_1, hcz17_2, hfz17_0, hfz17_1, hfz17_2⟩ := cz3_ BK148.out; obtain ⟨Ao18, co18, eo18⟩ := Kd.R_slice HO146.out; subst eo18)); go_upto_region 2 with (first | ((with_reducible refine gate_dst (N := 3) rfl ?_); (try (refine gate_guard (by rfl) ?_; dsimp only)); refine box_event ?hg (N := 3) ?hd (cs := #[.int .i64 a0_0, .int .i64 a0_1, .int .i64 a0_2, .int .i64 a0_3, .int .i64 a0_4, .int .i64 a0_5, .int .i64 a0_6, .int .i64 a0_7, .int .i64 a0_8, .int .i64 a0_9, .int .i64 a0_10, .int .i64 a0_11, .int .i64 a0_12, .int .i64 a0_13]) (t := 31) ?hr ?_; (case hd => rfl); (case hg => rfl); (case hr => first | (go_simp; done) | (go_simp; rfl)); intro gb140 hg w6 hbox hb; have n0_ := Aside0.mk (below_step (be_ HB.out) hb); have n1_ := Aside0.mk (hbox); have n2_ := Aside0.mk (gs_ hg (be_ HB.out)); have n3_ := Aside0.mk (gs_ hg (be_ HB.out)); clear HB; have HB := n0_; have BK140 := n1_; have GW140 := n2_; have GE140 := n3_; clear n0_ n1_ n2_ n3_; clear hb hbox hg) | ((with_reducible refine gate_dst (N := 4) rfl ?_); (try (refine gate_guard (by rfl) ?_; dsimp only)); refine box_event ?hg (N := 4) ?hd (cs := #[.int .i64 a1_0, .slice A1_1 l1_1.length c1_1, .int .i64 a1_2]) (t := 28) ?hr ?_; (case hd => rfl); (case hg => rfl); (case hr => first | (go_simp; done) | (go_simp; rfl)); intro gb141 hg w7 hbox hb; have n0_ := Aside0.mk (blk_below (bl_ BK140.out) hb); have n1_ := Aside0.mk (below_step (be_ HB.out) hb); have n2_ := Aside0.mk (hbox); have n3_ := Aside0.mk (gs_ hg (be_ HB.out)); have n4_ := Aside0.mk (gs_ hg (be_ HB.out)); have n5_ := Aside0.mk (nl_ hg (bl_ BK140.out)); have n6_ := Aside0.mk (ng_ hg (bl_ BK140.out)); clear BK140 HB; have BK140 := n0_; have HB := n1_; have BK141 := n2_; have GW141 := n3_; have GE141 := n4_; have NB140_141 := n5_; have NB141_140 := n6_; clear n0_ n1_ n2_ n3_ n4_ n5_ n6_; clear hb hbox hg) | ((with_reducible refine gate_dst (N := 6) rfl ?_); (try (refine gate_guard (by rfl) ?_; dsimp only)); refine box_event ?hg (N := 6) ?hd (cs := #[.int .i64 0, .slice none 0 0, .int .i64 0]) (t := 28) ?hr ?_; (case hd => rfl); (case hg => rfl); (case hr => first | (go_simp; done) | (go_simp; rfl)); intro gb142 hg w8 hbox hb; have n0_ := Aside0.mk (blk_below (bl_ BK140.out) hb); have n1_ := Aside0.mk (blk_below (bl_ BK141.out) hb); have n2_ := Aside0.mk (below_step (be_ HB.out) hb); have n3_ := Aside0.mk (hbox); have n4_ := Aside0.mk (gs_ hg (be_ HB.out)); have n5_ := Aside0.mk (gs_ hg (be_ HB.out)); have n6_ := Aside0.mk (nl_ hg (bl_ BK140.out)); have n7_ := Aside0.mk (ng_ hg (bl_ BK140.out)); have n8_ := Aside0.mk (nl_ hg (bl_ BK141.out)); have n9_ := Aside0.mk (ng_ hg (bl_ BK141.out)); clear BK140 BK141 HB; have BK140 := n0_; have BK141 := n1_; have HB := n2_; have BK142 := n3_; have GW142 := n4_; have GE142 := n5_; have NB140_142 := n6_; have NB142_140 := n7_; have NB141_142 := n8_; have NB142_141 := n9_; clear n0_ n1_ n2_ n3_ n4_ n5_ n6_ n7_ n8_ n9_; clear hb hbox hg; have hnb9 := NB141_140.out; have hnc9 := NB140_141.out; have hnb10 := NB141_142.out; have hnc10 := NB142_141.out; obtain ⟨hcz11_0, hcz11_1, hcz11_2, hfz11_0, hfz11_1, hfz11_2⟩ := cz3_ BK141.out) | (go_at_call 13; (with_reducible refine (spec_l06Copy.calls k a1_0 _ _ l1_1 a1_2 t143 t144 t147 _ ?side1 ?side2 A4.out).mono ?_); (case side1 => repeat (first | exact (Kd.C_below HR1_1.out HB.out) | (with_reducible refine Kd.C_alloc ?_ _) | (with_reducible refine Kd.C_drewN ?_ _) | (with_reducible refine Kd.C_drew ?_))); (case side2 => exact HC1_1.out); rintro e w12 ⟨v145, rfl, ho0, hb⟩; have n0_ := Aside0.mk (Kd.R_lower ho0 (below_size (be_ HB.out))); have n1_ := Aside0.mk (blk_below (bl_ BK140.out) hb); have n2_ := Aside0.mk (blk_below (bl_ BK141.out) hb); have n3_ := Aside0.mk (blk_below (bl_ BK142.out) hb); have n4_ := Aside0.mk (below_step (be_ HB.out) hb); clear BK140 BK141 BK142 HB; have HO146 := n0_; have BK140 := n1_; have BK141 := n2_; have BK142 := n3_; have HB := n4_; clear n0_ n1_ n2_ n3_ n4_; (try clear hb); (try clear hb2); (try clear hk); (try clear hi); (try clear ho0)) | ((with_reducible refine gate_dst (N := 8) rfl ?_); (try (refine gate_guard (by rfl) ?_; dsimp only)); refine box_event ?hg (N := 8) ?hd (cs := #[.int .i64 0, .slice none 0 0, .int .i64 0]) (t := 28) ?hr ?_; (case hd => rfl); (case hg => rfl); (case hr => first | (go_simp; done) | (go_simp; rfl)); intro gb148 hg w13 hbox hb; have n0_ := Aside0.mk (Kd.R_below (ro_ HO146.out) hb); have n1_ := Aside0.mk (blk_below (bl_ BK140.out) hb); have n2_ := Aside0.mk (blk_below (bl_ BK141.out) hb); have n3_ := Aside0.mk (blk_below (bl_ BK142.out) hb); have n4_ := Aside0.mk (below_step (be_ HB.out) hb); have n5_ := Aside0.mk (hbox); have n6_ := Aside0.mk (gs_ hg (be_ HB.out)); have n7_ := Aside0.mk (gs_ hg (be_ HB.out)); have n8_ := Aside0.mk (nl_ hg (bl_ BK140.out)); have n9_ := Aside0.mk (ng_ hg (bl_ BK140.out)); have n10_ := Aside0.mk (nl_ hg (bl_ BK141.out)); have n11_ := Aside0.mk (ng_ hg (bl_ BK141.out)); have n12_ := Aside0.mk (nl_ hg (bl_ BK142.out)); have n13_ := Aside0.mk (ng_ hg (bl_ BK142.out)); clear HO146 BK140 BK141 BK142 HB; have HO146 := n0_; have BK140 := n1_; have BK141 := n2_; have BK142 := n3_; have HB := n4_; have BK148 := n5_; have GW148 := n6_; have GE148 := n7_; have NB140_148 := n8_; have NB148_140 := n9_; have NB141_148 := n10_; have NB148_141 := n11_; have NB142_148 := n12_; have NB148_142 := n13_; clear n0_ n1_ n2_ n3_ n4_ n5_ n6_ n7_ n8_ n9_ n10_ n11_ n12_ n13_; clear hb hbox hg; have hnb14 := NB148_140.out; have hnc14 := NB140_148.out; have hnb15 := NB148_141.out; have hnc15 := NB141_148.out; have hnb16 := NB148_142.out; have hnc16 := NB142_148.out; obtain ⟨hcz17_0, hcz17_1, hcz17_2, hfz17_0, hfz17_1, hfz17_2⟩ := cz3_ BK148.out; obtain ⟨Ao18, co18, eo18⟩ := Kd.R_slice HO146.out; subst eo18)))
 (try simp only [Act.put, List.setIfInBounds_toArray, List.set_cons_zero, List.set_cons_succ])
 go_cut [43] (fun zv43 wc => ∃ (kq : Nat) (x43_4 : Bool), zv43 = .bool x43_4 ∧ Aside0 (spec_OnFailure.j0 kq a2 x43_4 a0_0 a0_1 a0_2 a0_3 a0_4 a0_5 a0_6 a0_7 a0_8 a0_9 a0_10 a0_11 a0_12 a0_13 a1_0 l1_1 a1_2 t143 t144 t147 = some (r1, r2, r3, r4)) ∧ Aside0 (kq ≤ k) ∧ Aside0 (Kd.R (Kd.int .i64) 3 wc w.heap.size (fun _ => True) (.slice Ao18 t144.length co18) t144) ∧ Aside0 (wc.heap[gb140]? = some (.cells #[.int .i64 a0_0, .int .i64 a0_1, .int .i64 a0_2, .int .i64 a0_3, .int .i64 a0_4, .int .i64 a0_5, .int .i64 a0_6, .int .i64 a0_7, .int .i64 a0_8, .int .i64 a0_9, .int .i64 a0_10, .int .i64 a0_11, .int .i64 a0_12, .int .i64 a0_13] 31 (0, 0))) ∧ Aside0 (wc.heap[gb141]? = some (.cells #[.int .i64 a1_0, (.slice A1_1 l1_1.length c1_1), .int .i64 a1_2] 28 (0, 0))) ∧ Aside0 (wc.heap[gb142]? = some (.cells #[.int .i64 0, (.slice none 0 0), .int .i64 0] 28 (0, 0))) ∧ Aside0 (wc.heap[gb148]? = some (.cells #[.int .i64 t143, (.slice Ao18 t144.length co18), .int .i64 t147] 28 (0, 0))) ∧ Aside0 (Below w.heap.size w wc))
 case first =>
  have H := HC5.out
  clear HC5
  replace H := Option.bind_eq_some_iff.mp H
  obtain ⟨t149, A190, H⟩ := H
  replace H : (if t149 = true then ((spec_BreakerOk.f k a1_0 l1_1 a1_2).bind fun t150 => (if t150 = true then ((spec_TickOk.f a2).bind fun t151 => (if t151 = true then (if (l1_1.length : Int) > 0 then (if 0 ≤ (wrap64 ((l1_1.length : Int) - 1)) then (if (wrap64 ((l1_1.length : Int) - 1)) < (l1_1.length : Int) then (spec_OnFailure.j0 k a2 (decide (a2 < (rd l1_1 (wrap64 ((l1_1.length : Int) - 1))))) a0_0 a0_1 a0_2 a0_3 a0_4 a0_5 a0_6 a0_7 a0_8 a0_9 a0_10 a0_11 a0_12 a0_13 a1_0 l1_1 a1_2 t143 t144 t147) else (none)) else (none)) else (spec_OnFailure.j0 k a2 false a0_0 a0_1 a0_2 a0_3 a0_4 a0_5 a0_6 a0_7 a0_8 a0_9 a0_10 a0_11 a0_12 a0_13 a1_0 l1_1 a1_2 t143 t144 t147)) else (spec_OnFailure.j0 k a2 true a0_0 a0_1 a0_2 a0_3 a0_4 a0_5 a0_6 a0_7 a0_8 a0_9 a0_10 a0_11 a0_12 a0_13 a1_0 l1_1 a1_2 t143 t144 t147))) else (spec_OnFailure.j0 k a2 true a0_0 a0_1 a0_2 a0_3 a0_4 a0_5 a0_6 a0_7 a0_8 a0_9 a0_10 a0_11 a0_12 a0_13 a1_0 l1_1 a1_2 t143 t144 t147))) else (spec_OnFailure.j0 k a2 true a0_0 a0_1 a0_2 a0_3 a0_4 a0_5 a0_6 a0_7 a0_8 a0_9 a0_10 a0_11 a0_12 a0_13 a1_0 l1_1 a1_2 t143 t144 t147)) = some (r1, r2, r3, r4) := H
  have A19 := Aside0.mk A190
  clear A190
  by_cases c20 : t149 = true
  ·
   subst c20
   have H1 : ((spec_BreakerOk.f k a1_0 l1_1 a1_2).bind fun t150 => (if t150 = true then ((spec_TickOk.f a2).bind fun t151 => (if t151 = true then (if (l1_1.length : Int) > 0 then (if 0 ≤ (wrap64 ((l1_1.length : Int) - 1)) then (if (wrap64 ((l1_1.length : Int) - 1)) < (l1_1.length : Int) then (spec_OnFailure.j0 k a2 (decide (a2 < (rd l1_1 (wrap64 ((l1_1.length : Int) - 1))))) a0_0 a0_1 a0_2 a0_3 a0_4 a0_5 a0_6 a0_7 a0_8 a0_9 a0_10 a0_11 a0_12 a0_13 a1_0 l1_1 a1_2 t143 t144 t147) else (none)) else (none)) else (spec_OnFailure.j0 k a2 false a0_0 a0_1 a0_2 a0_3 a0_4 a0_5 a0_6 a0_7 a0_8 a0_9 a0_10 a0_11 a0_12 a0_13 a1_0 l1_1 a1_2 t143 t144 t147)) else (spec_OnFailure.j0 k a2 true a0_0 a0_1 a0_2 a0_3 a0_4 a0_5 a0_6 a0_7 a0_8 a0_9 a0_10 a0_11 a0_12 a0_13 a1_0 l1_1 a1_2 t143 t144 t147))) else (spec_OnFailure.j0 k a2 true a0_0 a0_1 a0_2 a0_3 a0_4 a0_5 a0_6 a0_7 a0_8 a0_9 a0_10 a0_11 a0_12 a0_13 a1_0 l1_1 a1_2 t143 t144 t147))) = some (r1, r2, r3, r4) := by rw [if_pos rfl] at H; exact H
   clear H
   have H := H1
   clear H1
   replace H := Option.bind_eq_some_iff.mp H
   obtain ⟨t150, A210, H⟩ := H
   replace H : (if t150 = true then ((spec_TickOk.f a2).bind fun t151 => (if t151 = true then (if (l1_1.length : Int) > 0 then (if 0 ≤ (wrap64 ((l1_1.length : Int) - 1)) then (if (wrap64 ((l1_1.length : Int) - 1)) < (l1_1.length : Int) then (spec_OnFailure.j0 k a2 (decide (a2 < (rd l1_1 (wrap64 ((l1_1.length : Int) - 1))))) a0_0 a0_1 a0_2 a0_3 a0_4 a0_5 a0_6 a0_7 a0_8 a0_9 a0_10 a0_11 a0_12 a0_13 a1_0 l1_1 a1_2 t143 t144 t147) else (none)) else (none)) else (spec_OnFailure.j0 k a2 false a0_0 a0_1 a0_2 a0_3 a0_4 a0_5 a0_6 a0_7 a0_8 a0_9 a0_10 a0_11 a0_12 a0_13 a1_0 l1_1 a1_2 t143 t144 t147)) else (spec_OnFailure.j0 k a2 true a0_0 a0_1 a0_2 a0_3 a0_4 a0_5 a0_6 a0_7 a0_8 a0_9 a0_10 a0_11 a0_12 a0_13 a1_0 l1_1 a1_2 t143 t144 t147))) else (spec_OnFailure.j0 k a2 true a0_0 a0_1 a0_2 a0_3 a0_4 a0_5 a0_6 a0_7 a0_8 a0_9 a0_10 a0_11 a0_12 a0_13 a1_0 l1_1 a1_2 t143 t144 t147)) = some (r1, r2, r3, r4) := H
   have A21 := Aside0.mk A210
   clear A210
   by_cases c22 : t150 = true
   ·
    subst c22
    have H1 : ((spec_TickOk.f a2).bind fun t151 => (if t151 = true then (if (l1_1.length : Int) > 0 then (if 0 ≤ (wrap64 ((l1_1.length : Int) - 1)) then (if (wrap64 ((l1_1.length : Int) - 1)) < (l1_1.length : Int) then (spec_OnFailure.j0 k a2 (decide (a2 < (rd l1_1 (wrap64 ((l1_1.length : Int) - 1))))) a0_0 a0_1 a0_2 a0_3 a0_4 a0_5 a0_6 a0_7 a0_8 a0_9 a0_10 a0_11 a0_12 a0_13 a1_0 l1_1 a1_2 t143 t144 t147) else (none)) else (none)) else (spec_OnFailure.j0 k a2 false a0_0 a0_1 a0_2 a0_3 a0_4 a0_5 a0_6 a0_7 a0_8 a0_9 a0_10 a0_11 a0_12 a0_13 a1_0 l1_1 a1_2 t143 t144 t147)) else (spec_OnFailure.j0 k a2 true a0_0 a0_1 a0_2 a0_3 a0_4 a0_5 a0_6 a0_7 a0_8 a0_9 a0_10 a0_11 a0_12 a0_13 a1_0 l1_1 a1_2 t143 t144 t147))) = some (r1, r2, r3, r4) := by rw [if_pos rfl] at H; exact H
    clear H
    have H := H1
    clear H1
    replace H := Option.bind_eq_some_iff.mp H
    obtain ⟨t151, A230, H⟩ := H
    replace H : (if t151 = true then (if (l1_1.length : Int) > 0 then (if 0 ≤ (wrap64 ((l1_1.length : Int) - 1)) then (if (wrap64 ((l1_1.length : Int) - 1)) < (l1_1.length : Int) then (spec_OnFailure.j0 k a2 (decide (a2 < (rd l1_1 (wrap64 ((l1_1.length : Int) - 1))))) a0_0 a0_1 a0_2 a0_3 a0_4 a0_5 a0_6 a0_7 a0_8 a0_9 a0_10 a0_11 a0_12 a0_13 a1_0 l1_1 a1_2 t143 t144 t147) else (none)) else (none)) else (spec_OnFailure.j0 k a2 false a0_0 a0_1 a0_2 a0_3 a0_4 a0_5 a0_6 a0_7 a0_8 a0_9 a0_10 a0_11 a0_12 a0_13 a1_0 l1_1 a1_2 t143 t144 t147)) else (spec_OnFailure.j0 k a2 true a0_0 a0_1 a0_2 a0_3 a0_4 a0_5 a0_6 a0_7 a0_8 a0_9 a0_10 a0_11 a0_12 a0_13 a1_0 l1_1 a1_2 t143 t144 t147)) = some (r1, r2, r3, r4) := H
    have A23 := Aside0.mk A230
    clear A230
    by_cases c24 : t151 = true
    ·
     subst c24
     have H1 : (if (l1_1.length : Int) > 0 then (if 0 ≤ (wrap64 ((l1_1.length : Int) - 1)) then (if (wrap64 ((l1_1.length : Int) - 1)) < (l1_1.length : Int) then (spec_OnFailure.j0 k a2 (decide (a2 < (rd l1_1 (wrap64 ((l1_1.length : Int) - 1))))) a0_0 a0_1 a0_2 a0_3 a0_4 a0_5 a0_6 a0_7 a0_8 a0_9 a0_10 a0_11 a0_12 a0_13 a1_0 l1_1 a1_2 t143 t144 t147) else (none)) else (none)) else (spec_OnFailure.j0 k a2 false a0_0 a0_1 a0_2 a0_3 a0_4 a0_5 a0_6 a0_7 a0_8 a0_9 a0_10 a0_11 a0_12 a0_13 a1_0 l1_1 a1_2 t143 t144 t147)) = some (r1, r2, r3, r4) := by rw [if_pos rfl] at H; exact H
     clear H
     have H := H1
     clear H1
     by_cases c25 : (l1_1.length : Int) > 0
     ·
      rw [if_pos c25] at H
      have c25b0 : decide (0 < (l1_1.length : Int)) = true := decide_eq_true c25
      have c25b1 : decide (0 < l1_1.length) = true := decide_eq_true (by omega)
      clear c25
      (first | rw [c25b0] | (simp only [i64_w, i32_w]; rw [c25b0]) | skip)
      obtain ⟨ji26, hji26⟩ : ∃ j_ : Int, (wrap64 ((l1_1.length : Int) - 1)) = j_ := ⟨_, rfl⟩
      replace H : (if 0 ≤ (ji26) then (if (ji26) < (l1_1.length : Int) then (spec_OnFailure.j0 k a2 (decide (a2 < (rd l1_1 (ji26)))) a0_0 a0_1 a0_2 a0_3 a0_4 a0_5 a0_6 a0_7 a0_8 a0_9 a0_10 a0_11 a0_12 a0_13 a1_0 l1_1 a1_2 t143 t144 t147) else (none)) else (none)) = some (r1, r2, r3, r4) := by first | (rw [hji26] at H; exact H) | (simp only [hji26] at H ⊢; exact H)
      (try rw [hji26] at A19)
      (try rw [hji26] at A21)
      (try rw [hji26] at A23)
      have hji26w : (IntKind.i64.wrap ((l1_1.length : Int) - 1)) = ji26 := (i64_w _).trans hji26
      by_cases c27 : 0 ≤ (ji26)
      ·
       rw [if_pos c27] at H
       have c27b0 : decide (0 ≤ (ji26)) = true := decide_eq_true c27
       clear c27
       by_cases c28 : (ji26) < (l1_1.length : Int)
       ·
        rw [if_pos c28] at H
        have c28b0 : decide ((ji26) < (l1_1.length : Int)) = true := decide_eq_true c28
        clear c28
        have H' := Aside0.mk H
        clear H
        have hnb29 := NB140_141.out
        have hnc29 := NB141_140.out
        have hnb30 := NB140_142.out
        have hnc30 := NB142_140.out
        have hnb31 := NB140_148.out
        have hnc31 := NB148_140.out
        obtain ⟨hcz32_0, hcz32_1, hcz32_2, hcz32_3, hcz32_4, hcz32_5, hcz32_6, hcz32_7, hcz32_8, hcz32_9, hcz32_10, hcz32_11, hcz32_12, hcz32_13, hfz32_0, hfz32_1, hfz32_2, hfz32_3, hfz32_4, hfz32_5, hfz32_6, hfz32_7, hfz32_8, hfz32_9, hfz32_10, hfz32_11, hfz32_12, hfz32_13⟩ := cz14_ BK140.out
        go_wp2_with (first | (go_at_call 14; (with_reducible refine (spec_ConfigOk.calls k a0_0 a0_1 a0_2 a0_3 a0_4 a0_5 a0_6 a0_7 a0_8 a0_9 a0_10 a0_11 a0_12 a0_13 true _ A19.out).mono ?_); rintro e w33 ⟨rfl, hb⟩; have n0_ := Aside0.mk (Kd.R_below (by (with_reducible repeat (first | apply Kd.R_alloc | apply Kd.R_drewN | apply Kd.R_drew)); exact (Kd.R_mono (Kd.R_far (p := ⟨gb148, 2, none⟩) (Kd.R_far (p := ⟨gb148, 1, none⟩) (Kd.R_far (p := ⟨gb148, 0, none⟩) (Kd.R_types HO146.out BK148.out (by decide)) (fun _ hk => hk.2) (.int .i64 t143)) (fun _ hk => hk.2) (.slice Ao18 t144.length co18)) (fun _ hk => hk.2) (.int .i64 t147)) (fun _ h_ => h_.1))) hb); have n1_ := Aside0.mk (blk_below (g := gb140) (o := .cells #[.int .i64 a0_0, .int .i64 a0_1, .int .i64 a0_2, .int .i64 a0_3, .int .i64 a0_4, .int .i64 a0_5, .int .i64 a0_6, .int .i64 a0_7, .int .i64 a0_8, .int .i64 a0_9, .int .i64 a0_10, .int .i64 a0_11, .int .i64 a0_12, .int .i64 a0_13] 31 (0, 0)) (by refine bl_ ?_; refine blk_far ?_ NB140_148.out _; refine bl_ ?_; refine blk_far ?_ NB140_148.out _; refine bl_ ?_; refine blk_far ?_ NB140_148.out _; refine bl_ ?_; exact BK140.out) hb); have n2_ := Aside0.mk (blk_below (g := gb141) (o := .cells #[.int .i64 a1_0, .slice A1_1 l1_1.length c1_1, .int .i64 a1_2] 28 (0, 0)) (by refine bl_ ?_; refine blk_far ?_ NB141_148.out _; refine bl_ ?_; refine blk_far ?_ NB141_148.out _; refine bl_ ?_; refine blk_far ?_ NB141_148.out _; refine bl_ ?_; exact BK141.out) hb); have n3_ := Aside0.mk (blk_below (g := gb142) (o := .cells #[.int .i64 0, .slice none 0 0, .int .i64 0] 28 (0, 0)) (by refine bl_ ?_; refine blk_far ?_ NB142_148.out _; refine bl_ ?_; refine blk_far ?_ NB142_148.out _; refine bl_ ?_; refine blk_far ?_ NB142_148.out _; refine bl_ ?_; exact BK142.out) hb); have n4_ := Aside0.mk (blk_below (g := gb148) (o := .cells #[.int .i64 t143, .slice Ao18 t144.length co18, .int .i64 t147] 28 (0, 0)) (by refine bl_ ?_; refine blk_put (cs := #[.int .i64 t143, .slice Ao18 t144.length co18, .int .i64 0]) ?_ 2 _ rfl; refine bl_ ?_; refine blk_put (cs := #[.int .i64 t143, .slice none 0 0, .int .i64 0]) ?_ 1 _ rfl; refine bl_ ?_; refine blk_put (cs := #[.int .i64 0, .slice none 0 0, .int .i64 0]) ?_ 0 _ rfl; refine bl_ ?_; exact BK148.out) hb); have n5_ := Aside0.mk (below_step (be_ HB.out) hb); clear HO146 BK140 BK141 BK142 BK148 HB; have HO146 := n0_; have BK140 := n1_; have BK141 := n2_; have BK142 := n3_; have BK148 := n4_; have HB := n5_; clear n0_ n1_ n2_ n3_ n4_ n5_; (try clear hb); (try clear hb2); (try clear hk); (try clear hi); have hnb34 := NB141_142.out; have hnc34 := NB142_141.out; have hnb35 := NB141_148.out; have hnc35 := NB148_141.out; obtain ⟨hcz36_0, hcz36_1, hcz36_2, hfz36_0, hfz36_1, hfz36_2⟩ := cz3_ BK141.out) | (go_at_call 15; (with_reducible refine (spec_BreakerOk.calls k a1_0 _ _ l1_1 a1_2 true _ ?side1 ?side2 A21.out).mono ?_); (case side1 => repeat (first | exact (Kd.C_below HR1_1.out HB.out) | (with_reducible refine Kd.C_alloc ?_ _) | (with_reducible refine Kd.C_drewN ?_ _) | (with_reducible refine Kd.C_drew ?_))); (case side2 => exact HC1_1.out); rintro e w37 ⟨rfl, hb⟩; have n0_ := Aside0.mk (Kd.R_below (ro_ HO146.out) hb); have n1_ := Aside0.mk (blk_below (bl_ BK140.out) hb); have n2_ := Aside0.mk (blk_below (bl_ BK141.out) hb); have n3_ := Aside0.mk (blk_below (bl_ BK142.out) hb); have n4_ := Aside0.mk (blk_below (bl_ BK148.out) hb); have n5_ := Aside0.mk (below_step (be_ HB.out) hb); clear HO146 BK140 BK141 BK142 BK148 HB; have HO146 := n0_; have BK140 := n1_; have BK141 := n2_; have BK142 := n3_; have BK148 := n4_; have HB := n5_; clear n0_ n1_ n2_ n3_ n4_ n5_; (try clear hb); (try clear hb2); (try clear hk); (try clear hi)) | (go_at_call 16; (with_reducible refine (spec_TickOk.calls a2 true _ A23.out).mono ?_); rintro e w' ⟨rfl, ⟨nd, rfl⟩⟩; (try first | exact ⟨rfl, _, World.drewN_drewN _ _ _⟩ | exact ⟨rfl, _, Eq.trans (World.drewN_drewN _ _ _) (congrArg (World.drewN _) (Nat.add_assoc _ _ _))⟩); obtain ⟨hcz38_0, hcz38_1, hcz38_2, hfz38_0, hfz38_1, hfz38_2⟩ := cz3_ BK141.out; have p152 : 0 ≤ ((ji26) : Int) := of_decide_eq_true (by first | (with_reducible assumption) | assumption); have q152 : (ji26) < (l1_1.length : Int) := of_decide_eq_true (by first | (with_reducible assumption) | assumption); obtain ⟨ad152, e152, hx152_0⟩ := Kd.at_int HR1_1.out (ji26) p152 q152; cases e152; replace hx152_0 := (HB.out.cell (World.block_lt_of_cell? w _ hx152_0)).trans hx152_0; replace p152 := eq_true p152; replace q152 := eq_true q152))
        repeat (go_quiet (first | (go_at_call 14; (with_reducible refine (spec_ConfigOk.calls k a0_0 a0_1 a0_2 a0_3 a0_4 a0_5 a0_6 a0_7 a0_8 a0_9 a0_10 a0_11 a0_12 a0_13 true _ A19.out).mono ?_); rintro e w33 ⟨rfl, hb⟩; have n0_ := Aside0.mk (Kd.R_below (by (with_reducible repeat (first | apply Kd.R_alloc | apply Kd.R_drewN | apply Kd.R_drew)); exact (Kd.R_mono (Kd.R_far (p := ⟨gb148, 2, none⟩) (Kd.R_far (p := ⟨gb148, 1, none⟩) (Kd.R_far (p := ⟨gb148, 0, none⟩) (Kd.R_types HO146.out BK148.out (by decide)) (fun _ hk => hk.2) (.int .i64 t143)) (fun _ hk => hk.2) (.slice Ao18 t144.length co18)) (fun _ hk => hk.2) (.int .i64 t147)) (fun _ h_ => h_.1))) hb); have n1_ := Aside0.mk (blk_below (g := gb140) (o := .cells #[.int .i64 a0_0, .int .i64 a0_1, .int .i64 a0_2, .int .i64 a0_3, .int .i64 a0_4, .int .i64 a0_5, .int .i64 a0_6, .int .i64 a0_7, .int .i64 a0_8, .int .i64 a0_9, .int .i64 a0_10, .int .i64 a0_11, .int .i64 a0_12, .int .i64 a0_13] 31 (0, 0)) (by refine bl_ ?_; refine blk_far ?_ NB140_148.out _; refine bl_ ?_; refine blk_far ?_ NB140_148.out _; refine bl_ ?_; refine blk_far ?_ NB140_148.out _; refine bl_ ?_; exact BK140.out) hb); have n2_ := Aside0.mk (blk_below (g := gb141) (o := .cells #[.int .i64 a1_0, .slice A1_1 l1_1.length c1_1, .int .i64 a1_2] 28 (0, 0)) (by refine bl_ ?_; refine blk_far ?_ NB141_148.out _; refine bl_ ?_; refine blk_far ?_ NB141_148.out _; refine bl_ ?_; refine blk_far ?_ NB141_148.out _; refine bl_ ?_; exact BK141.out) hb); have n3_ := Aside0.mk (blk_below (g := gb142) (o := .cells #[.int .i64 0, .slice none 0 0, .int .i64 0] 28 (0, 0)) (by refine bl_ ?_; refine blk_far ?_ NB142_148.out _; refine bl_ ?_; refine blk_far ?_ NB142_148.out _; refine bl_ ?_; refine blk_far ?_ NB142_148.out _; refine bl_ ?_; exact BK142.out) hb); have n4_ := Aside0.mk (blk_below (g := gb148) (o := .cells #[.int .i64 t143, .slice Ao18 t144.length co18, .int .i64 t147] 28 (0, 0)) (by refine bl_ ?_; refine blk_put (cs := #[.int .i64 t143, .slice Ao18 t144.length co18, .int .i64 0]) ?_ 2 _ rfl; refine bl_ ?_; refine blk_put (cs := #[.int .i64 t143, .slice none 0 0, .int .i64 0]) ?_ 1 _ rfl; refine bl_ ?_; refine blk_put (cs := #[.int .i64 0, .slice none 0 0, .int .i64 0]) ?_ 0 _ rfl; refine bl_ ?_; exact BK148.out) hb); have n5_ := Aside0.mk (below_step (be_ HB.out) hb); clear HO146 BK140 BK141 BK142 BK148 HB; have HO146 := n0_; have BK140 := n1_; have BK141 := n2_; have BK142 := n3_; have BK148 := n4_; have HB := n5_; clear n0_ n1_ n2_ n3_ n4_ n5_; (try clear hb); (try clear hb2); (try clear hk); (try clear hi); have hnb34 := NB141_142.out; have hnc34 := NB142_141.out; have hnb35 := NB141_148.out; have hnc35 := NB148_141.out; obtain ⟨hcz36_0, hcz36_1, hcz36_2, hfz36_0, hfz36_1, hfz36_2⟩ := cz3_ BK141.out) | (go_at_call 15; (with_reducible refine (spec_BreakerOk.calls k a1_0 _ _ l1_1 a1_2 true _ ?side1 ?side2 A21.out).mono ?_); (case side1 => repeat (first | exact (Kd.C_below HR1_1.out HB.out) | (with_reducible refine Kd.C_alloc ?_ _) | (with_reducible refine Kd.C_drewN ?_ _) | (with_reducible refine Kd.C_drew ?_))); (case side2 => exact HC1_1.out); rintro e w37 ⟨rfl, hb⟩; have n0_ := Aside0.mk (Kd.R_below (ro_ HO146.out) hb); have n1_ := Aside0.mk (blk_below (bl_ BK140.out) hb); have n2_ := Aside0.mk (blk_below (bl_ BK141.out) hb); have n3_ := Aside0.mk (blk_below (bl_ BK142.out) hb); have n4_ := Aside0.mk (blk_below (bl_ BK148.out) hb); have n5_ := Aside0.mk (below_step (be_ HB.out) hb); clear HO146 BK140 BK141 BK142 BK148 HB; have HO146 := n0_; have BK140 := n1_; have BK141 := n2_; have BK142 := n3_; have BK148 := n4_; have HB := n5_; clear n0_ n1_ n2_ n3_ n4_ n5_; (try clear hb); (try clear hb2); (try clear hk); (try clear hi)) | (go_at_call 16; (with_reducible refine (spec_TickOk.calls a2 true _ A23.out).mono ?_); rintro e w' ⟨rfl, ⟨nd, rfl⟩⟩; (try first | exact ⟨rfl, _, World.drewN_drewN _ _ _⟩ | exact ⟨rfl, _, Eq.trans (World.drewN_drewN _ _ _) (congrArg (World.drewN _) (Nat.add_assoc _ _ _))⟩); obtain ⟨hcz38_0, hcz38_1, hcz38_2, hfz38_0, hfz38_1, hfz38_2⟩ := cz3_ BK141.out; have p152 : 0 ≤ ((ji26) : Int) := of_decide_eq_true (by first | (with_reducible assumption) | assumption); have q152 : (ji26) < (l1_1.length : Int) := of_decide_eq_true (by first | (with_reducible assumption) | assumption); obtain ⟨ad152, e152, hx152_0⟩ := Kd.at_int HR1_1.out (ji26) p152 q152; cases e152; replace hx152_0 := (HB.out.cell (World.block_lt_of_cell? w _ hx152_0)).trans hx152_0; replace p152 := eq_true p152; replace q152 := eq_true q152)); try go_wp2_with (first | (go_at_call 14; (with_reducible refine (spec_ConfigOk.calls k a0_0 a0_1 a0_2 a0_3 a0_4 a0_5 a0_6 a0_7 a0_8 a0_9 a0_10 a0_11 a0_12 a0_13 true _ A19.out).mono ?_); rintro e w33 ⟨rfl, hb⟩; have n0_ := Aside0.mk (Kd.R_below (by (with_reducible repeat (first | apply Kd.R_alloc | apply Kd.R_drewN | apply Kd.R_drew)); exact (Kd.R_mono (Kd.R_far (p := ⟨gb148, 2, none⟩) (Kd.R_far (p := ⟨gb148, 1, none⟩) (Kd.R_far (p := ⟨gb148, 0, none⟩) (Kd.R_types HO146.out BK148.out (by decide)) (fun _ hk => hk.2) (.int .i64 t143)) (fun _ hk => hk.2) (.slice Ao18 t144.length co18)) (fun _ hk => hk.2) (.int .i64 t147)) (fun _ h_ => h_.1))) hb); have n1_ := Aside0.mk (blk_below (g := gb140) (o := .cells #[.int .i64 a0_0, .int .i64 a0_1, .int .i64 a0_2, .int .i64 a0_3, .int .i64 a0_4, .int .i64 a0_5, .int .i64 a0_6, .int .i64 a0_7, .int .i64 a0_8, .int .i64 a0_9, .int .i64 a0_10, .int .i64 a0_11, .int .i64 a0_12, .int .i64 a0_13] 31 (0, 0)) (by refine bl_ ?_; refine blk_far ?_ NB140_148.out _; refine bl_ ?_; refine blk_far ?_ NB140_148.out _; refine bl_ ?_; refine blk_far ?_ NB140_148.out _; refine bl_ ?_; exact BK140.out) hb); have n2_ := Aside0.mk (blk_below (g := gb141) (o := .cells #[.int .i64 a1_0, .slice A1_1 l1_1.length c1_1, .int .i64 a1_2] 28 (0, 0)) (by refine bl_ ?_; refine blk_far ?_ NB141_148.out _; refine bl_ ?_; refine blk_far ?_ NB141_148.out _; refine bl_ ?_; refine blk_far ?_ NB141_148.out _; refine bl_ ?_; exact BK141.out) hb); have n3_ := Aside0.mk (blk_below (g := gb142) (o := .cells #[.int .i64 0, .slice none 0 0, .int .i64 0] 28 (0, 0)) (by refine bl_ ?_; refine blk_far ?_ NB142_148.out _; refine bl_ ?_; refine blk_far ?_ NB142_148.out _; refine bl_ ?_; refine blk_far ?_ NB142_148.out _; refine bl_ ?_; exact BK142.out) hb); have n4_ := Aside0.mk (blk_below (g := gb148) (o := .cells #[.int .i64 t143, .slice Ao18 t144.length co18, .int .i64 t147] 28 (0, 0)) (by refine bl_ ?_; refine blk_put (cs := #[.int .i64 t143, .slice Ao18 t144.length co18, .int .i64 0]) ?_ 2 _ rfl; refine bl_ ?_; refine blk_put (cs := #[.int .i64 t143, .slice none 0 0, .int .i64 0]) ?_ 1 _ rfl; refine bl_ ?_; refine blk_put (cs := #[.int .i64 0, .slice none 0 0, .int .i64 0]) ?_ 0 _ rfl; refine bl_ ?_; exact BK148.out) hb); have n5_ := Aside0.mk (below_step (be_ HB.out) hb); clear HO146 BK140 BK141 BK142 BK148 HB; have HO146 := n0_; have BK140 := n1_; have BK141 := n2_; have BK142 := n3_; have BK148 := n4_; have HB := n5_; clear n0_ n1_ n2_ n3_ n4_ n5_; (try clear hb); (try clear hb2); (try clear hk); (try clear hi); have hnb34 := NB141_142.out; have hnc34 := NB142_141.out; have hnb35 := NB141_148.out; have hnc35 := NB148_141.out; obtain ⟨hcz36_0, hcz36_1, hcz36_2, hfz36_0, hfz36_1, hfz36_2⟩ := cz3_ BK141.out) | (go_at_call 15; (with_reducible refine (spec_BreakerOk.calls k a1_0 _ _ l1_1 a1_2 true _ ?side1 ?side2 A21.out).mono ?_); (case side1 => repeat (first | exact (Kd.C_below HR1_1.out HB.out) | (with_reducible refine Kd.C_alloc ?_ _) | (with_reducible refine Kd.C_drewN ?_ _) | (with_reducible refine Kd.C_drew ?_))); (case side2 => exact HC1_1.out); rintro e w37 ⟨rfl, hb⟩; have n0_ := Aside0.mk (Kd.R_below (ro_ HO146.out) hb); have n1_ := Aside0.mk (blk_below (bl_ BK140.out) hb); have n2_ := Aside0.mk (blk_below (bl_ BK141.out) hb); have n3_ := Aside0.mk (blk_below (bl_ BK142.out) hb); have n4_ := Aside0.mk (blk_below (bl_ BK148.out) hb); have n5_ := Aside0.mk (below_step (be_ HB.out) hb); clear HO146 BK140 BK141 BK142 BK148 HB; have HO146 := n0_; have BK140 := n1_; have BK141 := n2_; have BK142 := n3_; have BK148 := n4_; have HB := n5_; clear n0_ n1_ n2_ n3_ n4_ n5_; (try clear hb); (try clear hb2); (try clear hk); (try clear hi)) | (go_at_call 16; (with_reducible refine (spec_TickOk.calls a2 true _ A23.out).mono ?_); rintro e w' ⟨rfl, ⟨nd, rfl⟩⟩; (try first | exact ⟨rfl, _, World.drewN_drewN _ _ _⟩ | exact ⟨rfl, _, Eq.trans (World.drewN_drewN _ _ _) (congrArg (World.drewN _) (Nat.add_assoc _ _ _))⟩); obtain ⟨hcz38_0, hcz38_1, hcz38_2, hfz38_0, hfz38_1, hfz38_2⟩ := cz3_ BK141.out; have p152 : 0 ≤ ((ji26) : Int) := of_decide_eq_true (by first | (with_reducible assumption) | assumption); have q152 : (ji26) < (l1_1.length : Int) := of_decide_eq_true (by first | (with_reducible assumption) | assumption); obtain ⟨ad152, e152, hx152_0⟩ := Kd.at_int HR1_1.out (ji26) p152 q152; cases e152; replace hx152_0 := (HB.out.cell (World.block_lt_of_cell? w _ hx152_0)).trans hx152_0; replace p152 := eq_true p152; replace q152 := eq_true q152)))
        go_meet
        case rel => exact ⟨_, (decide (a2 < (rd l1_1 (ji26)))), (by first | rfl | (simp; done) | (simp only [← hji26] <;> (first | rfl | simp)) | (simp [*]; done)), H', ⟨by first | omega | exact Nat.le_refl _⟩, ⟨by (with_reducible repeat (first | apply Kd.R_alloc | apply Kd.R_drewN | apply Kd.R_drew)); exact HO146.out⟩, ⟨by refine bl_ ?_; exact BK140.out⟩, ⟨by refine bl_ ?_; exact BK141.out⟩, ⟨by refine bl_ ?_; exact BK142.out⟩, ⟨by refine bl_ ?_; exact BK148.out⟩, ⟨be_ HB.out⟩⟩
       rw [if_neg c28] at H
       exact absurd H (by simp)
      rw [if_neg c27] at H
      exact absurd H (by simp)
     rw [if_neg c25] at H
     have c25b0 : decide (0 < (l1_1.length : Int)) = false := decide_eq_false c25
     have c25b1 : decide (0 < l1_1.length) = false := decide_eq_false (by omega)
     clear c25
     (first | rw [c25b0] | (simp only [i64_w, i32_w]; rw [c25b0]) | skip)
     have H' := Aside0.mk H
     clear H
     have hnb39 := NB140_141.out
     have hnc39 := NB141_140.out
     have hnb40 := NB140_142.out
     have hnc40 := NB142_140.out
     have hnb41 := NB140_148.out
     have hnc41 := NB148_140.out
     obtain ⟨hcz42_0, hcz42_1, hcz42_2, hcz42_3, hcz42_4, hcz42_5, hcz42_6, hcz42_7, hcz42_8, hcz42_9, hcz42_10, hcz42_11, hcz42_12, hcz42_13, hfz42_0, hfz42_1, hfz42_2, hfz42_3, hfz42_4, hfz42_5, hfz42_6, hfz42_7, hfz42_8, hfz42_9, hfz42_10, hfz42_11, hfz42_12, hfz42_13⟩ := cz14_ BK140.out
     go_wp2_with (first | (go_at_call 14; (with_reducible refine (spec_ConfigOk.calls k a0_0 a0_1 a0_2 a0_3 a0_4 a0_5 a0_6 a0_7 a0_8 a0_9 a0_10 a0_11 a0_12 a0_13 true _ A19.out).mono ?_); rintro e w43 ⟨rfl, hb⟩; have n0_ := Aside0.mk (Kd.R_below (by (with_reducible repeat (first | apply Kd.R_alloc | apply Kd.R_drewN | apply Kd.R_drew)); exact (Kd.R_mono (Kd.R_far (p := ⟨gb148, 2, none⟩) (Kd.R_far (p := ⟨gb148, 1, none⟩) (Kd.R_far (p := ⟨gb148, 0, none⟩) (Kd.R_types HO146.out BK148.out (by decide)) (fun _ hk => hk.2) (.int .i64 t143)) (fun _ hk => hk.2) (.slice Ao18 t144.length co18)) (fun _ hk => hk.2) (.int .i64 t147)) (fun _ h_ => h_.1))) hb); have n1_ := Aside0.mk (blk_below (g := gb140) (o := .cells #[.int .i64 a0_0, .int .i64 a0_1, .int .i64 a0_2, .int .i64 a0_3, .int .i64 a0_4, .int .i64 a0_5, .int .i64 a0_6, .int .i64 a0_7, .int .i64 a0_8, .int .i64 a0_9, .int .i64 a0_10, .int .i64 a0_11, .int .i64 a0_12, .int .i64 a0_13] 31 (0, 0)) (by refine bl_ ?_; refine blk_far ?_ NB140_148.out _; refine bl_ ?_; refine blk_far ?_ NB140_148.out _; refine bl_ ?_; refine blk_far ?_ NB140_148.out _; refine bl_ ?_; exact BK140.out) hb); have n2_ := Aside0.mk (blk_below (g := gb141) (o := .cells #[.int .i64 a1_0, .slice A1_1 l1_1.length c1_1, .int .i64 a1_2] 28 (0, 0)) (by refine bl_ ?_; refine blk_far ?_ NB141_148.out _; refine bl_ ?_; refine blk_far ?_ NB141_148.out _; refine bl_ ?_; refine blk_far ?_ NB141_148.out _; refine bl_ ?_; exact BK141.out) hb); have n3_ := Aside0.mk (blk_below (g := gb142) (o := .cells #[.int .i64 0, .slice none 0 0, .int .i64 0] 28 (0, 0)) (by refine bl_ ?_; refine blk_far ?_ NB142_148.out _; refine bl_ ?_; refine blk_far ?_ NB142_148.out _; refine bl_ ?_; refine blk_far ?_ NB142_148.out _; refine bl_ ?_; exact BK142.out) hb); have n4_ := Aside0.mk (blk_below (g := gb148) (o := .cells #[.int .i64 t143, .slice Ao18 t144.length co18, .int .i64 t147] 28 (0, 0)) (by refine bl_ ?_; refine blk_put (cs := #[.int .i64 t143, .slice Ao18 t144.length co18, .int .i64 0]) ?_ 2 _ rfl; refine bl_ ?_; refine blk_put (cs := #[.int .i64 t143, .slice none 0 0, .int .i64 0]) ?_ 1 _ rfl; refine bl_ ?_; refine blk_put (cs := #[.int .i64 0, .slice none 0 0, .int .i64 0]) ?_ 0 _ rfl; refine bl_ ?_; exact BK148.out) hb); have n5_ := Aside0.mk (below_step (be_ HB.out) hb); clear HO146 BK140 BK141 BK142 BK148 HB; have HO146 := n0_; have BK140 := n1_; have BK141 := n2_; have BK142 := n3_; have BK148 := n4_; have HB := n5_; clear n0_ n1_ n2_ n3_ n4_ n5_; (try clear hb); (try clear hb2); (try clear hk); (try clear hi); have hnb44 := NB141_142.out; have hnc44 := NB142_141.out; have hnb45 := NB141_148.out; have hnc45 := NB148_141.out; obtain ⟨hcz46_0, hcz46_1, hcz46_2, hfz46_0, hfz46_1, hfz46_2⟩ := cz3_ BK141.out) | (go_at_call 15; (with_reducible refine (spec_BreakerOk.calls k a1_0 _ _ l1_1 a1_2 true _ ?side1 ?side2 A21.out).mono ?_); (case side1 => repeat (first | exact (Kd.C_below HR1_1.out HB.out) | (with_reducible refine Kd.C_alloc ?_ _) | (with_reducible refine Kd.C_drewN ?_ _) | (with_reducible refine Kd.C_drew ?_))); (case side2 => exact HC1_1.out); rintro e w47 ⟨rfl, hb⟩; have n0_ := Aside0.mk (Kd.R_below (ro_ HO146.out) hb); have n1_ := Aside0.mk (blk_below (bl_ BK140.out) hb); have n2_ := Aside0.mk (blk_below (bl_ BK141.out) hb); have n3_ := Aside0.mk (blk_below (bl_ BK142.out) hb); have n4_ := Aside0.mk (blk_below (bl_ BK148.out) hb); have n5_ := Aside0.mk (below_step (be_ HB.out) hb); clear HO146 BK140 BK141 BK142 BK148 HB; have HO146 := n0_; have BK140 := n1_; have BK141 := n2_; have BK142 := n3_; have BK148 := n4_; have HB := n5_; clear n0_ n1_ n2_ n3_ n4_ n5_; (try clear hb); (try clear hb2); (try clear hk); (try clear hi)) | (go_at_call 16; (with_reducible refine (spec_TickOk.calls a2 true _ A23.out).mono ?_); rintro e w' ⟨rfl, ⟨nd, rfl⟩⟩; (try first | exact ⟨rfl, _, World.drewN_drewN _ _ _⟩ | exact ⟨rfl, _, Eq.trans (World.drewN_drewN _ _ _) (congrArg (World.drewN _) (Nat.add_assoc _ _ _))⟩); obtain ⟨hcz48_0, hcz48_1, hcz48_2, hfz48_0, hfz48_1, hfz48_2⟩ := cz3_ BK141.out))
     repeat (go_quiet (first | (go_at_call 14; (with_reducible refine (spec_ConfigOk.calls k a0_0 a0_1 a0_2 a0_3 a0_4 a0_5 a0_6 a0_7 a0_8 a0_9 a0_10 a0_11 a0_12 a0_13 true _ A19.out).mono ?_); rintro e w43 ⟨rfl, hb⟩; have n0_ := Aside0.mk (Kd.R_below (by (with_reducible repeat (first | apply Kd.R_alloc | apply Kd.R_drewN | apply Kd.R_drew)); exact (Kd.R_mono (Kd.R_far (p := ⟨gb148, 2, none⟩) (Kd.R_far (p := ⟨gb148, 1, none⟩) (Kd.R_far (p := ⟨gb148, 0, none⟩) (Kd.R_types HO146.out BK148.out (by decide)) (fun _ hk => hk.2) (.int .i64 t143)) (fun _ hk => hk.2) (.slice Ao18 t144.length co18)) (fun _ hk => hk.2) (.int .i64 t147)) (fun _ h_ => h_.1))) hb); have n1_ := Aside0.mk (blk_below (g := gb140) (o := .cells #[.int .i64 a0_0, .int .i64 a0_1, .int .i64 a0_2, .int .i64 a0_3, .int .i64 a0_4, .int .i64 a0_5, .int .i64 a0_6, .int .i64 a0_7, .int .i64 a0_8, .int .i64 a0_9, .int .i64 a0_10, .int .i64 a0_11, .int .i64 a0_12, .int .i64 a0_13] 31 (0, 0)) (by refine bl_ ?_; refine blk_far ?_ NB140_148.out _; refine bl_ ?_; refine blk_far ?_ NB140_148.out _; refine bl_ ?_; refine blk_far ?_ NB140_148.out _; refine bl_ ?_; exact BK140.out) hb); have n2_ := Aside0.mk (blk_below (g := gb141) (o := .cells #[.int .i64 a1_0, .slice A1_1 l1_1.length c1_1, .int .i64 a1_2] 28 (0, 0)) (by refine bl_ ?_; refine blk_far ?_ NB141_148.out _; refine bl_ ?_; refine blk_far ?_ NB141_148.out _; refine bl_ ?_; refine blk_far ?_ NB141_148.out _; refine bl_ ?_; exact BK141.out) hb); have n3_ := Aside0.mk (blk_below (g := gb142) (o := .cells #[.int .i64 0, .slice none 0 0, .int .i64 0] 28 (0, 0)) (by refine bl_ ?_; refine blk_far ?_ NB142_148.out _; refine bl_ ?_; refine blk_far ?_ NB142_148.out _; refine bl_ ?_; refine blk_far ?_ NB142_148.out _; refine bl_ ?_; exact BK142.out) hb); have n4_ := Aside0.mk (blk_below (g := gb148) (o := .cells #[.int .i64 t143, .slice Ao18 t144.length co18, .int .i64 t147] 28 (0, 0)) (by refine bl_ ?_; refine blk_put (cs := #[.int .i64 t143, .slice Ao18 t144.length co18, .int .i64 0]) ?_ 2 _ rfl; refine bl_ ?_; refine blk_put (cs := #[.int .i64 t143, .slice none 0 0, .int .i64 0]) ?_ 1 _ rfl; refine bl_ ?_; refine blk_put (cs := #[.int .i64 0, .slice none 0 0, .int .i64 0]) ?_ 0 _ rfl; refine bl_ ?_; exact BK148.out) hb); have n5_ := Aside0.mk (below_step (be_ HB.out) hb); clear HO146 BK140 BK141 BK142 BK148 HB; have HO146 := n0_; have BK140 := n1_; have BK141 := n2_; have BK142 := n3_; have BK148 := n4_; have HB := n5_; clear n0_ n1_ n2_ n3_ n4_ n5_; (try clear hb); (try clear hb2); (try clear hk); (try clear hi); have hnb44 := NB141_142.out; have hnc44 := NB142_141.out; have hnb45 := NB141_148.out; have hnc45 := NB148_141.out; obtain ⟨hcz46_0, hcz46_1, hcz46_2, hfz46_0, hfz46_1, hfz46_2⟩ := cz3_ BK141.out) | (go_at_call 15; (with_reducible refine (spec_BreakerOk.calls k a1_0 _ _ l1_1 a1_2 true _ ?side1 ?side2 A21.out).mono ?_); (case side1 => repeat (first | exact (Kd.C_below HR1_1.out HB.out) | (with_reducible refine Kd.C_alloc ?_ _) | (with_reducible refine Kd.C_drewN ?_ _) | (with_reducible refine Kd.C_drew ?_))); (case side2 => exact HC1_1.out); rintro e w47 ⟨rfl, hb⟩; have n0_ := Aside0.mk (Kd.R_below (ro_ HO146.out) hb); have n1_ := Aside0.mk (blk_below (bl_ BK140.out) hb); have n2_ := Aside0.mk (blk_below (bl_ BK141.out) hb); have n3_ := Aside0.mk (blk_below (bl_ BK142.out) hb); have n4_ := Aside0.mk (blk_below (bl_ BK148.out) hb); have n5_ := Aside0.mk (below_step (be_ HB.out) hb); clear HO146 BK140 BK141 BK142 BK148 HB; have HO146 := n0_; have BK140 := n1_; have BK141 := n2_; have BK142 := n3_; have BK148 := n4_; have HB := n5_; clear n0_ n1_ n2_ n3_ n4_ n5_; (try clear hb); (try clear hb2); (try clear hk); (try clear hi)) | (go_at_call 16; (with_reducible refine (spec_TickOk.calls a2 true _ A23.out).mono ?_); rintro e w' ⟨rfl, ⟨nd, rfl⟩⟩; (try first | exact ⟨rfl, _, World.drewN_drewN _ _ _⟩ | exact ⟨rfl, _, Eq.trans (World.drewN_drewN _ _ _) (congrArg (World.drewN _) (Nat.add_assoc _ _ _))⟩); obtain ⟨hcz48_0, hcz48_1, hcz48_2, hfz48_0, hfz48_1, hfz48_2⟩ := cz3_ BK141.out)); try go_wp2_with (first | (go_at_call 14; (with_reducible refine (spec_ConfigOk.calls k a0_0 a0_1 a0_2 a0_3 a0_4 a0_5 a0_6 a0_7 a0_8 a0_9 a0_10 a0_11 a0_12 a0_13 true _ A19.out).mono ?_); rintro e w43 ⟨rfl, hb⟩; have n0_ := Aside0.mk (Kd.R_below (by (with_reducible repeat (first | apply Kd.R_alloc | apply Kd.R_drewN | apply Kd.R_drew)); exact (Kd.R_mono (Kd.R_far (p := ⟨gb148, 2, none⟩) (Kd.R_far (p := ⟨gb148, 1, none⟩) (Kd.R_far (p := ⟨gb148, 0, none⟩) (Kd.R_types HO146.out BK148.out (by decide)) (fun _ hk => hk.2) (.int .i64 t143)) (fun _ hk => hk.2) (.slice Ao18 t144.length co18)) (fun _ hk => hk.2) (.int .i64 t147)) (fun _ h_ => h_.1))) hb); have n1_ := Aside0.mk (blk_below (g := gb140) (o := .cells #[.int .i64 a0_0, .int .i64 a0_1, .int .i64 a0_2, .int .i64 a0_3, .int .i64 a0_4, .int .i64 a0_5, .int .i64 a0_6, .int .i64 a0_7, .int .i64 a0_8, .int .i64 a0_9, .int .i64 a0_10, .int .i64 a0_11, .int .i64 a0_12, .int .i64 a0_13] 31 (0, 0)) (by refine bl_ ?_; refine blk_far ?_ NB140_148.out _; refine bl_ ?_; refine blk_far ?_ NB140_148.out _; refine bl_ ?_; refine blk_far ?_ NB140_148.out _; refine bl_ ?_; exact BK140.out) hb); have n2_ := Aside0.mk (blk_below (g := gb141) (o := .cells #[.int .i64 a1_0, .slice A1_1 l1_1.length c1_1, .int .i64 a1_2] 28 (0, 0)) (by refine bl_ ?_; refine blk_far ?_ NB141_148.out _; refine bl_ ?_; refine blk_far ?_ NB141_148.out _; refine bl_ ?_; refine blk_far ?_ NB141_148.out _; refine bl_ ?_; exact BK141.out) hb); have n3_ := Aside0.mk (blk_below (g := gb142) (o := .cells #[.int .i64 0, .slice none 0 0, .int .i64 0] 28 (0, 0)) (by refine bl_ ?_; refine blk_far ?_ NB142_148.out _; refine bl_ ?_; refine blk_far ?_ NB142_148.out _; refine bl_ ?_; refine blk_far ?_ NB142_148.out _; refine bl_ ?_; exact BK142.out) hb); have n4_ := Aside0.mk (blk_below (g := gb148) (o := .cells #[.int .i64 t143, .slice Ao18 t144.length co18, .int .i64 t147] 28 (0, 0)) (by refine bl_ ?_; refine blk_put (cs := #[.int .i64 t143, .slice Ao18 t144.length co18, .int .i64 0]) ?_ 2 _ rfl; refine bl_ ?_; refine blk_put (cs := #[.int .i64 t143, .slice none 0 0, .int .i64 0]) ?_ 1 _ rfl; refine bl_ ?_; refine blk_put (cs := #[.int .i64 0, .slice none 0 0, .int .i64 0]) ?_ 0 _ rfl; refine bl_ ?_; exact BK148.out) hb); have n5_ := Aside0.mk (below_step (be_ HB.out) hb); clear HO146 BK140 BK141 BK142 BK148 HB; have HO146 := n0_; have BK140 := n1_; have BK141 := n2_; have BK142 := n3_; have BK148 := n4_; have HB := n5_; clear n0_ n1_ n2_ n3_ n4_ n5_; (try clear hb); (try clear hb2); (try clear hk); (try clear hi); have hnb44 := NB141_142.out; have hnc44 := NB142_141.out; have hnb45 := NB141_148.out; have hnc45 := NB148_141.out; obtain ⟨hcz46_0, hcz46_1, hcz46_2, hfz46_0, hfz46_1, hfz46_2⟩ := cz3_ BK141.out) | (go_at_call 15; (with_reducible refine (spec_BreakerOk.calls k a1_0 _ _ l1_1 a1_2 true _ ?side1 ?side2 A21.out).mono ?_); (case side1 => repeat (first | exact (Kd.C_below HR1_1.out HB.out) | (with_reducible refine Kd.C_alloc ?_ _) | (with_reducible refine Kd.C_drewN ?_ _) | (with_reducible refine Kd.C_drew ?_))); (case side2 => exact HC1_1.out); rintro e w47 ⟨rfl, hb⟩; have n0_ := Aside0.mk (Kd.R_below (ro_ HO146.out) hb); have n1_ := Aside0.mk (blk_below (bl_ BK140.out) hb); have n2_ := Aside0.mk (blk_below (bl_ BK141.out) hb); have n3_ := Aside0.mk (blk_below (bl_ BK142.out) hb); have n4_ := Aside0.mk (blk_below (bl_ BK148.out) hb); have n5_ := Aside0.mk (below_step (be_ HB.out) hb); clear HO146 BK140 BK141 BK142 BK148 HB; have HO146 := n0_; have BK140 := n1_; have BK141 := n2_; have BK142 := n3_; have BK148 := n4_; have HB := n5_; clear n0_ n1_ n2_ n3_ n4_ n5_; (try clear hb); (try clear hb2); (try clear hk); (try clear hi)) | (go_at_call 16; (with_reducible refine (spec_TickOk.calls a2 true _ A23.out).mono ?_); rintro e w' ⟨rfl, ⟨nd, rfl⟩⟩; (try first | exact ⟨rfl, _, World.drewN_drewN _ _ _⟩ | exact ⟨rfl, _, Eq.trans (World.drewN_drewN _ _ _) (congrArg (World.drewN _) (Nat.add_assoc _ _ _))⟩); obtain ⟨hcz48_0, hcz48_1, hcz48_2, hfz48_0, hfz48_1, hfz48_2⟩ := cz3_ BK141.out)))
     go_meet
     case rel => exact ⟨_, (false), (by first | rfl | (simp; done) | (simp [*]; done)), H', ⟨by first | omega | exact Nat.le_refl _⟩, ⟨by (with_reducible repeat (first | apply Kd.R_alloc | apply Kd.R_drewN | apply Kd.R_drew)); exact HO146.out⟩, ⟨by refine bl_ ?_; exact BK140.out⟩, ⟨by refine bl_ ?_; exact BK141.out⟩, ⟨by refine bl_ ?_; exact BK142.out⟩, ⟨by refine bl_ ?_; exact BK148.out⟩, ⟨be_ HB.out⟩⟩
    replace c24 := Bool.eq_false_iff.mpr c24
    subst c24
    have H1 : (spec_OnFailure.j0 k a2 true a0_0 a0_1 a0_2 a0_3 a0_4 a0_5 a0_6 a0_7 a0_8 a0_9 a0_10 a0_11 a0_12 a0_13 a1_0 l1_1 a1_2 t143 t144 t147) = some (r1, r2, r3, r4) := by rw [if_neg (show ¬ (false = true) by decide)] at H; exact H
    clear H
    have H := H1
    clear H1
    have H' := Aside0.mk H
    clear H
    have hnb49 := NB140_141.out
    have hnc49 := NB141_140.out
    have hnb50 := NB140_142.out
    have hnc50 := NB142_140.out
    have hnb51 := NB140_148.out
    have hnc51 := NB148_140.out
    obtain ⟨hcz52_0, hcz52_1, hcz52_2, hcz52_3, hcz52_4, hcz52_5, hcz52_6, hcz52_7, hcz52_8, hcz52_9, hcz52_10, hcz52_11, hcz52_12, hcz52_13, hfz52_0, hfz52_1, hfz52_2, hfz52_3, hfz52_4, hfz52_5, hfz52_6, hfz52_7, hfz52_8, hfz52_9, hfz52_10, hfz52_11, hfz52_12, hfz52_13⟩ := cz14_ BK140.out
    go_wp2_with (first | (go_at_call 14; (with_reducible refine (spec_ConfigOk.calls k a0_0 a0_1 a0_2 a0_3 a0_4 a0_5 a0_6 a0_7 a0_8 a0_9 a0_10 a0_11 a0_12 a0_13 true _ A19.out).mono ?_); rintro e w53 ⟨rfl, hb⟩; have n0_ := Aside0.mk (Kd.R_below (by (with_reducible repeat (first | apply Kd.R_alloc | apply Kd.R_drewN | apply Kd.R_drew)); exact (Kd.R_mono (Kd.R_far (p := ⟨gb148, 2, none⟩) (Kd.R_far (p := ⟨gb148, 1, none⟩) (Kd.R_far (p := ⟨gb148, 0, none⟩) (Kd.R_types HO146.out BK148.out (by decide)) (fun _ hk => hk.2) (.int .i64 t143)) (fun _ hk => hk.2) (.slice Ao18 t144.length co18)) (fun _ hk => hk.2) (.int .i64 t147)) (fun _ h_ => h_.1))) hb); have n1_ := Aside0.mk (blk_below (g := gb140) (o := .cells #[.int .i64 a0_0, .int .i64 a0_1, .int .i64 a0_2, .int .i64 a0_3, .int .i64 a0_4, .int .i64 a0_5, .int .i64 a0_6, .int .i64 a0_7, .int .i64 a0_8, .int .i64 a0_9, .int .i64 a0_10, .int .i64 a0_11, .int .i64 a0_12, .int .i64 a0_13] 31 (0, 0)) (by refine bl_ ?_; refine blk_far ?_ NB140_148.out _; refine bl_ ?_; refine blk_far ?_ NB140_148.out _; refine bl_ ?_; refine blk_far ?_ NB140_148.out _; refine bl_ ?_; exact BK140.out) hb); have n2_ := Aside0.mk (blk_below (g := gb141) (o := .cells #[.int .i64 a1_0, .slice A1_1 l1_1.length c1_1, .int .i64 a1_2] 28 (0, 0)) (by refine bl_ ?_; refine blk_far ?_ NB141_148.out _; refine bl_ ?_; refine blk_far ?_ NB141_148.out _; refine bl_ ?_; refine blk_far ?_ NB141_148.out _; refine bl_ ?_; exact BK141.out) hb); have n3_ := Aside0.mk (blk_below (g := gb142) (o := .cells #[.int .i64 0, .slice none 0 0, .int .i64 0] 28 (0, 0)) (by refine bl_ ?_; refine blk_far ?_ NB142_148.out _; refine bl_ ?_; refine blk_far ?_ NB142_148.out _; refine bl_ ?_; refine blk_far ?_ NB142_148.out _; refine bl_ ?_; exact BK142.out) hb); have n4_ := Aside0.mk (blk_below (g := gb148) (o := .cells #[.int .i64 t143, .slice Ao18 t144.length co18, .int .i64 t147] 28 (0, 0)) (by refine bl_ ?_; refine blk_put (cs := #[.int .i64 t143, .slice Ao18 t144.length co18, .int .i64 0]) ?_ 2 _ rfl; refine bl_ ?_; refine blk_put (cs := #[.int .i64 t143, .slice none 0 0, .int .i64 0]) ?_ 1 _ rfl; refine bl_ ?_; refine blk_put (cs := #[.int .i64 0, .slice none 0 0, .int .i64 0]) ?_ 0 _ rfl; refine bl_ ?_; exact BK148.out) hb); have n5_ := Aside0.mk (below_step (be_ HB.out) hb); clear HO146 BK140 BK141 BK142 BK148 HB; have HO146 := n0_; have BK140 := n1_; have BK141 := n2_; have BK142 := n3_; have BK148 := n4_; have HB := n5_; clear n0_ n1_ n2_ n3_ n4_ n5_; (try clear hb); (try clear hb2); (try clear hk); (try clear hi); have hnb54 := NB141_142.out; have hnc54 := NB142_141.out; have hnb55 := NB141_148.out; have hnc55 := NB148_141.out; obtain ⟨hcz56_0, hcz56_1, hcz56_2, hfz56_0, hfz56_1, hfz56_2⟩ := cz3_ BK141.out) | (go_at_call 15; (with_reducible refine (spec_BreakerOk.calls k a1_0 _ _ l1_1 a1_2 true _ ?side1 ?side2 A21.out).mono ?_); (case side1 => repeat (first | exact (Kd.C_below HR1_1.out HB.out) | (with_reducible refine Kd.C_alloc ?_ _) | (with_reducible refine Kd.C_drewN ?_ _) | (with_reducible refine Kd.C_drew ?_))); (case side2 => exact HC1_1.out); rintro e w57 ⟨rfl, hb⟩; have n0_ := Aside0.mk (Kd.R_below (ro_ HO146.out) hb); have n1_ := Aside0.mk (blk_below (bl_ BK140.out) hb); have n2_ := Aside0.mk (blk_below (bl_ BK141.out) hb); have n3_ := Aside0.mk (blk_below (bl_ BK142.out) hb); have n4_ := Aside0.mk (blk_below (bl_ BK148.out) hb); have n5_ := Aside0.mk (below_step (be_ HB.out) hb); clear HO146 BK140 BK141 BK142 BK148 HB; have HO146 := n0_; have BK140 := n1_; have BK141 := n2_; have BK142 := n3_; have BK148 := n4_; have HB := n5_; clear n0_ n1_ n2_ n3_ n4_ n5_; (try clear hb); (try clear hb2); (try clear hk); (try clear hi)) | (go_at_call 16; (with_reducible refine (spec_TickOk.calls a2 false _ A23.out).mono ?_); rintro e w' ⟨rfl, ⟨nd, rfl⟩⟩; (try first | exact ⟨rfl, _, World.drewN_drewN _ _ _⟩ | exact ⟨rfl, _, Eq.trans (World.drewN_drewN _ _ _) (congrArg (World.drewN _) (Nat.add_assoc _ _ _))⟩)))
    repeat (go_quiet (first | (go_at_call 14; (with_reducible refine (spec_ConfigOk.calls k a0_0 a0_1 a0_2 a0_3 a0_4 a0_5 a0_6 a0_7 a0_8 a0_9 a0_10 a0_11 a0_12 a0_13 true _ A19.out).mono ?_); rintro e w53 ⟨rfl, hb⟩; have n0_ := Aside0.mk (Kd.R_below (by (with_reducible repeat (first | apply Kd.R_alloc | apply Kd.R_drewN | apply Kd.R_drew)); exact (Kd.R_mono (Kd.R_far (p := ⟨gb148, 2, none⟩) (Kd.R_far (p := ⟨gb148, 1, none⟩) (Kd.R_far (p := ⟨gb148, 0, none⟩) (Kd.R_types HO146.out BK148.out (by decide)) (fun _ hk => hk.2) (.int .i64 t143)) (fun _ hk => hk.2) (.slice Ao18 t144.length co18)) (fun _ hk => hk.2) (.int .i64 t147)) (fun _ h_ => h_.1))) hb); have n1_ := Aside0.mk (blk_below (g := gb140) (o := .cells #[.int .i64 a0_0, .int .i64 a0_1, .int .i64 a0_2, .int .i64 a0_3, .int .i64 a0_4, .int .i64 a0_5, .int .i64 a0_6, .int .i64 a0_7, .int .i64 a0_8, .int .i64 a0_9, .int .i64 a0_10, .int .i64 a0_11, .int .i64 a0_12, .int .i64 a0_13] 31 (0, 0)) (by refine bl_ ?_; refine blk_far ?_ NB140_148.out _; refine bl_ ?_; refine blk_far ?_ NB140_148.out _; refine bl_ ?_; refine blk_far ?_ NB140_148.out _; refine bl_ ?_; exact BK140.out) hb); have n2_ := Aside0.mk (blk_below (g := gb141) (o := .cells #[.int .i64 a1_0, .slice A1_1 l1_1.length c1_1, .int .i64 a1_2] 28 (0, 0)) (by refine bl_ ?_; refine blk_far ?_ NB141_148.out _; refine bl_ ?_; refine blk_far ?_ NB141_148.out _; refine bl_ ?_; refine blk_far ?_ NB141_148.out _; refine bl_ ?_; exact BK141.out) hb); have n3_ := Aside0.mk (blk_below (g := gb142) (o := .cells #[.int .i64 0, .slice none 0 0, .int .i64 0] 28 (0, 0)) (by refine bl_ ?_; refine blk_far ?_ NB142_148.out _; refine bl_ ?_; refine blk_far ?_ NB142_148.out _; refine bl_ ?_; refine blk_far ?_ NB142_148.out _; refine bl_ ?_; exact BK142.out) hb); have n4_ := Aside0.mk (blk_below (g := gb148) (o := .cells #[.int .i64 t143, .slice Ao18 t144.length co18, .int .i64 t147] 28 (0, 0)) (by refine bl_ ?_; refine blk_put (cs := #[.int .i64 t143, .slice Ao18 t144.length co18, .int .i64 0]) ?_ 2 _ rfl; refine bl_ ?_; refine blk_put (cs := #[.int .i64 t143, .slice none 0 0, .int .i64 0]) ?_ 1 _ rfl; refine bl_ ?_; refine blk_put (cs := #[.int .i64 0, .slice none 0 0, .int .i64 0]) ?_ 0 _ rfl; refine bl_ ?_; exact BK148.out) hb); have n5_ := Aside0.mk (below_step (be_ HB.out) hb); clear HO146 BK140 BK141 BK142 BK148 HB; have HO146 := n0_; have BK140 := n1_; have BK141 := n2_; have BK142 := n3_; have BK148 := n4_; have HB := n5_; clear n0_ n1_ n2_ n3_ n4_ n5_; (try clear hb); (try clear hb2); (try clear hk); (try clear hi); have hnb54 := NB141_142.out; have hnc54 := NB142_141.out; have hnb55 := NB141_148.out; have hnc55 := NB148_141.out; obtain ⟨hcz56_0, hcz56_1, hcz56_2, hfz56_0, hfz56_1, hfz56_2⟩ := cz3_ BK141.out) | (go_at_call 15; (with_reducible refine (spec_BreakerOk.calls k a1_0 _ _ l1_1 a1_2 true _ ?side1 ?side2 A21.out).mono ?_); (case side1 => repeat (first | exact (Kd.C_below HR1_1.out HB.out) | (with_reducible refine Kd.C_alloc ?_ _) | (with_reducible refine Kd.C_drewN ?_ _) | (with_reducible refine Kd.C_drew ?_))); (case side2 => exact HC1_1.out); rintro e w57 ⟨rfl, hb⟩; have n0_ := Aside0.mk (Kd.R_below (ro_ HO146.out) hb); have n1_ := Aside0.mk (blk_below (bl_ BK140.out) hb); have n2_ := Aside0.mk (blk_below (bl_ BK141.out) hb); have n3_ := Aside0.mk (blk_below (bl_ BK142.out) hb); have n4_ := Aside0.mk (blk_below (bl_ BK148.out) hb); have n5_ := Aside0.mk (below_step (be_ HB.out) hb); clear HO146 BK140 BK141 BK142 BK148 HB; have HO146 := n0_; have BK140 := n1_; have BK141 := n2_; have BK142 := n3_; have BK148 := n4_; have HB := n5_; clear n0_ n1_ n2_ n3_ n4_ n5_; (try clear hb); (try clear hb2); (try clear hk); (try clear hi)) | (go_at_call 16; (with_reducible refine (spec_TickOk.calls a2 false _ A23.out).mono ?_); rintro e w' ⟨rfl, ⟨nd, rfl⟩⟩; (try first | exact ⟨rfl, _, World.drewN_drewN _ _ _⟩ | exact ⟨rfl, _, Eq.trans (World.drewN_drewN _ _ _) (congrArg (World.drewN _) (Nat.add_assoc _ _ _))⟩))); try go_wp2_with (first | (go_at_call 14; (with_reducible refine (spec_ConfigOk.calls k a0_0 a0_1 a0_2 a0_3 a0_4 a0_5 a0_6 a0_7 a0_8 a0_9 a0_10 a0_11 a0_12 a0_13 true _ A19.out).mono ?_); rintro e w53 ⟨rfl, hb⟩; have n0_ := Aside0.mk (Kd.R_below (by (with_reducible repeat (first | apply Kd.R_alloc | apply Kd.R_drewN | apply Kd.R_drew)); exact (Kd.R_mono (Kd.R_far (p := ⟨gb148, 2, none⟩) (Kd.R_far (p := ⟨gb148, 1, none⟩) (Kd.R_far (p := ⟨gb148, 0, none⟩) (Kd.R_types HO146.out BK148.out (by decide)) (fun _ hk => hk.2) (.int .i64 t143)) (fun _ hk => hk.2) (.slice Ao18 t144.length co18)) (fun _ hk => hk.2) (.int .i64 t147)) (fun _ h_ => h_.1))) hb); have n1_ := Aside0.mk (blk_below (g := gb140) (o := .cells #[.int .i64 a0_0, .int .i64 a0_1, .int .i64 a0_2, .int .i64 a0_3, .int .i64 a0_4, .int .i64 a0_5, .int .i64 a0_6, .int .i64 a0_7, .int .i64 a0_8, .int .i64 a0_9, .int .i64 a0_10, .int .i64 a0_11, .int .i64 a0_12, .int .i64 a0_13] 31 (0, 0)) (by refine bl_ ?_; refine blk_far ?_ NB140_148.out _; refine bl_ ?_; refine blk_far ?_ NB140_148.out _; refine bl_ ?_; refine blk_far ?_ NB140_148.out _; refine bl_ ?_; exact BK140.out) hb); have n2_ := Aside0.mk (blk_below (g := gb141) (o := .cells #[.int .i64 a1_0, .slice A1_1 l1_1.length c1_1, .int .i64 a1_2] 28 (0, 0)) (by refine bl_ ?_; refine blk_far ?_ NB141_148.out _; refine bl_ ?_; refine blk_far ?_ NB141_148.out _; refine bl_ ?_; refine blk_far ?_ NB141_148.out _; refine bl_ ?_; exact BK141.out) hb); have n3_ := Aside0.mk (blk_below (g := gb142) (o := .cells #[.int .i64 0, .slice none 0 0, .int .i64 0] 28 (0, 0)) (by refine bl_ ?_; refine blk_far ?_ NB142_148.out _; refine bl_ ?_; refine blk_far ?_ NB142_148.out _; refine bl_ ?_; refine blk_far ?_ NB142_148.out _; refine bl_ ?_; exact BK142.out) hb); have n4_ := Aside0.mk (blk_below (g := gb148) (o := .cells #[.int .i64 t143, .slice Ao18 t144.length co18, .int .i64 t147] 28 (0, 0)) (by refine bl_ ?_; refine blk_put (cs := #[.int .i64 t143, .slice Ao18 t144.length co18, .int .i64 0]) ?_ 2 _ rfl; refine bl_ ?_; refine blk_put (cs := #[.int .i64 t143, .slice none 0 0, .int .i64 0]) ?_ 1 _ rfl; refine bl_ ?_; refine blk_put (cs := #[.int .i64 0, .slice none 0 0, .int .i64 0]) ?_ 0 _ rfl; refine bl_ ?_; exact BK148.out) hb); have n5_ := Aside0.mk (below_step (be_ HB.out) hb); clear HO146 BK140 BK141 BK142 BK148 HB; have HO146 := n0_; have BK140 := n1_; have BK141 := n2_; have BK142 := n3_; have BK148 := n4_; have HB := n5_; clear n0_ n1_ n2_ n3_ n4_ n5_; (try clear hb); (try clear hb2); (try clear hk); (try clear hi); have hnb54 := NB141_142.out; have hnc54 := NB142_141.out; have hnb55 := NB141_148.out; have hnc55 := NB148_141.out; obtain ⟨hcz56_0, hcz56_1, hcz56_2, hfz56_0, hfz56_1, hfz56_2⟩ := cz3_ BK141.out) | (go_at_call 15; (with_reducible refine (spec_BreakerOk.calls k a1_0 _ _ l1_1 a1_2 true _ ?side1 ?side2 A21.out).mono ?_); (case side1 => repeat (first | exact (Kd.C_below HR1_1.out HB.out) | (with_reducible refine Kd.C_alloc ?_ _) | (with_reducible refine Kd.C_drewN ?_ _) | (with_reducible refine Kd.C_drew ?_))); (case side2 => exact HC1_1.out); rintro e w57 ⟨rfl, hb⟩; have n0_ := Aside0.mk (Kd.R_below (ro_ HO146.out) hb); have n1_ := Aside0.mk (blk_below (bl_ BK140.out) hb); have n2_ := Aside0.mk (blk_below (bl_ BK141.out) hb); have n3_ := Aside0.mk (blk_below (bl_ BK142.out) hb); have n4_ := Aside0.mk (blk_below (bl_ BK148.out) hb); have n5_ := Aside0.mk (below_step (be_ HB.out) hb); clear HO146 BK140 BK141 BK142 BK148 HB; have HO146 := n0_; have BK140 := n1_; have BK141 := n2_; have BK142 := n3_; have BK148 := n4_; have HB := n5_; clear n0_ n1_ n2_ n3_ n4_ n5_; (try clear hb); (try clear hb2); (try clear hk); (try clear hi)) | (go_at_call 16; (with_reducible refine (spec_TickOk.calls a2 false _ A23.out).mono ?_); rintro e w' ⟨rfl, ⟨nd, rfl⟩⟩; (try first | exact ⟨rfl, _, World.drewN_drewN _ _ _⟩ | exact ⟨rfl, _, Eq.trans (World.drewN_drewN _ _ _) (congrArg (World.drewN _) (Nat.add_assoc _ _ _))⟩))))
    go_meet
    case rel => exact ⟨_, (true), (by first | rfl | (simp; done) | (simp [*]; done)), H', ⟨by first | omega | exact Nat.le_refl _⟩, ⟨by (with_reducible repeat (first | apply Kd.R_alloc | apply Kd.R_drewN | apply Kd.R_drew)); exact HO146.out⟩, ⟨by refine bl_ ?_; exact BK140.out⟩, ⟨by refine bl_ ?_; exact BK141.out⟩, ⟨by refine bl_ ?_; exact BK142.out⟩, ⟨by refine bl_ ?_; exact BK148.out⟩, ⟨be_ HB.out⟩⟩
   replace c22 := Bool.eq_false_iff.mpr c22
   subst c22
   have H1 : (spec_OnFailure.j0 k a2 true a0_0 a0_1 a0_2 a0_3 a0_4 a0_5 a0_6 a0_7 a0_8 a0_9 a0_10 a0_11 a0_12 a0_13 a1_0 l1_1 a1_2 t143 t144 t147) = some (r1, r2, r3, r4) := by rw [if_neg (show ¬ (false = true) by decide)] at H; exact H
   clear H
   have H := H1
   clear H1
   have H' := Aside0.mk H
   clear H
   have hnb58 := NB140_141.out
   have hnc58 := NB141_140.out
   have hnb59 := NB140_142.out
   have hnc59 := NB142_140.out
   have hnb60 := NB140_148.out
   have hnc60 := NB148_140.out
   obtain ⟨hcz61_0, hcz61_1, hcz61_2, hcz61_3, hcz61_4, hcz61_5, hcz61_6, hcz61_7, hcz61_8, hcz61_9, hcz61_10, hcz61_11, hcz61_12, hcz61_13, hfz61_0, hfz61_1, hfz61_2, hfz61_3, hfz61_4, hfz61_5, hfz61_6, hfz61_7, hfz61_8, hfz61_9, hfz61_10, hfz61_11, hfz61_12, hfz61_13⟩ := cz14_ BK140.out
   go_wp2_with (first | (go_at_call 14; (with_reducible refine (spec_ConfigOk.calls k a0_0 a0_1 a0_2 a0_3 a0_4 a0_5 a0_6 a0_7 a0_8 a0_9 a0_10 a0_11 a0_12 a0_13 true _ A19.out).mono ?_); rintro e w62 ⟨rfl, hb⟩; have n0_ := Aside0.mk (Kd.R_below (by (with_reducible repeat (first | apply Kd.R_alloc | apply Kd.R_drewN | apply Kd.R_drew)); exact (Kd.R_mono (Kd.R_far (p := ⟨gb148, 2, none⟩) (Kd.R_far (p := ⟨gb148, 1, none⟩) (Kd.R_far (p := ⟨gb148, 0, none⟩) (Kd.R_types HO146.out BK148.out (by decide)) (fun _ hk => hk.2) (.int .i64 t143)) (fun _ hk => hk.2) (.slice Ao18 t144.length co18)) (fun _ hk => hk.2) (.int .i64 t147)) (fun _ h_ => h_.1))) hb); have n1_ := Aside0.mk (blk_below (g := gb140) (o := .cells #[.int .i64 a0_0, .int .i64 a0_1, .int .i64 a0_2, .int .i64 a0_3, .int .i64 a0_4, .int .i64 a0_5, .int .i64 a0_6, .int .i64 a0_7, .int .i64 a0_8, .int .i64 a0_9, .int .i64 a0_10, .int .i64 a0_11, .int .i64 a0_12, .int .i64 a0_13] 31 (0, 0)) (by refine bl_ ?_; refine blk_far ?_ NB140_148.out _; refine bl_ ?_; refine blk_far ?_ NB140_148.out _; refine bl_ ?_; refine blk_far ?_ NB140_148.out _; refine bl_ ?_; exact BK140.out) hb); have n2_ := Aside0.mk (blk_below (g := gb141) (o := .cells #[.int .i64 a1_0, .slice A1_1 l1_1.length c1_1, .int .i64 a1_2] 28 (0, 0)) (by refine bl_ ?_; refine blk_far ?_ NB141_148.out _; refine bl_ ?_; refine blk_far ?_ NB141_148.out _; refine bl_ ?_; refine blk_far ?_ NB141_148.out _; refine bl_ ?_; exact BK141.out) hb); have n3_ := Aside0.mk (blk_below (g := gb142) (o := .cells #[.int .i64 0, .slice none 0 0, .int .i64 0] 28 (0, 0)) (by refine bl_ ?_; refine blk_far ?_ NB142_148.out _; refine bl_ ?_; refine blk_far ?_ NB142_148.out _; refine bl_ ?_; refine blk_far ?_ NB142_148.out _; refine bl_ ?_; exact BK142.out) hb); have n4_ := Aside0.mk (blk_below (g := gb148) (o := .cells #[.int .i64 t143, .slice Ao18 t144.length co18, .int .i64 t147] 28 (0, 0)) (by refine bl_ ?_; refine blk_put (cs := #[.int .i64 t143, .slice Ao18 t144.length co18, .int .i64 0]) ?_ 2 _ rfl; refine bl_ ?_; refine blk_put (cs := #[.int .i64 t143, .slice none 0 0, .int .i64 0]) ?_ 1 _ rfl; refine bl_ ?_; refine blk_put (cs := #[.int .i64 0, .slice none 0 0, .int .i64 0]) ?_ 0 _ rfl; refine bl_ ?_; exact BK148.out) hb); have n5_ := Aside0.mk (below_step (be_ HB.out) hb); clear HO146 BK140 BK141 BK142 BK148 HB; have HO146 := n0_; have BK140 := n1_; have BK141 := n2_; have BK142 := n3_; have BK148 := n4_; have HB := n5_; clear n0_ n1_ n2_ n3_ n4_ n5_; (try clear hb); (try clear hb2); (try clear hk); (try clear hi); have hnb63 := NB141_142.out; have hnc63 := NB142_141.out; have hnb64 := NB141_148.out; have hnc64 := NB148_141.out; obtain ⟨hcz65_0, hcz65_1, hcz65_2, hfz65_0, hfz65_1, hfz65_2⟩ := cz3_ BK141.out) | (go_at_call 15; (with_reducible refine (spec_BreakerOk.calls k a1_0 _ _ l1_1 a1_2 false _ ?side1 ?side2 A21.out).mono ?_); (case side1 => repeat (first | exact (Kd.C_below HR1_1.out HB.out) | (with_reducible refine Kd.C_alloc ?_ _) | (with_reducible refine Kd.C_drewN ?_ _) | (with_reducible refine Kd.C_drew ?_))); (case side2 => exact HC1_1.out); rintro e w66 ⟨rfl, hb⟩; have n0_ := Aside0.mk (Kd.R_below (ro_ HO146.out) hb); have n1_ := Aside0.mk (blk_below (bl_ BK140.out) hb); have n2_ := Aside0.mk (blk_below (bl_ BK141.out) hb); have n3_ := Aside0.mk (blk_below (bl_ BK142.out) hb); have n4_ := Aside0.mk (blk_below (bl_ BK148.out) hb); have n5_ := Aside0.mk (below_step (be_ HB.out) hb); clear HO146 BK140 BK141 BK142 BK148 HB; have HO146 := n0_; have BK140 := n1_; have BK141 := n2_; have BK142 := n3_; have BK148 := n4_; have HB := n5_; clear n0_ n1_ n2_ n3_ n4_ n5_; (try clear hb); (try clear hb2); (try clear hk); (try clear hi)))
   repeat (go_quiet (first | (go_at_call 14; (with_reducible refine (spec_ConfigOk.calls k a0_0 a0_1 a0_2 a0_3 a0_4 a0_5 a0_6 a0_7 a0_8 a0_9 a0_10 a0_11 a0_12 a0_13 true _ A19.out).mono ?_); rintro e w62 ⟨rfl, hb⟩; have n0_ := Aside0.mk (Kd.R_below (by (with_reducible repeat (first | apply Kd.R_alloc | apply Kd.R_drewN | apply Kd.R_drew)); exact (Kd.R_mono (Kd.R_far (p := ⟨gb148, 2, none⟩) (Kd.R_far (p := ⟨gb148, 1, none⟩) (Kd.R_far (p := ⟨gb148, 0, none⟩) (Kd.R_types HO146.out BK148.out (by decide)) (fun _ hk => hk.2) (.int .i64 t143)) (fun _ hk => hk.2) (.slice Ao18 t144.length co18)) (fun _ hk => hk.2) (.int .i64 t147)) (fun _ h_ => h_.1))) hb); have n1_ := Aside0.mk (blk_below (g := gb140) (o := .cells #[.int .i64 a0_0, .int .i64 a0_1, .int .i64 a0_2, .int .i64 a0_3, .int .i64 a0_4, .int .i64 a0_5, .int .i64 a0_6, .int .i64 a0_7, .int .i64 a0_8, .int .i64 a0_9, .int .i64 a0_10, .int .i64 a0_11, .int .i64 a0_12, .int .i64 a0_13] 31 (0, 0)) (by refine bl_ ?_; refine blk_far ?_ NB140_148.out _; refine bl_ ?_; refine blk_far ?_ NB140_148.out _; refine bl_ ?_; refine blk_far ?_ NB140_148.out _; refine bl_ ?_; exact BK140.out) hb); have n2_ := Aside0.mk (blk_below (g := gb141) (o := .cells #[.int .i64 a1_0, .slice A1_1 l1_1.length c1_1, .int .i64 a1_2] 28 (0, 0)) (by refine bl_ ?_; refine blk_far ?_ NB141_148.out _; refine bl_ ?_; refine blk_far ?_ NB141_148.out _; refine bl_ ?_; refine blk_far ?_ NB141_148.out _; refine bl_ ?_; exact BK141.out) hb); have n3_ := Aside0.mk (blk_below (g := gb142) (o := .cells #[.int .i64 0, .slice none 0 0, .int .i64 0] 28 (0, 0)) (by refine bl_ ?_; refine blk_far ?_ NB142_148.out _; refine bl_ ?_; refine blk_far ?_ NB142_148.out _; refine bl_ ?_; refine blk_far ?_ NB142_148.out _; refine bl_ ?_; exact BK142.out) hb); have n4_ := Aside0.mk (blk_below (g := gb148) (o := .cells #[.int .i64 t143, .slice Ao18 t144.length co18, .int .i64 t147] 28 (0, 0)) (by refine bl_ ?_; refine blk_put (cs := #[.int .i64 t143, .slice Ao18 t144.length co18, .int .i64 0]) ?_ 2 _ rfl; refine bl_ ?_; refine blk_put (cs := #[.int .i64 t143, .slice none 0 0, .int .i64 0]) ?_ 1 _ rfl; refine bl_ ?_; refine blk_put (cs := #[.int .i64 0, .slice none 0 0, .int .i64 0]) ?_ 0 _ rfl; refine bl_ ?_; exact BK148.out) hb); have n5_ := Aside0.mk (below_step (be_ HB.out) hb); clear HO146 BK140 BK141 BK142 BK148 HB; have HO146 := n0_; have BK140 := n1_; have BK141 := n2_; have BK142 := n3_; have BK148 := n4_; have HB := n5_; clear n0_ n1_ n2_ n3_ n4_ n5_; (try clear hb); (try clear hb2); (try clear hk); (try clear hi); have hnb63 := NB141_142.out; have hnc63 := NB142_141.out; have hnb64 := NB141_148.out; have hnc64 := NB148_141.out; obtain ⟨hcz65_0, hcz65_1, hcz65_2, hfz65_0, hfz65_1, hfz65_2⟩ := cz3_ BK141.out) | (go_at_call 15; (with_reducible refine (spec_BreakerOk.calls k a1_0 _ _ l1_1 a1_2 false _ ?side1 ?side2 A21.out).mono ?_); (case side1 => repeat (first | exact (Kd.C_below HR1_1.out HB.out) | (with_reducible refine Kd.C_alloc ?_ _) | (with_reducible refine Kd.C_drewN ?_ _) | (with_reducible refine Kd.C_drew ?_))); (case side2 => exact HC1_1.out); rintro e w66 ⟨rfl, hb⟩; have n0_ := Aside0.mk (Kd.R_below (ro_ HO146.out) hb); have n1_ := Aside0.mk (blk_below (bl_ BK140.out) hb); have n2_ := Aside0.mk (blk_below (bl_ BK141.out) hb); have n3_ := Aside0.mk (blk_below (bl_ BK142.out) hb); have n4_ := Aside0.mk (blk_below (bl_ BK148.out) hb); have n5_ := Aside0.mk (below_step (be_ HB.out) hb); clear HO146 BK140 BK141 BK142 BK148 HB; have HO146 := n0_; have BK140 := n1_; have BK141 := n2_; have BK142 := n3_; have BK148 := n4_; have HB := n5_; clear n0_ n1_ n2_ n3_ n4_ n5_; (try clear hb); (try clear hb2); (try clear hk); (try clear hi))); try go_wp2_with (first | (go_at_call 14; (with_reducible refine (spec_ConfigOk.calls k a0_0 a0_1 a0_2 a0_3 a0_4 a0_5 a0_6 a0_7 a0_8 a0_9 a0_10 a0_11 a0_12 a0_13 true _ A19.out).mono ?_); rintro e w62 ⟨rfl, hb⟩; have n0_ := Aside0.mk (Kd.R_below (by (with_reducible repeat (first | apply Kd.R_alloc | apply Kd.R_drewN | apply Kd.R_drew)); exact (Kd.R_mono (Kd.R_far (p := ⟨gb148, 2, none⟩) (Kd.R_far (p := ⟨gb148, 1, none⟩) (Kd.R_far (p := ⟨gb148, 0, none⟩) (Kd.R_types HO146.out BK148.out (by decide)) (fun _ hk => hk.2) (.int .i64 t143)) (fun _ hk => hk.2) (.slice Ao18 t144.length co18)) (fun _ hk => hk.2) (.int .i64 t147)) (fun _ h_ => h_.1))) hb); have n1_ := Aside0.mk (blk_below (g := gb140) (o := .cells #[.int .i64 a0_0, .int .i64 a0_1, .int .i64 a0_2, .int .i64 a0_3, .int .i64 a0_4, .int .i64 a0_5, .int .i64 a0_6, .int .i64 a0_7, .int .i64 a0_8, .int .i64 a0_9, .int .i64 a0_10, .int .i64 a0_11, .int .i64 a0_12, .int .i64 a0_13] 31 (0, 0)) (by refine bl_ ?_; refine blk_far ?_ NB140_148.out _; refine bl_ ?_; refine blk_far ?_ NB140_148.out _; refine bl_ ?_; refine blk_far ?_ NB140_148.out _; refine bl_ ?_; exact BK140.out) hb); have n2_ := Aside0.mk (blk_below (g := gb141) (o := .cells #[.int .i64 a1_0, .slice A1_1 l1_1.length c1_1, .int .i64 a1_2] 28 (0, 0)) (by refine bl_ ?_; refine blk_far ?_ NB141_148.out _; refine bl_ ?_; refine blk_far ?_ NB141_148.out _; refine bl_ ?_; refine blk_far ?_ NB141_148.out _; refine bl_ ?_; exact BK141.out) hb); have n3_ := Aside0.mk (blk_below (g := gb142) (o := .cells #[.int .i64 0, .slice none 0 0, .int .i64 0] 28 (0, 0)) (by refine bl_ ?_; refine blk_far ?_ NB142_148.out _; refine bl_ ?_; refine blk_far ?_ NB142_148.out _; refine bl_ ?_; refine blk_far ?_ NB142_148.out _; refine bl_ ?_; exact BK142.out) hb); have n4_ := Aside0.mk (blk_below (g := gb148) (o := .cells #[.int .i64 t143, .slice Ao18 t144.length co18, .int .i64 t147] 28 (0, 0)) (by refine bl_ ?_; refine blk_put (cs := #[.int .i64 t143, .slice Ao18 t144.length co18, .int .i64 0]) ?_ 2 _ rfl; refine bl_ ?_; refine blk_put (cs := #[.int .i64 t143, .slice none 0 0, .int .i64 0]) ?_ 1 _ rfl; refine bl_ ?_; refine blk_put (cs := #[.int .i64 0, .slice none 0 0, .int .i64 0]) ?_ 0 _ rfl; refine bl_ ?_; exact BK148.out) hb); have n5_ := Aside0.mk (below_step (be_ HB.out) hb); clear HO146 BK140 BK141 BK142 BK148 HB; have HO146 := n0_; have BK140 := n1_; have BK141 := n2_; have BK142 := n3_; have BK148 := n4_; have HB := n5_; clear n0_ n1_ n2_ n3_ n4_ n5_; (try clear hb); (try clear hb2); (try clear hk); (try clear hi); have hnb63 := NB141_142.out; have hnc63 := NB142_141.out; have hnb64 := NB141_148.out; have hnc64 := NB148_141.out; obtain ⟨hcz65_0, hcz65_1, hcz65_2, hfz65_0, hfz65_1, hfz65_2⟩ := cz3_ BK141.out) | (go_at_call 15; (with_reducible refine (spec_BreakerOk.calls k a1_0 _ _ l1_1 a1_2 false _ ?side1 ?side2 A21.out).mono ?_); (case side1 => repeat (first | exact (Kd.C_below HR1_1.out HB.out) | (with_reducible refine Kd.C_alloc ?_ _) | (with_reducible refine Kd.C_drewN ?_ _) | (with_reducible refine Kd.C_drew ?_))); (case side2 => exact HC1_1.out); rintro e w66 ⟨rfl, hb⟩; have n0_ := Aside0.mk (Kd.R_below (ro_ HO146.out) hb); have n1_ := Aside0.mk (blk_below (bl_ BK140.out) hb); have n2_ := Aside0.mk (blk_below (bl_ BK141.out) hb); have n3_ := Aside0.mk (blk_below (bl_ BK142.out) hb); have n4_ := Aside0.mk (blk_below (bl_ BK148.out) hb); have n5_ := Aside0.mk (below_step (be_ HB.out) hb); clear HO146 BK140 BK141 BK142 BK148 HB; have HO146 := n0_; have BK140 := n1_; have BK141 := n2_; have BK142 := n3_; have BK148 := n4_; have HB := n5_; clear n0_ n1_ n2_ n3_ n4_ n5_; (try clear hb); (try clear hb2); (try clear hk); (try clear hi))))
   go_meet
   case rel => exact ⟨_, (true), (by first | rfl | (simp; done) | (simp [*]; done)), H', ⟨by first | omega | exact Nat.le_refl _⟩, ⟨by (with_reducible repeat (first | apply Kd.R_alloc | apply Kd.R_drewN | apply Kd.R_drew)); exact HO146.out⟩, ⟨by refine bl_ ?_; exact BK140.out⟩, ⟨by refine bl_ ?_; exact BK141.out⟩, ⟨by refine bl_ ?_; exact BK142.out⟩, ⟨by refine bl_ ?_; exact BK148.out⟩, ⟨be_ HB.out⟩⟩
  replace c20 := Bool.eq_false_iff.mpr c20
  subst c20
  have H1 : (spec_OnFailure.j0 k a2 true a0_0 a0_1 a0_2 a0_3 a0_4 a0_5 a0_6 a0_7 a0_8 a0_9 a0_10 a0_11 a0_12 a0_13 a1_0 l1_1 a1_2 t143 t144 t147) = some (r1, r2, r3, r4) := by rw [if_neg (show ¬ (false = true) by decide)] at H; exact H
  clear H
  have H := H1
  clear H1
  have H' := Aside0.mk H
  clear H
  have hnb67 := NB140_141.out
  have hnc67 := NB141_140.out
  have hnb68 := NB140_142.out
  have hnc68 := NB142_140.out
  have hnb69 := NB140_148.out
  have hnc69 := NB148_140.out
  obtain ⟨hcz70_0, hcz70_1, hcz70_2, hcz70_3, hcz70_4, hcz70_5, hcz70_6, hcz70_7, hcz70_8, hcz70_9, hcz70_10, hcz70_11, hcz70_12, hcz70_13, hfz70_0, hfz70_1, hfz70_2, hfz70_3, hfz70_4, hfz70_5, hfz70_6, hfz70_7, hfz70_8, hfz70_9, hfz70_10, hfz70_11, hfz70_12, hfz70_13⟩ := cz14_ BK140.out
  go_wp2_with (first | (go_at_call 14; (with_reducible refine (spec_ConfigOk.calls k a0_0 a0_1 a0_2 a0_3 a0_4 a0_5 a0_6 a0_7 a0_8 a0_9 a0_10 a0_11 a0_12 a0_13 false _ A19.out).mono ?_); rintro e w71 ⟨rfl, hb⟩; have n0_ := Aside0.mk (Kd.R_below (by (with_reducible repeat (first | apply Kd.R_alloc | apply Kd.R_drewN | apply Kd.R_drew)); exact (Kd.R_mono (Kd.R_far (p := ⟨gb148, 2, none⟩) (Kd.R_far (p := ⟨gb148, 1, none⟩) (Kd.R_far (p := ⟨gb148, 0, none⟩) (Kd.R_types HO146.out BK148.out (by decide)) (fun _ hk => hk.2) (.int .i64 t143)) (fun _ hk => hk.2) (.slice Ao18 t144.length co18)) (fun _ hk => hk.2) (.int .i64 t147)) (fun _ h_ => h_.1))) hb); have n1_ := Aside0.mk (blk_below (g := gb140) (o := .cells #[.int .i64 a0_0, .int .i64 a0_1, .int .i64 a0_2, .int .i64 a0_3, .int .i64 a0_4, .int .i64 a0_5, .int .i64 a0_6, .int .i64 a0_7, .int .i64 a0_8, .int .i64 a0_9, .int .i64 a0_10, .int .i64 a0_11, .int .i64 a0_12, .int .i64 a0_13] 31 (0, 0)) (by refine bl_ ?_; refine blk_far ?_ NB140_148.out _; refine bl_ ?_; refine blk_far ?_ NB140_148.out _; refine bl_ ?_; refine blk_far ?_ NB140_148.out _; refine bl_ ?_; exact BK140.out) hb); have n2_ := Aside0.mk (blk_below (g := gb141) (o := .cells #[.int .i64 a1_0, .slice A1_1 l1_1.length c1_1, .int .i64 a1_2] 28 (0, 0)) (by refine bl_ ?_; refine blk_far ?_ NB141_148.out _; refine bl_ ?_; refine blk_far ?_ NB141_148.out _; refine bl_ ?_; refine blk_far ?_ NB141_148.out _; refine bl_ ?_; exact BK141.out) hb); have n3_ := Aside0.mk (blk_below (g := gb142) (o := .cells #[.int .i64 0, .slice none 0 0, .int .i64 0] 28 (0, 0)) (by refine bl_ ?_; refine blk_far ?_ NB142_148.out _; refine bl_ ?_; refine blk_far ?_ NB142_148.out _; refine bl_ ?_; refine blk_far ?_ NB142_148.out _; refine bl_ ?_; exact BK142.out) hb); have n4_ := Aside0.mk (blk_below (g := gb148) (o := .cells #[.int .i64 t143, .slice Ao18 t144.length co18, .int .i64 t147] 28 (0, 0)) (by refine bl_ ?_; refine blk_put (cs := #[.int .i64 t143, .slice Ao18 t144.length co18, .int .i64 0]) ?_ 2 _ rfl; refine bl_ ?_; refine blk_put (cs := #[.int .i64 t143, .slice none 0 0, .int .i64 0]) ?_ 1 _ rfl; refine bl_ ?_; refine blk_put (cs := #[.int .i64 0, .slice none 0 0, .int .i64 0]) ?_ 0 _ rfl; refine bl_ ?_; exact BK148.out) hb); have n5_ := Aside0.mk (below_step (be_ HB.out) hb); clear HO146 BK140 BK141 BK142 BK148 HB; have HO146 := n0_; have BK140 := n1_; have BK141 := n2_; have BK142 := n3_; have BK148 := n4_; have HB := n5_; clear n0_ n1_ n2_ n3_ n4_ n5_; (try clear hb); (try clear hb2); (try clear hk); (try clear hi)))
  repeat (go_quiet (first | (go_at_call 14; (with_reducible refine (spec_ConfigOk.calls k a0_0 a0_1 a0_2 a0_3 a0_4 a0_5 a0_6 a0_7 a0_8 a0_9 a0_10 a0_11 a0_12 a0_13 false _ A19.out).mono ?_); rintro e w71 ⟨rfl, hb⟩; have n0_ := Aside0.mk (Kd.R_below (by (with_reducible repeat (first | apply Kd.R_alloc | apply Kd.R_drewN | apply Kd.R_drew)); exact (Kd.R_mono (Kd.R_far (p := ⟨gb148, 2, none⟩) (Kd.R_far (p := ⟨gb148, 1, none⟩) (Kd.R_far (p := ⟨gb148, 0, none⟩) (Kd.R_types HO146.out BK148.out (by decide)) (fun _ hk => hk.2) (.int .i64 t143)) (fun _ hk => hk.2) (.slice Ao18 t144.length co18)) (fun _ hk => hk.2) (.int .i64 t147)) (fun _ h_ => h_.1))) hb); have n1_ := Aside0.mk (blk_below (g := gb140) (o := .cells #[.int .i64 a0_0, .int .i64 a0_1, .int .i64 a0_2, .int .i64 a0_3, .int .i64 a0_4, .int .i64 a0_5, .int .i64 a0_6, .int .i64 a0_7, .int .i64 a0_8, .int .i64 a0_9, .int .i64 a0_10, .int .i64 a0_11, .int .i64 a0_12, .int .i64 a0_13] 31 (0, 0)) (by refine bl_ ?_; refine blk_far ?_ NB140_148.out _; refine bl_ ?_; refine blk_far ?_ NB140_148.out _; refine bl_ ?_; refine blk_far ?_ NB140_148.out _; refine bl_ ?_; exact BK140.out) hb); have n2_ := Aside0.mk (blk_below (g := gb141) (o := .cells #[.int .i64 a1_0, .slice A1_1 l1_1.length c1_1, .int .i64 a1_2] 28 (0, 0)) (by refine bl_ ?_; refine blk_far ?_ NB141_148.out _; refine bl_ ?_; refine blk_far ?_ NB141_148.out _; refine bl_ ?_; refine blk_far ?_ NB141_148.out _; refine bl_ ?_; exact BK141.out) hb); have n3_ := Aside0.mk (blk_below (g := gb142) (o := .cells #[.int .i64 0, .slice none 0 0, .int .i64 0] 28 (0, 0)) (by refine bl_ ?_; refine blk_far ?_ NB142_148.out _; refine bl_ ?_; refine blk_far ?_ NB142_148.out _; refine bl_ ?_; refine blk_far ?_ NB142_148.out _; refine bl_ ?_; exact BK142.out) hb); have n4_ := Aside0.mk (blk_below (g := gb148) (o := .cells #[.int .i64 t143, .slice Ao18 t144.length co18, .int .i64 t147] 28 (0, 0)) (by refine bl_ ?_; refine blk_put (cs := #[.int .i64 t143, .slice Ao18 t144.length co18, .int .i64 0]) ?_ 2 _ rfl; refine bl_ ?_; refine blk_put (cs := #[.int .i64 t143, .slice none 0 0, .int .i64 0]) ?_ 1 _ rfl; refine bl_ ?_; refine blk_put (cs := #[.int .i64 0, .slice none 0 0, .int .i64 0]) ?_ 0 _ rfl; refine bl_ ?_; exact BK148.out) hb); have n5_ := Aside0.mk (below_step (be_ HB.out) hb); clear HO146 BK140 BK141 BK142 BK148 HB; have HO146 := n0_; have BK140 := n1_; have BK141 := n2_; have BK142 := n3_; have BK148 := n4_; have HB := n5_; clear n0_ n1_ n2_ n3_ n4_ n5_; (try clear hb); (try clear hb2); (try clear hk); (try clear hi))); try go_wp2_with (first | (go_at_call 14; (with_reducible refine (spec_ConfigOk.calls k a0_0 a0_1 a0_2 a0_3 a0_4 a0_5 a0_6 a0_7 a0_8 a0_9 a0_10 a0_11 a0_12 a0_13 false _ A19.out).mono ?_); rintro e w71 ⟨rfl, hb⟩; have n0_ := Aside0.mk (Kd.R_below (by (with_reducible repeat (first | apply Kd.R_alloc | apply Kd.R_drewN | apply Kd.R_drew)); exact (Kd.R_mono (Kd.R_far (p := ⟨gb148, 2, none⟩) (Kd.R_far (p := ⟨gb148, 1, none⟩) (Kd.R_far (p := ⟨gb148, 0, none⟩) (Kd.R_types HO146.out BK148.out (by decide)) (fun _ hk => hk.2) (.int .i64 t143)) (fun _ hk => hk.2) (.slice Ao18 t144.length co18)) (fun _ hk => hk.2) (.int .i64 t147)) (fun _ h_ => h_.1))) hb); have n1_ := Aside0.mk (blk_below (g := gb140) (o := .cells #[.int .i64 a0_0, .int .i64 a0_1, .int .i64 a0_2, .int .i64 a0_3, .int .i64 a0_4, .int .i64 a0_5, .int .i64 a0_6, .int .i64 a0_7, .int .i64 a0_8, .int .i64 a0_9, .int .i64 a0_10, .int .i64 a0_11, .int .i64 a0_12, .int .i64 a0_13] 31 (0, 0)) (by refine bl_ ?_; refine blk_far ?_ NB140_148.out _; refine bl_ ?_; refine blk_far ?_ NB140_148.out _; refine bl_ ?_; refine blk_far ?_ NB140_148.out _; refine bl_ ?_; exact BK140.out) hb); have n2_ := Aside0.mk (blk_below (g := gb141) (o := .cells #[.int .i64 a1_0, .slice A1_1 l1_1.length c1_1, .int .i64 a1_2] 28 (0, 0)) (by refine bl_ ?_; refine blk_far ?_ NB141_148.out _; refine bl_ ?_; refine blk_far ?_ NB141_148.out _; refine bl_ ?_; refine blk_far ?_ NB141_148.out _; refine bl_ ?_; exact BK141.out) hb); have n3_ := Aside0.mk (blk_below (g := gb142) (o := .cells #[.int .i64 0, .slice none 0 0, .int .i64 0] 28 (0, 0)) (by refine bl_ ?_; refine blk_far ?_ NB142_148.out _; refine bl_ ?_; refine blk_far ?_ NB142_148.out _; refine bl_ ?_; refine blk_far ?_ NB142_148.out _; refine bl_ ?_; exact BK142.out) hb); have n4_ := Aside0.mk (blk_below (g := gb148) (o := .cells #[.int .i64 t143, .slice Ao18 t144.length co18, .int .i64 t147] 28 (0, 0)) (by refine bl_ ?_; refine blk_put (cs := #[.int .i64 t143, .slice Ao18 t144.length co18, .int .i64 0]) ?_ 2 _ rfl; refine bl_ ?_; refine blk_put (cs := #[.int .i64 t143, .slice none 0 0, .int .i64 0]) ?_ 1 _ rfl; refine bl_ ?_; refine blk_put (cs := #[.int .i64 0, .slice none 0 0, .int .i64 0]) ?_ 0 _ rfl; refine bl_ ?_; exact BK148.out) hb); have n5_ := Aside0.mk (below_step (be_ HB.out) hb); clear HO146 BK140 BK141 BK142 BK148 HB; have HO146 := n0_; have BK140 := n1_; have BK141 := n2_; have BK142 := n3_; have BK148 := n4_; have HB := n5_; clear n0_ n1_ n2_ n3_ n4_ n5_; (try clear hb); (try clear hb2); (try clear hk); (try clear hi))))
  go_meet
  case rel => exact ⟨_, (true), (by first | rfl | (simp; done) | (simp [*]; done)), H', ⟨by first | omega | exact Nat.le_refl _⟩, ⟨by (with_reducible repeat (first | apply Kd.R_alloc | apply Kd.R_drewN | apply Kd.R_drew)); exact HO146.out⟩, ⟨by refine bl_ ?_; exact BK140.out⟩, ⟨by refine bl_ ?_; exact BK141.out⟩, ⟨by refine bl_ ?_; exact BK142.out⟩, ⟨by refine bl_ ?_; exact BK148.out⟩, ⟨be_ HB.out⟩⟩
 case rest =>
  clear HC5
  try clear c1
  try clear p1
  try clear q1
  try clear hx1
  try clear c2
  try clear p2
  try clear c3
  try clear c4
  try clear c5
  try clear c6
  try clear p6
  try clear c9
  try clear c10
  try clear c14
  try clear c15
  try clear p15
  try clear q15
  try clear hx15
  try clear c16
  try clear c20
  try clear c22
  try clear c24
  try clear c25
  try clear c25b0
  try clear c25b1
  try clear c27
  try clear c27b0
  try clear c28
  try clear c28b0
  try clear c29
  try clear c30
  try clear c31
  try clear c34
  try clear c35
  try clear c39
  try clear c40
  try clear c41
  try clear c44
  try clear c45
  try clear c49
  try clear c50
  try clear c51
  try clear c54
  try clear c55
  try clear c58
  try clear c59
  try clear c60
  try clear c63
  try clear c64
  try clear p64
  try clear c67
  try clear c68
  try clear c69
  try clear hcz11_0
  try clear hcz11_1
  try clear hcz11_2
  try clear hcz17_0
  try clear hcz17_1
  try clear hcz17_2
  try clear hcz32_0
  try clear hcz32_1
  try clear hcz32_10
  try clear hcz32_11
  try clear hcz32_12
  try clear hcz32_13
  try clear hcz32_2
  try clear hcz32_3
  try clear hcz32_4
  try clear hcz32_5
  try clear hcz32_6
  try clear hcz32_7
  try clear hcz32_8
  try clear hcz32_9
  try clear hcz36_0
  try clear hcz36_1
  try clear hcz36_2
  try clear hcz38_0
  try clear hcz38_1
  try clear hcz38_2
  try clear hcz42_0
  try clear hcz42_1
  try clear hcz42_10
  try clear hcz42_11
  try clear hcz42_12
  try clear hcz42_13
  try clear hcz42_2
  try clear hcz42_3
  try clear hcz42_4
  try clear hcz42_5
  try clear hcz42_6
  try clear hcz42_7
  try clear hcz42_8
  try clear hcz42_9
  try clear hcz46_0
  try clear hcz46_1
  try clear hcz46_2
  try clear hcz48_0
  try clear hcz48_1
  try clear hcz48_2
  try clear hcz52_0
  try clear hcz52_1
  try clear hcz52_10
  try clear hcz52_11
  try clear hcz52_12
  try clear hcz52_13
  try clear hcz52_2
  try clear hcz52_3
  try clear hcz52_4
  try clear hcz52_5
  try clear hcz52_6
  try clear hcz52_7
  try clear hcz52_8
  try clear hcz52_9
  try clear hcz56_0
  try clear hcz56_1
  try clear hcz56_2
  try clear hcz61_0
  try clear hcz61_1
  try clear hcz61_10
  try clear hcz61_11
  try clear hcz61_12
  try clear hcz61_13
  try clear hcz61_2
  try clear hcz61_3
  try clear hcz61_4
  try clear hcz61_5
  try clear hcz61_6
  try clear hcz61_7
  try clear hcz61_8
  try clear hcz61_9
  try clear hcz65_0
  try clear hcz65_1
  try clear hcz65_2
  try clear hcz70_0
  try clear hcz70_1
  try clear hcz70_10
  try clear hcz70_11
  try clear hcz70_12
  try clear hcz70_13
  try clear hcz70_2
  try clear hcz70_3
  try clear hcz70_4
  try clear hcz70_5
  try clear hcz70_6
  try clear hcz70_7
  try clear hcz70_8
  try clear hcz70_9
  try clear hfz11_0
  try clear hfz11_1
  try clear hfz11_2
  try clear hfz17_0
  try clear hfz17_1
  try clear hfz17_2
  try clear hfz32_0
  try clear hfz32_1
  try clear hfz32_10
  try clear hfz32_11
  try clear hfz32_12
  try clear hfz32_13
  try clear hfz32_2
  try clear hfz32_3
  try clear hfz32_4
  try clear hfz32_5
  try clear hfz32_6
  try clear hfz32_7
  try clear hfz32_8
  try clear hfz32_9
  try clear hfz36_0
  try clear hfz36_1
  try clear hfz36_2
  try clear hfz38_0
  try clear hfz38_1
  try clear hfz38_2
  try clear hfz42_0
  try clear hfz42_1
  try clear hfz42_10
  try clear hfz42_11
  try clear hfz42_12
  try clear hfz42_13
  try clear hfz42_2
  try clear hfz42_3
  try clear hfz42_4
  try clear hfz42_5
  try clear hfz42_6
  try clear hfz42_7
  try clear hfz42_8
  try clear hfz42_9
  try clear hfz46_0
  try clear hfz46_1
  try clear hfz46_2
  try clear hfz48_0
  try clear hfz48_1
  try clear hfz48_2
  try clear hfz52_0
  try clear hfz52_1
  try clear hfz52_10
  try clear hfz52_11
  try clear hfz52_12
  try clear hfz52_13
  try clear hfz52_2
  try clear hfz52_3
  try clear hfz52_4
  try clear hfz52_5
  try clear hfz52_6
  try clear hfz52_7
  try clear hfz52_8
  try clear hfz52_9
  try clear hfz56_0
  try clear hfz56_1
  try clear hfz56_2
  try clear hfz61_0
  try clear hfz61_1
  try clear hfz61_10
  try clear hfz61_11
  try clear hfz61_12
  try clear hfz61_13
  try clear hfz61_2
  try clear hfz61_3
  try clear hfz61_4
  try clear hfz61_5
  try clear hfz61_6
  try clear hfz61_7
  try clear hfz61_8
  try clear hfz61_9
  try clear hfz65_0
  try clear hfz65_1
  try clear hfz65_2
  try clear hfz70_0
  try clear hfz70_1
  try clear hfz70_10
  try clear hfz70_11
  try clear hfz70_12
  try clear hfz70_13
  try clear hfz70_2
  try clear hfz70_3
  try clear hfz70_4
  try clear hfz70_5
  try clear hfz70_6
  try clear hfz70_7
  try clear hfz70_8
  try clear hfz70_9
  try clear hx152_0
  try clear p152
  try clear q152
  obtain ⟨kq, x43_4, rfl, HA, HJ4, HO_149001, BK140, BK141, BK142, BK148, HB⟩ := hcut
  cases kq with
  | zero => exact absurd HA.out (by simp [spec_OnFailure.j0])
  | succ kj4 =>
   have H := HA.out
   clear HA
   simp only [spec_OnFailure.j0] at H
   by_cases c72 : x43_4 = true
   ·
    subst c72
    have H1 : (some (t143, t144, t147, false)) = some (r1, r2, r3, r4) := by rw [if_pos rfl] at H; exact H
    clear H
    have H := H1
    clear H1
    simp only [Option.some.injEq, Prod.mk.injEq] at H
    obtain ⟨rfl, rfl, rfl, rfl⟩ := H
    have hnb73 := NB148_140.out
    have hnc73 := NB140_148.out
    have hnb74 := NB148_141.out
    have hnc74 := NB141_148.out
    have hnb75 := NB148_142.out
    have hnc75 := NB142_148.out
    obtain ⟨hcz76_0, hcz76_1, hcz76_2, hfz76_0, hfz76_1, hfz76_2⟩ := cz3_ BK148.out
    have hnb77 := NB142_140.out
    have hnc77 := NB140_142.out
    have hnb78 := NB142_141.out
    have hnc78 := NB141_142.out
    obtain ⟨hcz79_0, hcz79_1, hcz79_2, hfz79_0, hfz79_1, hfz79_2⟩ := cz3_ BK142.out
    go_wp2
    repeat (go_quiet (fail); try go_wp2)
    refine bodyPost_ret (results_ct rfl _ _ gb142 28 #[.int .i64 t143, .slice Ao18 t144.length co18, .int .i64 t147] (0, 0) _ rfl (by refine bl_ ?_; refine blk_put (cs := #[.int .i64 t143, .slice Ao18 t144.length co18, .int .i64 0]) ?_ 2 _ rfl; refine bl_ ?_; refine blk_put (cs := #[.int .i64 t143, .slice none 0 0, .int .i64 0]) ?_ 1 _ rfl; refine bl_ ?_; refine blk_put (cs := #[.int .i64 0, .slice none 0 0, .int .i64 0]) ?_ 0 _ rfl; refine bl_ ?_; exact BK142.out) Try.underlying28 rfl (by kernel_rfl)) rfl ?_
    exact ⟨_, by first | rfl | (simp [errW_none, errW_some] <;> rfl) | (simp [*, errW_none, errW_some] <;> rfl), by (with_reducible repeat (first | apply Kd.R_alloc | apply Kd.R_drewN | apply Kd.R_drew)); exact Kd.R_mono (Kd.R_far (p := ⟨gb142, 2, none⟩) (Kd.R_far (p := ⟨gb142, 1, none⟩) (Kd.R_far (p := ⟨gb142, 0, none⟩) (Kd.R_types HO_149001.out BK142.out (by decide)) (fun _ hk => hk.2) (.int .i64 t143)) (fun _ hk => hk.2) (.slice Ao18 t144.length co18)) (fun _ hk => hk.2) (.int .i64 t147)) (fun _ hk => trivial), be_ HB.out⟩
   replace c72 := Bool.eq_false_iff.mpr c72
   subst c72
   have H1 : (if a1_0 = 2 then ((spec_AddTick.f kj4 a2 a0_12).bind fun t153 => (some (1, ([] : List Int), t153, true))) else (if a1_0 = 1 then (some (t143, t144, t147, true)) else (spec_OnFailure.l0 kj4 a2 (([] : List Int)) 0 a0_0 a0_1 a0_2 a0_3 a0_4 a0_5 a0_6 a0_7 a0_8 a0_9 a0_10 a0_11 a0_12 a0_13 a1_0 l1_1 a1_2 t143 t144 t147))) = some (r1, r2, r3, r4) := by rw [if_neg (show ¬ (false = true) by decide)] at H; exact H
   clear H
   have H := H1
   clear H1
   by_cases c80 : a1_0 = 2
   ·
    rw [if_pos c80] at H
    have c80b0 : (a1_0 == 2) = true := beq_iff_eq.mpr c80
    have c80b1 : (a1_0 != 2) = false := bne_eq_false_iff_eq.mpr c80
    clear c80
    replace H := Option.bind_eq_some_iff.mp H
    obtain ⟨t153, A810, H⟩ := H
    replace H : (some (1, ([] : List Int), t153, true)) = some (r1, r2, r3, r4) := H
    have A81 := Aside0.mk A810
    clear A810
    simp only [Option.some.injEq, Prod.mk.injEq] at H
    obtain ⟨rfl, rfl, rfl, rfl⟩ := H
    have hnb82 := NB141_140.out
    have hnc82 := NB140_141.out
    have hnb83 := NB141_142.out
    have hnc83 := NB142_141.out
    have hnb84 := NB141_148.out
    have hnc84 := NB148_141.out
    obtain ⟨hcz85_0, hcz85_1, hcz85_2, hfz85_0, hfz85_1, hfz85_2⟩ := cz3_ BK141.out
    have hnb86 := NB140_142.out
    have hnc86 := NB142_140.out
    have hnb87 := NB140_148.out
    have hnc87 := NB148_140.out
    obtain ⟨hcz88_0, hcz88_1, hcz88_2, hcz88_3, hcz88_4, hcz88_5, hcz88_6, hcz88_7, hcz88_8, hcz88_9, hcz88_10, hcz88_11, hcz88_12, hcz88_13, hfz88_0, hfz88_1, hfz88_2, hfz88_3, hfz88_4, hfz88_5, hfz88_6, hfz88_7, hfz88_8, hfz88_9, hfz88_10, hfz88_11, hfz88_12, hfz88_13⟩ := cz14_ BK140.out
    go_wp2_with (first | (go_at_call 17; (with_reducible refine (spec_AddTick.calls kj4 a2 a0_12 t153 _ A81.out).mono ?_); rintro e w' ⟨rfl, ⟨nd, rfl⟩⟩; (try first | exact ⟨rfl, _, World.drewN_drewN _ _ _⟩ | exact ⟨rfl, _, Eq.trans (World.drewN_drewN _ _ _) (congrArg (World.drewN _) (Nat.add_assoc _ _ _))⟩); have hnb89 := NB142_148.out; have hnc89 := NB148_142.out; obtain ⟨hcz90_0, hcz90_1, hcz90_2, hfz90_0, hfz90_1, hfz90_2⟩ := cz3_ BK142.out))
    repeat (go_quiet (first | (go_at_call 17; (with_reducible refine (spec_AddTick.calls kj4 a2 a0_12 t153 _ A81.out).mono ?_); rintro e w' ⟨rfl, ⟨nd, rfl⟩⟩; (try first | exact ⟨rfl, _, World.drewN_drewN _ _ _⟩ | exact ⟨rfl, _, Eq.trans (World.drewN_drewN _ _ _) (congrArg (World.drewN _) (Nat.add_assoc _ _ _))⟩); have hnb89 := NB142_148.out; have hnc89 := NB148_142.out; obtain ⟨hcz90_0, hcz90_1, hcz90_2, hfz90_0, hfz90_1, hfz90_2⟩ := cz3_ BK142.out)); try go_wp2_with (first | (go_at_call 17; (with_reducible refine (spec_AddTick.calls kj4 a2 a0_12 t153 _ A81.out).mono ?_); rintro e w' ⟨rfl, ⟨nd, rfl⟩⟩; (try first | exact ⟨rfl, _, World.drewN_drewN _ _ _⟩ | exact ⟨rfl, _, Eq.trans (World.drewN_drewN _ _ _) (congrArg (World.drewN _) (Nat.add_assoc _ _ _))⟩); have hnb89 := NB142_148.out; have hnc89 := NB148_142.out; obtain ⟨hcz90_0, hcz90_1, hcz90_2, hfz90_0, hfz90_1, hfz90_2⟩ := cz3_ BK142.out)))
    refine bodyPost_ret (results_ct rfl _ _ gb142 28 #[.int .i64 1, .slice none 0 0, .int .i64 t153] (0, 0) _ rfl (by refine bl_ ?_; refine blk_put (cs := #[.int .i64 1, .slice none 0 0, .int .i64 0]) ?_ 2 _ rfl; refine bl_ ?_; refine blk_put (cs := #[.int .i64 1, .slice none 0 0, .int .i64 0]) ?_ 1 _ rfl; refine bl_ ?_; refine blk_put (cs := #[.int .i64 0, .slice none 0 0, .int .i64 0]) ?_ 0 _ rfl; refine bl_ ?_; exact BK142.out) Try.underlying28 rfl (by kernel_rfl)) rfl ?_
    exact ⟨_, by first | rfl | (simp [errW_none, errW_some] <;> rfl) | (simp [*, errW_none, errW_some] <;> rfl), by first | exact Kd.R_nil _ _ _ _ _ | exact Kd.N_nil _ _ _ _ _ | exact Kd.V_nil _ _ _ _ _ | exact Kd.Q_nil _ _ _ _ _ | exact Kd.S_nil _ _ _ _ _, be_ HB.out⟩
   rw [if_neg c80] at H
   have c80b0 : (a1_0 == 2) = false := beq_eq_false_iff_ne.mpr c80
   have c80b1 : (a1_0 != 2) = true := bne_iff_ne.mpr c80
   by_cases c91 : a1_0 = 1
   ·
    rw [if_pos c91] at H
    have c91b0 : (a1_0 == 1) = true := beq_iff_eq.mpr c91
    have c91b1 : (a1_0 != 1) = false := bne_eq_false_iff_eq.mpr c91
    clear c91
    simp only [Option.some.injEq, Prod.mk.injEq] at H
    obtain ⟨rfl, rfl, rfl, rfl⟩ := H
    have hnb92 := NB141_140.out
    have hnc92 := NB140_141.out
    have hnb93 := NB141_142.out
    have hnc93 := NB142_141.out
    have hnb94 := NB141_148.out
    have hnc94 := NB148_141.out
    obtain ⟨hcz95_0, hcz95_1, hcz95_2, hfz95_0, hfz95_1, hfz95_2⟩ := cz3_ BK141.out
    have hnb96 := NB148_140.out
    have hnc96 := NB140_148.out
    have hnb97 := NB148_142.out
    have hnc97 := NB142_148.out
    obtain ⟨hcz98_0, hcz98_1, hcz98_2, hfz98_0, hfz98_1, hfz98_2⟩ := cz3_ BK148.out
    have hnb99 := NB142_140.out
    have hnc99 := NB140_142.out
    obtain ⟨hcz100_0, hcz100_1, hcz100_2, hfz100_0, hfz100_1, hfz100_2⟩ := cz3_ BK142.out
    go_wp2
    repeat (go_quiet (fail); try go_wp2)
    refine bodyPost_ret (results_ct rfl _ _ gb142 28 #[.int .i64 t143, .slice Ao18 t144.length co18, .int .i64 t147] (0, 0) _ rfl (by refine bl_ ?_; refine blk_put (cs := #[.int .i64 t143, .slice Ao18 t144.length co18, .int .i64 0]) ?_ 2 _ rfl; refine bl_ ?_; refine blk_put (cs := #[.int .i64 t143, .slice none 0 0, .int .i64 0]) ?_ 1 _ rfl; refine bl_ ?_; refine blk_put (cs := #[.int .i64 0, .slice none 0 0, .int .i64 0]) ?_ 0 _ rfl; refine bl_ ?_; exact BK142.out) Try.underlying28 rfl (by kernel_rfl)) rfl ?_
    exact ⟨_, by first | rfl | (simp [errW_none, errW_some] <;> rfl) | (simp [*, errW_none, errW_some] <;> rfl), by (with_reducible repeat (first | apply Kd.R_alloc | apply Kd.R_drewN | apply Kd.R_drew)); exact Kd.R_mono (Kd.R_far (p := ⟨gb142, 2, none⟩) (Kd.R_far (p := ⟨gb142, 1, none⟩) (Kd.R_far (p := ⟨gb142, 0, none⟩) (Kd.R_types HO_149001.out BK142.out (by decide)) (fun _ hk => hk.2) (.int .i64 t143)) (fun _ hk => hk.2) (.slice Ao18 t144.length co18)) (fun _ hk => hk.2) (.int .i64 t147)) (fun _ hk => trivial), be_ HB.out⟩
   rw [if_neg c91] at H
   have c91b0 : (a1_0 == 1) = false := beq_eq_false_iff_ne.mpr c91
   have c91b1 : (a1_0 != 1) = true := bne_iff_ne.mpr c91
   obtain ⟨y154, hy154⟩ : ∃ y_ : List Int, y_ = (([] : List Int)) := ⟨_, rfl⟩
   replace H : (spec_OnFailure.l0 kj4 a2 y154 0 a0_0 a0_1 a0_2 a0_3 a0_4 a0_5 a0_6 a0_7 a0_8 a0_9 a0_10 a0_11 a0_12 a0_13 a1_0 l1_1 a1_2 t143 t144 t147) = some (r1, r2, r3, r4) := by first | (rw [hy154]; with_reducible exact H) | (have H2_ := (Option.bind_some _ _).symm.trans H; rw [hy154]; with_reducible exact H2_) | (have H2_ := (Option.bind_some _ _).symm.trans H; with_reducible exact H2_) | with_reducible exact H | (rw [hy154]; exact H) | exact H
   have Ny154 := Aside0.mk hy154
   clear hy154
   have H' := Aside0.mk H
   clear H
   have hnb101 := NB141_140.out
   have hnc101 := NB140_141.out
   have hnb102 := NB141_142.out
   have hnc102 := NB142_141.out
   have hnb103 := NB141_148.out
   have hnc103 := NB148_141.out
   obtain ⟨hcz104_0, hcz104_1, hcz104_2, hfz104_0, hfz104_1, hfz104_2⟩ := cz3_ BK141.out
   go_wp2_with (first | ((with_reducible refine gate_dst (N := 57) rfl ?_); (try (refine gate_guard (by rfl) ?_; dsimp only)); refine Kd.R_lit (Kd.int .i64) _ 3 ?hg (N := 57) ?hd (xs := ([] : List Int)) (inner := []) (ok := fun _ => True) (okp := fun _ => True) ?hr ?hp (fun _ hk => hk) trivial (Below.refl _ _) (Nat.le_refl _) (by simp) ?_; (case hd => rfl); (case hg => rfl); (case hr => first | (go_simp; done) | (go_simp; rfl)); (case hp => exact (Reps.none _ _)); intro v155 w105 ho106 hb hg_ hnew_; clear hg_ hnew_; (first | rw [← Ny154.out] at ho106 | (simp only [Int.reduceToNat] at ho106; rw [← Ny154.out] at ho106)); have n0_ := Aside0.mk (Kd.R_elder' (ro_ HO_149001.out) (Kd.R_base ho106) hb); have n1_ := Aside0.mk (Kd.R_lower (Kd.R_new' ho106 (Kd.R_lt (ro_ HO_149001.out))) (below_size (be_ HB.out))); have n2_ := Aside0.mk (blk_below (bl_ BK140.out) hb); have n3_ := Aside0.mk (blk_below (bl_ BK141.out) hb); have n4_ := Aside0.mk (blk_below (bl_ BK142.out) hb); have n5_ := Aside0.mk (blk_below (bl_ BK148.out) hb); have n6_ := Aside0.mk (below_step (be_ HB.out) hb); clear HO_149001 BK140 BK141 BK142 BK148 HB; have HO_149001 := n0_; have HO156 := n1_; have BK140 := n2_; have BK141 := n3_; have BK142 := n4_; have BK148 := n5_; have HB := n6_; clear n0_ n1_ n2_ n3_ n4_ n5_ n6_; clear hb ho106))
   repeat (go_quiet (first | ((with_reducible refine gate_dst (N := 57) rfl ?_); (try (refine gate_guard (by rfl) ?_; dsimp only)); refine Kd.R_lit (Kd.int .i64) _ 3 ?hg (N := 57) ?hd (xs := ([] : List Int)) (inner := []) (ok := fun _ => True) (okp := fun _ => True) ?hr ?hp (fun _ hk => hk) trivial (Below.refl _ _) (Nat.le_refl _) (by simp) ?_; (case hd => rfl); (case hg => rfl); (case hr => first | (go_simp; done) | (go_simp; rfl)); (case hp => exact (Reps.none _ _)); intro v155 w105 ho106 hb hg_ hnew_; clear hg_ hnew_; (first | rw [← Ny154.out] at ho106 | (simp only [Int.reduceToNat] at ho106; rw [← Ny154.out] at ho106)); have n0_ := Aside0.mk (Kd.R_elder' (ro_ HO_149001.out) (Kd.R_base ho106) hb); have n1_ := Aside0.mk (Kd.R_lower (Kd.R_new' ho106 (Kd.R_lt (ro_ HO_149001.out))) (below_size (be_ HB.out))); have n2_ := Aside0.mk (blk_below (bl_ BK140.out) hb); have n3_ := Aside0.mk (blk_below (bl_ BK141.out) hb); have n4_ := Aside0.mk (blk_below (bl_ BK142.out) hb); have n5_ := Aside0.mk (blk_below (bl_ BK148.out) hb); have n6_ := Aside0.mk (below_step (be_ HB.out) hb); clear HO_149001 BK140 BK141 BK142 BK148 HB; have HO_149001 := n0_; have HO156 := n1_; have BK140 := n2_; have BK141 := n3_; have BK142 := n4_; have BK148 := n5_; have HB := n6_; clear n0_ n1_ n2_ n3_ n4_ n5_ n6_; clear hb ho106)); try go_wp2_with (first | ((with_reducible refine gate_dst (N := 57) rfl ?_); (try (refine gate_guard (by rfl) ?_; dsimp only)); refine Kd.R_lit (Kd.int .i64) _ 3 ?hg (N := 57) ?hd (xs := ([] : List Int)) (inner := []) (ok := fun _ => True) (okp := fun _ => True) ?hr ?hp (fun _ hk => hk) trivial (Below.refl _ _) (Nat.le_refl _) (by simp) ?_; (case hd => rfl); (case hg => rfl); (case hr => first | (go_simp; done) | (go_simp; rfl)); (case hp => exact (Reps.none _ _)); intro v155 w105 ho106 hb hg_ hnew_; clear hg_ hnew_; (first | rw [← Ny154.out] at ho106 | (simp only [Int.reduceToNat] at ho106; rw [← Ny154.out] at ho106)); have n0_ := Aside0.mk (Kd.R_elder' (ro_ HO_149001.out) (Kd.R_base ho106) hb); have n1_ := Aside0.mk (Kd.R_lower (Kd.R_new' ho106 (Kd.R_lt (ro_ HO_149001.out))) (below_size (be_ HB.out))); have n2_ := Aside0.mk (blk_below (bl_ BK140.out) hb); have n3_ := Aside0.mk (blk_below (bl_ BK141.out) hb); have n4_ := Aside0.mk (blk_below (bl_ BK142.out) hb); have n5_ := Aside0.mk (blk_below (bl_ BK148.out) hb); have n6_ := Aside0.mk (below_step (be_ HB.out) hb); clear HO_149001 BK140 BK141 BK142 BK148 HB; have HO_149001 := n0_; have HO156 := n1_; have BK140 := n2_; have BK141 := n3_; have BK142 := n4_; have BK148 := n5_; have HB := n6_; clear n0_ n1_ n2_ n3_ n4_ n5_ n6_; clear hb ho106)))
   go_loopg [9, 10] kj4 (fun kq v9 zv10 w' => ∃ (x9_2 : List Int) (x10_2 : Int), zv10 = .int .i64 x10_2 ∧ Aside0 (spec_OnFailure.l0 kq a2 x9_2 x10_2 a0_0 a0_1 a0_2 a0_3 a0_4 a0_5 a0_6 a0_7 a0_8 a0_9 a0_10 a0_11 a0_12 a0_13 a1_0 l1_1 a1_2 t143 t144 t147 = some (r1, r2, r3, r4)) ∧ Aside0 (kq ≤ kj4) ∧ Aside0 (Kd.R (Kd.int .i64) 3 w' w.heap.size (fun k_ => some k_ ≠ ((.slice Ao18 t144.length co18) : Value).ownBlock) v9 x9_2) ∧ Aside0 (Kd.R (Kd.int .i64) 3 w' w.heap.size (fun k_ => some k_ ≠ (v9 : Value).ownBlock) (.slice Ao18 t144.length co18) t144) ∧ Aside0 (w'.heap[gb140]? = some (.cells #[.int .i64 a0_0, .int .i64 a0_1, .int .i64 a0_2, .int .i64 a0_3, .int .i64 a0_4, .int .i64 a0_5, .int .i64 a0_6, .int .i64 a0_7, .int .i64 a0_8, .int .i64 a0_9, .int .i64 a0_10, .int .i64 a0_11, .int .i64 a0_12, .int .i64 a0_13] 31 (0, 0))) ∧ Aside0 (w'.heap[gb141]? = some (.cells #[.int .i64 a1_0, (.slice A1_1 l1_1.length c1_1), .int .i64 a1_2] 28 (0, 0))) ∧ Aside0 (w'.heap[gb142]? = some (.cells #[.int .i64 0, (.slice none 0 0), .int .i64 0] 28 (0, 0))) ∧ Aside0 (w'.heap[gb148]? = some (.cells #[.int .i64 t143, (.slice Ao18 t144.length co18), .int .i64 t147] 28 (0, 0))) ∧ Aside0 (Below w.heap.size w w'))
   case atStart => exact ⟨(y154), (0), (by first | rfl | (simp; done) | (simp [*]; done)), H', ⟨Nat.le_refl _⟩, ⟨by (with_reducible repeat (first | apply Kd.R_alloc | apply Kd.R_drewN | apply Kd.R_drew)); exact Kd.R_mono HO156.out (fun _ hk => hk.2)⟩, ⟨by (with_reducible repeat (first | apply Kd.R_alloc | apply Kd.R_drewN | apply Kd.R_drew)); exact Kd.R_mono HO_149001.out (fun _ hk => hk.2)⟩, ⟨by refine bl_ ?_; exact BK140.out⟩, ⟨by refine bl_ ?_; exact BK141.out⟩, ⟨by refine bl_ ?_; exact BK142.out⟩, ⟨by refine bl_ ?_; exact BK148.out⟩, ⟨be_ HB.out⟩⟩
   case round =>
    clear H'
    try clear c1
    try clear p1
    try clear q1
    try clear hx1
    try clear c2
    try clear p2
    try clear c3
    try clear c4
    try clear c5
    try clear c6
    try clear p6
    try clear c7
    try clear c8
    try clear c9
    try clear c10
    try clear c14
    try clear c15
    try clear p15
    try clear q15
    try clear hx15
    try clear c16
    try clear c20
    try clear c22
    try clear c24
    try clear c25
    try clear c25b0
    try clear c25b1
    try clear c27
    try clear c27b0
    try clear c28
    try clear c28b0
    try clear c29
    try clear c30
    try clear c31
    try clear c34
    try clear c35
    try clear c39
    try clear c40
    try clear c41
    try clear c44
    try clear c45
    try clear c49
    try clear c50
    try clear c51
    try clear c54
    try clear c55
    try clear c58
    try clear c59
    try clear c60
    try clear c63
    try clear c64
    try clear p64
    try clear c67
    try clear c68
    try clear c69
    try clear c72
    try clear c73
    try clear c74
    try clear c75
    try clear c77
    try clear c78
    try clear c80
    try clear c80b0
    try clear c80b1
    try clear c82
    try clear c83
    try clear c84
    try clear c86
    try clear c87
    try clear c89
    try clear c91
    try clear c91b0
    try clear c91b1
    try clear c92
    try clear c93
    try clear c94
    try clear c96
    try clear c97
    try clear c99
    try clear c101
    try clear c102
    try clear c103
    try clear hcz100_0
    try clear hcz100_1
    try clear hcz100_2
    try clear hcz104_0
    try clear hcz104_1
    try clear hcz104_2
    try clear hcz11_0
    try clear hcz11_1
    try clear hcz11_2
    try clear hcz17_0
    try clear hcz17_1
    try clear hcz17_2
    try clear hcz32_0
    try clear hcz32_1
    try clear hcz32_10
    try clear hcz32_11
    try clear hcz32_12
    try clear hcz32_13
    try clear hcz32_2
    try clear hcz32_3
    try clear hcz32_4
    try clear hcz32_5
    try clear hcz32_6
    try clear hcz32_7
    try clear hcz32_8
    try clear hcz32_9
    try clear hcz36_0
    try clear hcz36_1
    try clear hcz36_2
    try clear hcz38_0
    try clear hcz38_1
    try clear hcz38_2
    try clear hcz42_0
    try clear hcz42_1
    try clear hcz42_10
    try clear hcz42_11
    try clear hcz42_12
    try clear hcz42_13
    try clear hcz42_2
    try clear hcz42_3
    try clear hcz42_4
    try clear hcz42_5
    try clear hcz42_6
    try clear hcz42_7
    try clear hcz42_8
    try clear hcz42_9
    try clear hcz46_0
    try clear hcz46_1
    try clear hcz46_2
    try clear hcz48_0
    try clear hcz48_1
    try clear hcz48_2
    try clear hcz52_0
    try clear hcz52_1
    try clear hcz52_10
    try clear hcz52_11
    try clear hcz52_12
    try clear hcz52_13
    try clear hcz52_2
    try clear hcz52_3
    try clear hcz52_4
    try clear hcz52_5
    try clear hcz52_6
    try clear hcz52_7
    try clear hcz52_8
    try clear hcz52_9
    try clear hcz56_0
    try clear hcz56_1
    try clear hcz56_2
    try clear hcz61_0
    try clear hcz61_1
    try clear hcz61_10
    try clear hcz61_11
    try clear hcz61_12
    try clear hcz61_13
    try clear hcz61_2
    try clear hcz61_3
    try clear hcz61_4
    try clear hcz61_5
    try clear hcz61_6
    try clear hcz61_7
    try clear hcz61_8
    try clear hcz61_9
    try clear hcz65_0
    try clear hcz65_1
    try clear hcz65_2
    try clear hcz70_0
    try clear hcz70_1
    try clear hcz70_10
    try clear hcz70_11
    try clear hcz70_12
    try clear hcz70_13
    try clear hcz70_2
    try clear hcz70_3
    try clear hcz70_4
    try clear hcz70_5
    try clear hcz70_6
    try clear hcz70_7
    try clear hcz70_8
    try clear hcz70_9
    try clear hcz76_0
    try clear hcz76_1
    try clear hcz76_2
    try clear hcz79_0
    try clear hcz79_1
    try clear hcz79_2
    try clear hcz85_0
    try clear hcz85_1
    try clear hcz85_2
    try clear hcz88_0
    try clear hcz88_1
    try clear hcz88_10
    try clear hcz88_11
    try clear hcz88_12
    try clear hcz88_13
    try clear hcz88_2
    try clear hcz88_3
    try clear hcz88_4
    try clear hcz88_5
    try clear hcz88_6
    try clear hcz88_7
    try clear hcz88_8
    try clear hcz88_9
    try clear hcz90_0
    try clear hcz90_1
    try clear hcz90_2
    try clear hcz95_0
    try clear hcz95_1
    try clear hcz95_2
    try clear hcz98_0
    try clear hcz98_1
    try clear hcz98_2
    try clear hfz100_0
    try clear hfz100_1
    try clear hfz100_2
    try clear hfz104_0
    try clear hfz104_1
    try clear hfz104_2
    try clear hfz11_0
    try clear hfz11_1
    try clear hfz11_2
    try clear hfz17_0
    try clear hfz17_1
    try clear hfz17_2
    try clear hfz32_0
    try clear hfz32_1
    try clear hfz32_10
    try clear hfz32_11
    try clear hfz32_12
    try clear hfz32_13
    try clear hfz32_2
    try clear hfz32_3
    try clear hfz32_4
    try clear hfz32_5
    try clear hfz32_6
    try clear hfz32_7
    try clear hfz32_8
    try clear hfz32_9
    try clear hfz36_0
    try clear hfz36_1
    try clear hfz36_2
    try clear hfz38_0
    try clear hfz38_1
    try clear hfz38_2
    try clear hfz42_0
    try clear hfz42_1
    try clear hfz42_10
    try clear hfz42_11
    try clear hfz42_12
    try clear hfz42_13
    try clear hfz42_2
    try clear hfz42_3
    try clear hfz42_4
    try clear hfz42_5
    try clear hfz42_6
    try clear hfz42_7
    try clear hfz42_8
    try clear hfz42_9
    try clear hfz46_0
    try clear hfz46_1
    try clear hfz46_2
    try clear hfz48_0
    try clear hfz48_1
    try clear hfz48_2
    try clear hfz52_0
    try clear hfz52_1
    try clear hfz52_10
    try clear hfz52_11
    try clear hfz52_12
    try clear hfz52_13
    try clear hfz52_2
    try clear hfz52_3
    try clear hfz52_4
    try clear hfz52_5
    try clear hfz52_6
    try clear hfz52_7
    try clear hfz52_8
    try clear hfz52_9
    try clear hfz56_0
    try clear hfz56_1
    try clear hfz56_2
    try clear hfz61_0
    try clear hfz61_1
    try clear hfz61_10
    try clear hfz61_11
    try clear hfz61_12
    try clear hfz61_13
    try clear hfz61_2
    try clear hfz61_3
    try clear hfz61_4
    try clear hfz61_5
    try clear hfz61_6
    try clear hfz61_7
    try clear hfz61_8
    try clear hfz61_9
    try clear hfz65_0
    try clear hfz65_1
    try clear hfz65_2
    try clear hfz70_0
    try clear hfz70_1
    try clear hfz70_10
    try clear hfz70_11
    try clear hfz70_12
    try clear hfz70_13
    try clear hfz70_2
    try clear hfz70_3
    try clear hfz70_4
    try clear hfz70_5
    try clear hfz70_6
    try clear hfz70_7
    try clear hfz70_8
    try clear hfz70_9
    try clear hfz76_0
    try clear hfz76_1
    try clear hfz76_2
    try clear hfz79_0
    try clear hfz79_1
    try clear hfz79_2
    try clear hfz85_0
    try clear hfz85_1
    try clear hfz85_2
    try clear hfz88_0
    try clear hfz88_1
    try clear hfz88_10
    try clear hfz88_11
    try clear hfz88_12
    try clear hfz88_13
    try clear hfz88_2
    try clear hfz88_3
    try clear hfz88_4
    try clear hfz88_5
    try clear hfz88_6
    try clear hfz88_7
    try clear hfz88_8
    try clear hfz88_9
    try clear hfz90_0
    try clear hfz90_1
    try clear hfz90_2
    try clear hfz95_0
    try clear hfz95_1
    try clear hfz95_2
    try clear hfz98_0
    try clear hfz98_1
    try clear hfz98_2
    try clear hx152_0
    try clear p1
    try clear p15
    try clear p152
    try clear p2
    try clear p6
    try clear p64
    try clear q1
    try clear q15
    try clear q152
    obtain ⟨x9_2, x10_2, rfl, HA, HK2, HO_9, HO_149001, BK140, BK141, BK142, BK148, HB⟩ := hrel
    cases gk with
    | zero => exact absurd HA.out (by simp [spec_OnFailure.l0])
    | succ k2 =>
     have H := HA.out
     clear HA
     simp only [spec_OnFailure.l0] at H
     by_cases c107 : x10_2 < (l1_1.length : Int)
     ·
      rw [if_pos c107] at H
      have c107b0 : decide (x10_2 < (l1_1.length : Int)) = true := decide_eq_true c107
      clear c107
      by_cases c108 : 0 ≤ x10_2
      ·
       rw [if_pos c108] at H
       have c108b0 : decide (0 ≤ x10_2) = true := decide_eq_true c108
       clear c108
       by_cases c109 : (rd l1_1 x10_2) ≥ (wrap64 (a2 - a0_10))
       ·
        rw [if_pos c109] at H
        have c109b0 : decide ((wrap64 (a2 - a0_10)) ≤ (rd l1_1 x10_2)) = true := decide_eq_true c109
        clear c109
        by_cases c110 : x9_2.length < 17592186044416
        ·
         rw [if_pos c110] at H
         have LMc110 := Aside0.mk c110
         clear c110
         obtain ⟨y159, hy159⟩ : ∃ y_ : List Int, y_ = (x9_2 ++ [rd l1_1 x10_2]) := ⟨_, rfl⟩
         replace H : (spec_OnFailure.l0 k2 a2 y159 (wrap64 (x10_2 + 1)) a0_0 a0_1 a0_2 a0_3 a0_4 a0_5 a0_6 a0_7 a0_8 a0_9 a0_10 a0_11 a0_12 a0_13 a1_0 l1_1 a1_2 t143 t144 t147) = some (r1, r2, r3, r4) := by first | (rw [hy159]; with_reducible exact H) | (have H2_ := (Option.bind_some _ _).symm.trans H; rw [hy159]; with_reducible exact H2_) | (have H2_ := (Option.bind_some _ _).symm.trans H; with_reducible exact H2_) | with_reducible exact H | (rw [hy159]; exact H) | exact H
         have Ny159 := Aside0.mk hy159
         clear hy159
         have H' := Aside0.mk H
         clear H
         have hnb111 := NB141_140.out
         have hnc111 := NB140_141.out
         have hnb112 := NB141_142.out
         have hnc112 := NB142_141.out
         have hnb113 := NB141_148.out
         have hnc113 := NB148_141.out
         obtain ⟨hcz114_0, hcz114_1, hcz114_2, hfz114_0, hfz114_1, hfz114_2⟩ := cz3_ BK141.out
         have p157 : 0 ≤ (x10_2 : Int) := of_decide_eq_true (by first | (with_reducible assumption) | assumption)
         have q157 : x10_2 < (l1_1.length : Int) := of_decide_eq_true (by first | (with_reducible assumption) | assumption)
         obtain ⟨ad157, e157, hx157_0⟩ := Kd.at_int HR1_1.out x10_2 p157 q157
         cases e157
         replace hx157_0 := (HB.out.cell (World.block_lt_of_cell? w _ hx157_0)).trans hx157_0
         replace p157 := eq_true p157
         replace q157 := eq_true q157
         have hnb115 := NB140_142.out
         have hnc115 := NB142_140.out
         have hnb116 := NB140_148.out
         have hnc116 := NB148_140.out
         obtain ⟨hcz117_0, hcz117_1, hcz117_2, hcz117_3, hcz117_4, hcz117_5, hcz117_6, hcz117_7, hcz117_8, hcz117_9, hcz117_10, hcz117_11, hcz117_12, hcz117_13, hfz117_0, hfz117_1, hfz117_2, hfz117_3, hfz117_4, hfz117_5, hfz117_6, hfz117_7, hfz117_8, hfz117_9, hfz117_10, hfz117_11, hfz117_12, hfz117_13⟩ := cz14_ BK140.out
         have p158 : 0 ≤ (x10_2 : Int) := of_decide_eq_true (by first | (with_reducible assumption) | assumption)
         have q158 : x10_2 < (l1_1.length : Int) := of_decide_eq_true (by first | (with_reducible assumption) | assumption)
         obtain ⟨ad158, e158, hx158_0⟩ := Kd.at_int HR1_1.out x10_2 p158 q158
         obtain rfl : ad157 = ad158 := (by injection e158)
         replace hx158_0 := (HB.out.cell (World.block_lt_of_cell? w _ hx158_0)).trans hx158_0
         replace p158 := eq_true p158
         replace q158 := eq_true q158
         go_wp2_with (first | ((with_reducible refine gate_builtin (b := .append) (xs := #[.tmp 75, .tmp 81]) rfl ?_); (try (refine gate_guard (by rfl) ?_; dsimp only)); at_builtin; refine Kd.R_append (Kd.int .i64) (w0 := w) w.heap.size rfl (.tmp 75) (.tmp 81) 24 3 (.int .i64 0) 8 rfl Try.underlying24 info3 rfl (by decide) (by omega) u9 x9_2 (rd l1_1 x10_2) [.int .i64 (rd l1_1 x10_2)] (fun k_ => some k_ ≠ (.slice Ao18 t144.length co18 : Value).ownBlock) (fun _ => False) rfl rfl ?aP (fun _ hk => hk.elim) ?aF ?aO ?aB ?aS ?aL ?_; (case aP => exact rfl); (case aB => exact (be_ HB.out)); (case aF => exact (fun k_ hk => Kd.fresh' (Kd.R_lt (ro_ HO_149001.out)) k_ hk)); (case aO => exact (ro_ HO_9.out)); (case aS => exact (below_size (be_ HB.out))); (case aL => have := LMc110.out; omega); intro v160 w118 ho hb hg hat; rw [← Ny159.out] at ho; have n0_ := Aside0.mk (Kd.R_after (ok := (fun _ => True)) (by (with_reducible repeat (first | apply Kd.R_alloc | apply Kd.R_drewN | apply Kd.R_drew)); exact Kd.R_mono HO_149001.out (fun _ hk => ⟨trivial, hk⟩)) hg hat); have n1_ := Aside0.mk (blk_grown (g := gb140) (o := .cells #[.int .i64 a0_0, .int .i64 a0_1, .int .i64 a0_2, .int .i64 a0_3, .int .i64 a0_4, .int .i64 a0_5, .int .i64 a0_6, .int .i64 a0_7, .int .i64 a0_8, .int .i64 a0_9, .int .i64 a0_10, .int .i64 a0_11, .int .i64 a0_12, .int .i64 a0_13] 31 (0, 0)) (bl_ BK140.out) hg (Kd.R_ne HO_9.out BK140.out (by decide))); have n2_ := Aside0.mk (blk_grown (g := gb141) (o := .cells #[.int .i64 a1_0, .slice (some ad157) l1_1.length c1_1, .int .i64 a1_2] 28 (0, 0)) (bl_ BK141.out) hg (Kd.R_ne HO_9.out BK141.out (by decide))); have n3_ := Aside0.mk (blk_grown (g := gb142) (o := .cells #[.int .i64 0, .slice none 0 0, .int .i64 0] 28 (0, 0)) (bl_ BK142.out) hg (Kd.R_ne HO_9.out BK142.out (by decide))); have n4_ := Aside0.mk (blk_grown (g := gb148) (o := .cells #[.int .i64 t143, .slice Ao18 t144.length co18, .int .i64 t147] 28 (0, 0)) (bl_ BK148.out) hg (Kd.R_ne HO_9.out BK148.out (by decide))); have n5_ := Aside0.mk (hb); have n6_ := Aside0.mk (ho); clear HO_149001 BK140 BK141 BK142 BK148 HB HO_9; have HO_149001 := n0_; have BK140 := n1_; have BK141 := n2_; have BK142 := n3_; have BK148 := n4_; have HB := n5_; have HO161 := n6_; clear n0_ n1_ n2_ n3_ n4_ n5_ n6_; clear ho hb hg hat))
         repeat (go_quiet (first | ((with_reducible refine gate_builtin (b := .append) (xs := #[.tmp 75, .tmp 81]) rfl ?_); (try (refine gate_guard (by rfl) ?_; dsimp only)); at_builtin; refine Kd.R_append (Kd.int .i64) (w0 := w) w.heap.size rfl (.tmp 75) (.tmp 81) 24 3 (.int .i64 0) 8 rfl Try.underlying24 info3 rfl (by decide) (by omega) u9 x9_2 (rd l1_1 x10_2) [.int .i64 (rd l1_1 x10_2)] (fun k_ => some k_ ≠ (.slice Ao18 t144.length co18 : Value).ownBlock) (fun _ => False) rfl rfl ?aP (fun _ hk => hk.elim) ?aF ?aO ?aB ?aS ?aL ?_; (case aP => exact rfl); (case aB => exact (be_ HB.out)); (case aF => exact (fun k_ hk => Kd.fresh' (Kd.R_lt (ro_ HO_149001.out)) k_ hk)); (case aO => exact (ro_ HO_9.out)); (case aS => exact (below_size (be_ HB.out))); (case aL => have := LMc110.out; omega); intro v160 w118 ho hb hg hat; rw [← Ny159.out] at ho; have n0_ := Aside0.mk (Kd.R_after (ok := (fun _ => True)) (by (with_reducible repeat (first | apply Kd.R_alloc | apply Kd.R_drewN | apply Kd.R_drew)); exact Kd.R_mono HO_149001.out (fun _ hk => ⟨trivial, hk⟩)) hg hat); have n1_ := Aside0.mk (blk_grown (g := gb140) (o := .cells #[.int .i64 a0_0, .int .i64 a0_1, .int .i64 a0_2, .int .i64 a0_3, .int .i64 a0_4, .int .i64 a0_5, .int .i64 a0_6, .int .i64 a0_7, .int .i64 a0_8, .int .i64 a0_9, .int .i64 a0_10, .int .i64 a0_11, .int .i64 a0_12, .int .i64 a0_13] 31 (0, 0)) (bl_ BK140.out) hg (Kd.R_ne HO_9.out BK140.out (by decide))); have n2_ := Aside0.mk (blk_grown (g := gb141) (o := .cells #[.int .i64 a1_0, .slice (some ad157) l1_1.length c1_1, .int .i64 a1_2] 28 (0, 0)) (bl_ BK141.out) hg (Kd.R_ne HO_9.out BK141.out (by decide))); have n3_ := Aside0.mk (blk_grown (g := gb142) (o := .cells #[.int .i64 0, .slice none 0 0, .int .i64 0] 28 (0, 0)) (bl_ BK142.out) hg (Kd.R_ne HO_9.out BK142.out (by decide))); have n4_ := Aside0.mk (blk_grown (g := gb148) (o := .cells #[.int .i64 t143, .slice Ao18 t144.length co18, .int .i64 t147] 28 (0, 0)) (bl_ BK148.out) hg (Kd.R_ne HO_9.out BK148.out (by decide))); have n5_ := Aside0.mk (hb); have n6_ := Aside0.mk (ho); clear HO_149001 BK140 BK141 BK142 BK148 HB HO_9; have HO_149001 := n0_; have BK140 := n1_; have BK141 := n2_; have BK142 := n3_; have BK148 := n4_; have HB := n5_; have HO161 := n6_; clear n0_ n1_ n2_ n3_ n4_ n5_ n6_; clear ho hb hg hat)); try go_wp2_with (first | ((with_reducible refine gate_builtin (b := .append) (xs := #[.tmp 75, .tmp 81]) rfl ?_); (try (refine gate_guard (by rfl) ?_; dsimp only)); at_builtin; refine Kd.R_append (Kd.int .i64) (w0 := w) w.heap.size rfl (.tmp 75) (.tmp 81) 24 3 (.int .i64 0) 8 rfl Try.underlying24 info3 rfl (by decide) (by omega) u9 x9_2 (rd l1_1 x10_2) [.int .i64 (rd l1_1 x10_2)] (fun k_ => some k_ ≠ (.slice Ao18 t144.length co18 : Value).ownBlock) (fun _ => False) rfl rfl ?aP (fun _ hk => hk.elim) ?aF ?aO ?aB ?aS ?aL ?_; (case aP => exact rfl); (case aB => exact (be_ HB.out)); (case aF => exact (fun k_ hk => Kd.fresh' (Kd.R_lt (ro_ HO_149001.out)) k_ hk)); (case aO => exact (ro_ HO_9.out)); (case aS => exact (below_size (be_ HB.out))); (case aL => have := LMc110.out; omega); intro v160 w118 ho hb hg hat; rw [← Ny159.out] at ho; have n0_ := Aside0.mk (Kd.R_after (ok := (fun _ => True)) (by (with_reducible repeat (first | apply Kd.R_alloc | apply Kd.R_drewN | apply Kd.R_drew)); exact Kd.R_mono HO_149001.out (fun _ hk => ⟨trivial, hk⟩)) hg hat); have n1_ := Aside0.mk (blk_grown (g := gb140) (o := .cells #[.int .i64 a0_0, .int .i64 a0_1, .int .i64 a0_2, .int .i64 a0_3, .int .i64 a0_4, .int .i64 a0_5, .int .i64 a0_6, .int .i64 a0_7, .int .i64 a0_8, .int .i64 a0_9, .int .i64 a0_10, .int .i64 a0_11, .int .i64 a0_12, .int .i64 a0_13] 31 (0, 0)) (bl_ BK140.out) hg (Kd.R_ne HO_9.out BK140.out (by decide))); have n2_ := Aside0.mk (blk_grown (g := gb141) (o := .cells #[.int .i64 a1_0, .slice (some ad157) l1_1.length c1_1, .int .i64 a1_2] 28 (0, 0)) (bl_ BK141.out) hg (Kd.R_ne HO_9.out BK141.out (by decide))); have n3_ := Aside0.mk (blk_grown (g := gb142) (o := .cells #[.int .i64 0, .slice none 0 0, .int .i64 0] 28 (0, 0)) (bl_ BK142.out) hg (Kd.R_ne HO_9.out BK142.out (by decide))); have n4_ := Aside0.mk (blk_grown (g := gb148) (o := .cells #[.int .i64 t143, .slice Ao18 t144.length co18, .int .i64 t147] 28 (0, 0)) (bl_ BK148.out) hg (Kd.R_ne HO_9.out BK148.out (by decide))); have n5_ := Aside0.mk (hb); have n6_ := Aside0.mk (ho); clear HO_149001 BK140 BK141 BK142 BK148 HB HO_9; have HO_149001 := n0_; have BK140 := n1_; have BK141 := n2_; have BK142 := n3_; have BK148 := n4_; have HB := n5_; have HO161 := n6_; clear n0_ n1_ n2_ n3_ n4_ n5_ n6_; clear ho hb hg hat)))
         go_roundg k2
         case measure => have := HJ4.out; have := HK2.out; omega
         case rel => exact ⟨(y159), (wrap64 (x10_2 + 1)), (by first | rfl | (simp; done) | (simp [*]; done)), H', ⟨by have := HJ4.out; have := HK2.out; omega⟩, ⟨by (with_reducible repeat (first | apply Kd.R_alloc | apply Kd.R_drewN | apply Kd.R_drew)); exact HO161.out⟩, ⟨by (with_reducible repeat (first | apply Kd.R_alloc | apply Kd.R_drewN | apply Kd.R_drew)); exact Kd.R_mono HO_149001.out (fun _ hk => hk.2)⟩, ⟨by refine bl_ ?_; exact BK140.out⟩, ⟨by refine bl_ ?_; exact BK141.out⟩, ⟨by refine bl_ ?_; exact BK142.out⟩, ⟨by refine bl_ ?_; exact BK148.out⟩, ⟨be_ HB.out⟩⟩
        rw [if_neg c110] at H
        exact absurd H (by simp)
       rw [if_neg c109] at H
       have c109b0 : decide ((wrap64 (a2 - a0_10)) ≤ (rd l1_1 x10_2)) = false := decide_eq_false c109
       clear c109
       have H' := Aside0.mk H
       clear H
       have hnb119 := NB141_140.out
       have hnc119 := NB140_141.out
       have hnb120 := NB141_142.out
       have hnc120 := NB142_141.out
       have hnb121 := NB141_148.out
       have hnc121 := NB148_141.out
       obtain ⟨hcz122_0, hcz122_1, hcz122_2, hfz122_0, hfz122_1, hfz122_2⟩ := cz3_ BK141.out
       have p157 : 0 ≤ (x10_2 : Int) := of_decide_eq_true (by first | (with_reducible assumption) | assumption)
       have q157 : x10_2 < (l1_1.length : Int) := of_decide_eq_true (by first | (with_reducible assumption) | assumption)
       obtain ⟨ad157, e157, hx157_0⟩ := Kd.at_int HR1_1.out x10_2 p157 q157
       cases e157
       replace hx157_0 := (HB.out.cell (World.block_lt_of_cell? w _ hx157_0)).trans hx157_0
       replace p157 := eq_true p157
       replace q157 := eq_true q157
       have hnb123 := NB140_142.out
       have hnc123 := NB142_140.out
       have hnb124 := NB140_148.out
       have hnc124 := NB148_140.out
       obtain ⟨hcz125_0, hcz125_1, hcz125_2, hcz125_3, hcz125_4, hcz125_5, hcz125_6, hcz125_7, hcz125_8, hcz125_9, hcz125_10, hcz125_11, hcz125_12, hcz125_13, hfz125_0, hfz125_1, hfz125_2, hfz125_3, hfz125_4, hfz125_5, hfz125_6, hfz125_7, hfz125_8, hfz125_9, hfz125_10, hfz125_11, hfz125_12, hfz125_13⟩ := cz14_ BK140.out
       go_wp2
       repeat (go_quiet (fail); try go_wp2)
       go_roundg k2
       case measure => have := HJ4.out; have := HK2.out; omega
       case rel => exact ⟨(x9_2), (wrap64 (x10_2 + 1)), (by first | rfl | (simp; done) | (simp [*]; done)), H', ⟨by have := HJ4.out; have := HK2.out; omega⟩, ⟨by (with_reducible repeat (first | apply Kd.R_alloc | apply Kd.R_drewN | apply Kd.R_drew)); exact HO_9.out⟩, ⟨by (with_reducible repeat (first | apply Kd.R_alloc | apply Kd.R_drewN | apply Kd.R_drew)); exact HO_149001.out⟩, ⟨by refine bl_ ?_; exact BK140.out⟩, ⟨by refine bl_ ?_; exact BK141.out⟩, ⟨by refine bl_ ?_; exact BK142.out⟩, ⟨by refine bl_ ?_; exact BK148.out⟩, ⟨be_ HB.out⟩⟩
      rw [if_neg c108] at H
      exact absurd H (by simp)
     rw [if_neg c107] at H
     have c107b0 : decide (x10_2 < (l1_1.length : Int)) = false := decide_eq_false c107
     clear c107
     by_cases c126 : x9_2.length < 17592186044416
     ·
      rw [if_pos c126] at H
      have LMc126 := Aside0.mk c126
      clear c126
      obtain ⟨y162, hy162⟩ : ∃ y_ : List Int, y_ = (x9_2 ++ [a2]) := ⟨_, rfl⟩
      replace H : (if (y162.length : Int) ≥ a0_11 then ((spec_AddTick.f k2 a2 a0_12).bind fun t165 => (some (1, ([] : List Int), t165, true))) else (some (t143, y162, t147, true))) = some (r1, r2, r3, r4) := by first | (rw [hy162]; with_reducible exact H) | (have H2_ := (Option.bind_some _ _).symm.trans H; rw [hy162]; with_reducible exact H2_) | (have H2_ := (Option.bind_some _ _).symm.trans H; with_reducible exact H2_) | with_reducible exact H | (rw [hy162]; exact H) | exact H
      have Ny162 := Aside0.mk hy162
      clear hy162
      by_cases c127 : (y162.length : Int) ≥ a0_11
      ·
       rw [if_pos c127] at H
       have c127b0 : decide (a0_11 ≤ (y162.length : Int)) = true := decide_eq_true c127
       clear c127
       replace H := Option.bind_eq_some_iff.mp H
       obtain ⟨t165, A1280, H⟩ := H
       replace H : (some (1, ([] : List Int), t165, true)) = some (r1, r2, r3, r4) := H
       have A128 := Aside0.mk A1280
       clear A1280
       simp only [Option.some.injEq, Prod.mk.injEq] at H
       obtain ⟨rfl, rfl, rfl, rfl⟩ := H
       have hnb129 := NB141_140.out
       have hnc129 := NB140_141.out
       have hnb130 := NB141_142.out
       have hnc130 := NB142_141.out
       have hnb131 := NB141_148.out
       have hnc131 := NB148_141.out
       obtain ⟨hcz132_0, hcz132_1, hcz132_2, hfz132_0, hfz132_1, hfz132_2⟩ := cz3_ BK141.out
       go_wp2_with (first | ((with_reducible refine gate_builtin (b := .append) (xs := #[.tmp 83, .tmp 85]) rfl ?_); (try (refine gate_guard (by rfl) ?_; dsimp only)); at_builtin; refine Kd.R_append (Kd.int .i64) (w0 := w) w.heap.size rfl (.tmp 83) (.tmp 85) 24 3 (.int .i64 0) 8 rfl Try.underlying24 info3 rfl (by decide) (by omega) u9 x9_2 a2 [.int .i64 a2] (fun k_ => some k_ ≠ (.slice Ao18 t144.length co18 : Value).ownBlock) (fun _ => False) rfl rfl ?aP (fun _ hk => hk.elim) ?aF ?aO ?aB ?aS ?aL ?_; (case aP => exact rfl); (case aB => exact (be_ HB.out)); (case aF => exact (fun k_ hk => Kd.fresh' (Kd.R_lt (ro_ HO_149001.out)) k_ hk)); (case aO => exact (ro_ HO_9.out)); (case aS => exact (below_size (be_ HB.out))); (case aL => have := LMc126.out; omega); intro v163 w133 ho hb hg hat; rw [← Ny162.out] at ho; have n0_ := Aside0.mk (Kd.R_after (ok := (fun _ => True)) (by (with_reducible repeat (first | apply Kd.R_alloc | apply Kd.R_drewN | apply Kd.R_drew)); exact Kd.R_mono HO_149001.out (fun _ hk => ⟨trivial, hk⟩)) hg hat); have n1_ := Aside0.mk (blk_grown (g := gb140) (o := .cells #[.int .i64 a0_0, .int .i64 a0_1, .int .i64 a0_2, .int .i64 a0_3, .int .i64 a0_4, .int .i64 a0_5, .int .i64 a0_6, .int .i64 a0_7, .int .i64 a0_8, .int .i64 a0_9, .int .i64 a0_10, .int .i64 a0_11, .int .i64 a0_12, .int .i64 a0_13] 31 (0, 0)) (bl_ BK140.out) hg (Kd.R_ne HO_9.out BK140.out (by decide))); have n2_ := Aside0.mk (blk_grown (g := gb141) (o := .cells #[.int .i64 a1_0, .slice A1_1 l1_1.length c1_1, .int .i64 a1_2] 28 (0, 0)) (bl_ BK141.out) hg (Kd.R_ne HO_9.out BK141.out (by decide))); have n3_ := Aside0.mk (blk_grown (g := gb142) (o := .cells #[.int .i64 0, .slice none 0 0, .int .i64 0] 28 (0, 0)) (bl_ BK142.out) hg (Kd.R_ne HO_9.out BK142.out (by decide))); have n4_ := Aside0.mk (blk_grown (g := gb148) (o := .cells #[.int .i64 t143, .slice Ao18 t144.length co18, .int .i64 t147] 28 (0, 0)) (bl_ BK148.out) hg (Kd.R_ne HO_9.out BK148.out (by decide))); have n5_ := Aside0.mk (hb); have n6_ := Aside0.mk (ho); clear HO_149001 BK140 BK141 BK142 BK148 HB HO_9; have HO_149001 := n0_; have BK140 := n1_; have BK141 := n2_; have BK142 := n3_; have BK148 := n4_; have HB := n5_; have HO164 := n6_; clear n0_ n1_ n2_ n3_ n4_ n5_ n6_; clear ho hb hg hat; obtain ⟨Ao134, co134, eo134⟩ := Kd.R_slice HO164.out; subst eo134; have hnb135 := NB140_142.out; have hnc135 := NB142_140.out; have hnb136 := NB140_148.out; have hnc136 := NB148_140.out; obtain ⟨hcz137_0, hcz137_1, hcz137_2, hcz137_3, hcz137_4, hcz137_5, hcz137_6, hcz137_7, hcz137_8, hcz137_9, hcz137_10, hcz137_11, hcz137_12, hcz137_13, hfz137_0, hfz137_1, hfz137_2, hfz137_3, hfz137_4, hfz137_5, hfz137_6, hfz137_7, hfz137_8, hfz137_9, hfz137_10, hfz137_11, hfz137_12, hfz137_13⟩ := cz14_ BK140.out) | (go_at_call 17; (with_reducible refine (spec_AddTick.calls k2 a2 a0_12 t165 _ A128.out).mono ?_); rintro e w' ⟨rfl, ⟨nd, rfl⟩⟩; (try first | exact ⟨rfl, _, World.drewN_drewN _ _ _⟩ | exact ⟨rfl, _, Eq.trans (World.drewN_drewN _ _ _) (congrArg (World.drewN _) (Nat.add_assoc _ _ _))⟩); have hnb138 := NB142_148.out; have hnc138 := NB148_142.out; obtain ⟨hcz139_0, hcz139_1, hcz139_2, hfz139_0, hfz139_1, hfz139_2⟩ := cz3_ BK142.out))
       repeat (go_quiet (first | ((with_reducible refine gate_builtin (b := .append) (xs := #[.tmp 83, .tmp 85]) rfl ?_); (try (refine gate_guard (by rfl) ?_; dsimp only)); at_builtin; refine Kd.R_append (Kd.int .i64) (w0 := w) w.heap.size rfl (.tmp 83) (.tmp 85) 24 3 (.int .i64 0) 8 rfl Try.underlying24 info3 rfl (by decide) (by omega) u9 x9_2 a2 [.int .i64 a2] (fun k_ => some k_ ≠ (.slice Ao18 t144.length co18 : Value).ownBlock) (fun _ => False) rfl rfl ?aP (fun _ hk => hk.elim) ?aF ?aO ?aB ?aS ?aL ?_; (case aP => exact rfl); (case aB => exact (be_ HB.out)); (case aF => exact (fun k_ hk => Kd.fresh' (Kd.R_lt (ro_ HO_149001.out)) k_ hk)); (case aO => exact (ro_ HO_9.out)); (case aS => exact (below_size (be_ HB.out))); (case aL => have := LMc126.out; omega); intro v163 w133 ho hb hg hat; rw [← Ny162.out] at ho; have n0_ := Aside0.mk (Kd.R_after (ok := (fun _ => True)) (by (with_reducible repeat (first | apply Kd.R_alloc | apply Kd.R_drewN | apply Kd.R_drew)); exact Kd.R_mono HO_149001.out (fun _ hk => ⟨trivial, hk⟩)) hg hat); have n1_ := Aside0.mk (blk_grown (g := gb140) (o := .cells #[.int .i64 a0_0, .int .i64 a0_1, .int .i64 a0_2, .int .i64 a0_3, .int .i64 a0_4, .int .i64 a0_5, .int .i64 a0_6, .int .i64 a0_7, .int .i64 a0_8, .int .i64 a0_9, .int .i64 a0_10, .int .i64 a0_11, .int .i64 a0_12, .int .i64 a0_13] 31 (0, 0)) (bl_ BK140.out) hg (Kd.R_ne HO_9.out BK140.out (by decide))); have n2_ := Aside0.mk (blk_grown (g := gb141) (o := .cells #[.int .i64 a1_0, .slice A1_1 l1_1.length c1_1, .int .i64 a1_2] 28 (0, 0)) (bl_ BK141.out) hg (Kd.R_ne HO_9.out BK141.out (by decide))); have n3_ := Aside0.mk (blk_grown (g := gb142) (o := .cells #[.int .i64 0, .slice none 0 0, .int .i64 0] 28 (0, 0)) (bl_ BK142.out) hg (Kd.R_ne HO_9.out BK142.out (by decide))); have n4_ := Aside0.mk (blk_grown (g := gb148) (o := .cells #[.int .i64 t143, .slice Ao18 t144.length co18, .int .i64 t147] 28 (0, 0)) (bl_ BK148.out) hg (Kd.R_ne HO_9.out BK148.out (by decide))); have n5_ := Aside0.mk (hb); have n6_ := Aside0.mk (ho); clear HO_149001 BK140 BK141 BK142 BK148 HB HO_9; have HO_149001 := n0_; have BK140 := n1_; have BK141 := n2_; have BK142 := n3_; have BK148 := n4_; have HB := n5_; have HO164 := n6_; clear n0_ n1_ n2_ n3_ n4_ n5_ n6_; clear ho hb hg hat; obtain ⟨Ao134, co134, eo134⟩ := Kd.R_slice HO164.out; subst eo134; have hnb135 := NB140_142.out; have hnc135 := NB142_140.out; have hnb136 := NB140_148.out; have hnc136 := NB148_140.out; obtain ⟨hcz137_0, hcz137_1, hcz137_2, hcz137_3, hcz137_4, hcz137_5, hcz137_6, hcz137_7, hcz137_8, hcz137_9, hcz137_10, hcz137_11, hcz137_12, hcz137_13, hfz137_0, hfz137_1, hfz137_2, hfz137_3, hfz137_4, hfz137_5, hfz137_6, hfz137_7, hfz137_8, hfz137_9, hfz137_10, hfz137_11, hfz137_12, hfz137_13⟩ := cz14_ BK140.out) | (go_at_call 17; (with_reducible refine (spec_AddTick.calls k2 a2 a0_12 t165 _ A128.out).mono ?_); rintro e w' ⟨rfl, ⟨nd, rfl⟩⟩; (try first | exact ⟨rfl, _, World.drewN_drewN _ _ _⟩ | exact ⟨rfl, _, Eq.trans (World.drewN_drewN _ _ _) (congrArg (World.drewN _) (Nat.add_assoc _ _ _))⟩); have hnb138 := NB142_148.out; have hnc138 := NB148_142.out; obtain ⟨hcz139_0, hcz139_1, hcz139_2, hfz139_0, hfz139_1, hfz139_2⟩ := cz3_ BK142.out)); try go_wp2_with (first | ((with_reducible refine gate_builtin (b := .append) (xs := #[.tmp 83, .tmp 85]) rfl ?_); (try (refine gate_guard (by rfl) ?_; dsimp only)); at_builtin; refine Kd.R_append (Kd.int .i64) (w0 := w) w.heap.size rfl (.tmp 83) (.tmp 85) 24 3 (.int .i64 0) 8 rfl Try.underlying24 info3 rfl (by decide) (by omega) u9 x9_2 a2 [.int .i64 a2] (fun k_ => some k_ ≠ (.slice Ao18 t144.length co18 : Value).ownBlock) (fun _ => False) rfl rfl ?aP (fun _ hk => hk.elim) ?aF ?aO ?aB ?aS ?aL ?_; (case aP => exact rfl); (case aB => exact (be_ HB.out)); (case aF => exact (fun k_ hk => Kd.fresh' (Kd.R_lt (ro_ HO_149001.out)) k_ hk)); (case aO => exact (ro_ HO_9.out)); (case aS => exact (below_size (be_ HB.out))); (case aL => have := LMc126.out; omega); intro v163 w133 ho hb hg hat; rw [← Ny162.out] at ho; have n0_ := Aside0.mk (Kd.R_after (ok := (fun _ => True)) (by (with_reducible repeat (first | apply Kd.R_alloc | apply Kd.R_drewN | apply Kd.R_drew)); exact Kd.R_mono HO_149001.out (fun _ hk => ⟨trivial, hk⟩)) hg hat); have n1_ := Aside0.mk (blk_grown (g := gb140) (o := .cells #[.int .i64 a0_0, .int .i64 a0_1, .int .i64 a0_2, .int .i64 a0_3, .int .i64 a0_4, .int .i64 a0_5, .int .i64 a0_6, .int .i64 a0_7, .int .i64 a0_8, .int .i64 a0_9, .int .i64 a0_10, .int .i64 a0_11, .int .i64 a0_12, .int .i64 a0_13] 31 (0, 0)) (bl_ BK140.out) hg (Kd.R_ne HO_9.out BK140.out (by decide))); have n2_ := Aside0.mk (blk_grown (g := gb141) (o := .cells #[.int .i64 a1_0, .slice A1_1 l1_1.length c1_1, .int .i64 a1_2] 28 (0, 0)) (bl_ BK141.out) hg (Kd.R_ne HO_9.out BK141.out (by decide))); have n3_ := Aside0.mk (blk_grown (g := gb142) (o := .cells #[.int .i64 0, .slice none 0 0, .int .i64 0] 28 (0, 0)) (bl_ BK142.out) hg (Kd.R_ne HO_9.out BK142.out (by decide))); have n4_ := Aside0.mk (blk_grown (g := gb148) (o := .cells #[.int .i64 t143, .slice Ao18 t144.length co18, .int .i64 t147] 28 (0, 0)) (bl_ BK148.out) hg (Kd.R_ne HO_9.out BK148.out (by decide))); have n5_ := Aside0.mk (hb); have n6_ := Aside0.mk (ho); clear HO_149001 BK140 BK141 BK142 BK148 HB HO_9; have HO_149001 := n0_; have BK140 := n1_; have BK141 := n2_; have BK142 := n3_; have BK148 := n4_; have HB := n5_; have HO164 := n6_; clear n0_ n1_ n2_ n3_ n4_ n5_ n6_; clear ho hb hg hat; obtain ⟨Ao134, co134, eo134⟩ := Kd.R_slice HO164.out; subst eo134; have hnb135 := NB140_142.out; have hnc135 := NB142_140.out; have hnb136 := NB140_148.out; have hnc136 := NB148_140.out; obtain ⟨hcz137_0, hcz137_1, hcz137_2, hcz137_3, hcz137_4, hcz137_5, hcz137_6, hcz137_7, hcz137_8, hcz137_9, hcz137_10, hcz137_11, hcz137_12, hcz137_13, hfz137_0, hfz137_1, hfz137_2, hfz137_3, hfz137_4, hfz137_5, hfz137_6, hfz137_7, hfz137_8, hfz137_9, hfz137_10, hfz137_11, hfz137_12, hfz137_13⟩ := cz14_ BK140.out) | (go_at_call 17; (with_reducible refine (spec_AddTick.calls k2 a2 a0_12 t165 _ A128.out).mono ?_); rintro e w' ⟨rfl, ⟨nd, rfl⟩⟩; (try first | exact ⟨rfl, _, World.drewN_drewN _ _ _⟩ | exact ⟨rfl, _, Eq.trans (World.drewN_drewN _ _ _) (congrArg (World.drewN _) (Nat.add_assoc _ _ _))⟩); have hnb138 := NB142_148.out; have hnc138 := NB148_142.out; obtain ⟨hcz139_0, hcz139_1, hcz139_2, hfz139_0, hfz139_1, hfz139_2⟩ := cz3_ BK142.out)))
       refine bodyPost_ret (results_ct rfl _ _ gb142 28 #[.int .i64 1, .slice none 0 0, .int .i64 t165] (0, 0) _ rfl (by refine bl_ ?_; refine blk_put (cs := #[.int .i64 1, .slice none 0 0, .int .i64 0]) ?_ 2 _ rfl; refine bl_ ?_; refine blk_put (cs := #[.int .i64 1, .slice none 0 0, .int .i64 0]) ?_ 1 _ rfl; refine bl_ ?_; refine blk_put (cs := #[.int .i64 0, .slice none 0 0, .int .i64 0]) ?_ 0 _ rfl; refine bl_ ?_; exact BK142.out) Try.underlying28 rfl (by kernel_rfl)) rfl ?_
       exact ⟨_, by first | rfl | (simp [errW_none, errW_some] <;> rfl) | (simp [*, errW_none, errW_some] <;> rfl), by first | exact Kd.R_nil _ _ _ _ _ | exact Kd.N_nil _ _ _ _ _ | exact Kd.V_nil _ _ _ _ _ | exact Kd.Q_nil _ _ _ _ _ | exact Kd.S_nil _ _ _ _ _, be_ HB.out⟩
      rw [if_neg c127] at H
      have c127b0 : decide (a0_11 ≤ (y162.length : Int)) = false := decide_eq_false c127
      clear c127
      simp only [Option.some.injEq, Prod.mk.injEq] at H
      obtain ⟨rfl, rfl, rfl, rfl⟩ := H
      have hnb140 := NB141_140.out
      have hnc140 := NB140_141.out
      have hnb141 := NB141_142.out
      have hnc141 := NB142_141.out
      have hnb142 := NB141_148.out
      have hnc142 := NB148_141.out
      obtain ⟨hcz143_0, hcz143_1, hcz143_2, hfz143_0, hfz143_1, hfz143_2⟩ := cz3_ BK141.out
      go_wp2_with (first | ((with_reducible refine gate_builtin (b := .append) (xs := #[.tmp 83, .tmp 85]) rfl ?_); (try (refine gate_guard (by rfl) ?_; dsimp only)); at_builtin; refine Kd.R_append (Kd.int .i64) (w0 := w) w.heap.size rfl (.tmp 83) (.tmp 85) 24 3 (.int .i64 0) 8 rfl Try.underlying24 info3 rfl (by decide) (by omega) u9 x9_2 a2 [.int .i64 a2] (fun k_ => some k_ ≠ (.slice Ao18 t144.length co18 : Value).ownBlock) (fun _ => False) rfl rfl ?aP (fun _ hk => hk.elim) ?aF ?aO ?aB ?aS ?aL ?_; (case aP => exact rfl); (case aB => exact (be_ HB.out)); (case aF => exact (fun k_ hk => Kd.fresh' (Kd.R_lt (ro_ HO_149001.out)) k_ hk)); (case aO => exact (ro_ HO_9.out)); (case aS => exact (below_size (be_ HB.out))); (case aL => have := LMc126.out; omega); intro v163 w144 ho hb hg hat; rw [← Ny162.out] at ho; have n0_ := Aside0.mk (Kd.R_after (ok := (fun _ => True)) (by (with_reducible repeat (first | apply Kd.R_alloc | apply Kd.R_drewN | apply Kd.R_drew)); exact Kd.R_mono HO_149001.out (fun _ hk => ⟨trivial, hk⟩)) hg hat); have n1_ := Aside0.mk (blk_grown (g := gb140) (o := .cells #[.int .i64 a0_0, .int .i64 a0_1, .int .i64 a0_2, .int .i64 a0_3, .int .i64 a0_4, .int .i64 a0_5, .int .i64 a0_6, .int .i64 a0_7, .int .i64 a0_8, .int .i64 a0_9, .int .i64 a0_10, .int .i64 a0_11, .int .i64 a0_12, .int .i64 a0_13] 31 (0, 0)) (bl_ BK140.out) hg (Kd.R_ne HO_9.out BK140.out (by decide))); have n2_ := Aside0.mk (blk_grown (g := gb141) (o := .cells #[.int .i64 a1_0, .slice A1_1 l1_1.length c1_1, .int .i64 a1_2] 28 (0, 0)) (bl_ BK141.out) hg (Kd.R_ne HO_9.out BK141.out (by decide))); have n3_ := Aside0.mk (blk_grown (g := gb142) (o := .cells #[.int .i64 0, .slice none 0 0, .int .i64 0] 28 (0, 0)) (bl_ BK142.out) hg (Kd.R_ne HO_9.out BK142.out (by decide))); have n4_ := Aside0.mk (blk_grown (g := gb148) (o := .cells #[.int .i64 t143, .slice Ao18 t144.length co18, .int .i64 t147] 28 (0, 0)) (bl_ BK148.out) hg (Kd.R_ne HO_9.out BK148.out (by decide))); have n5_ := Aside0.mk (hb); have n6_ := Aside0.mk (ho); clear HO_149001 BK140 BK141 BK142 BK148 HB HO_9; have HO_149001 := n0_; have BK140 := n1_; have BK141 := n2_; have BK142 := n3_; have BK148 := n4_; have HB := n5_; have HO164 := n6_; clear n0_ n1_ n2_ n3_ n4_ n5_ n6_; clear ho hb hg hat; obtain ⟨Ao145, co145, eo145⟩ := Kd.R_slice HO164.out; subst eo145; have hnb146 := NB140_142.out; have hnc146 := NB142_140.out; have hnb147 := NB140_148.out; have hnc147 := NB148_140.out; obtain ⟨hcz148_0, hcz148_1, hcz148_2, hcz148_3, hcz148_4, hcz148_5, hcz148_6, hcz148_7, hcz148_8, hcz148_9, hcz148_10, hcz148_11, hcz148_12, hcz148_13, hfz148_0, hfz148_1, hfz148_2, hfz148_3, hfz148_4, hfz148_5, hfz148_6, hfz148_7, hfz148_8, hfz148_9, hfz148_10, hfz148_11, hfz148_12, hfz148_13⟩ := cz14_ BK140.out; have hnb149 := NB148_142.out; have hnc149 := NB142_148.out; obtain ⟨hcz150_0, hcz150_1, hcz150_2, hfz150_0, hfz150_1, hfz150_2⟩ := cz3_ BK148.out; obtain ⟨hcz151_0, hcz151_1, hcz151_2, hfz151_0, hfz151_1, hfz151_2⟩ := cz3_ BK142.out))
      repeat (go_quiet (first | ((with_reducible refine gate_builtin (b := .append) (xs := #[.tmp 83, .tmp 85]) rfl ?_); (try (refine gate_guard (by rfl) ?_; dsimp only)); at_builtin; refine Kd.R_append (Kd.int .i64) (w0 := w) w.heap.size rfl (.tmp 83) (.tmp 85) 24 3 (.int .i64 0) 8 rfl Try.underlying24 info3 rfl (by decide) (by omega) u9 x9_2 a2 [.int .i64 a2] (fun k_ => some k_ ≠ (.slice Ao18 t144.length co18 : Value).ownBlock) (fun _ => False) rfl rfl ?aP (fun _ hk => hk.elim) ?aF ?aO ?aB ?aS ?aL ?_; (case aP => exact rfl); (case aB => exact (be_ HB.out)); (case aF => exact (fun k_ hk => Kd.fresh' (Kd.R_lt (ro_ HO_149001.out)) k_ hk)); (case aO => exact (ro_ HO_9.out)); (case aS => exact (below_size (be_ HB.out))); (case aL => have := LMc126.out; omega); intro v163 w144 ho hb hg hat; rw [← Ny162.out] at ho; have n0_ := Aside0.mk (Kd.R_after (ok := (fun _ => True)) (by (with_reducible repeat (first | apply Kd.R_alloc | apply Kd.R_drewN | apply Kd.R_drew)); exact Kd.R_mono HO_149001.out (fun _ hk => ⟨trivial, hk⟩)) hg hat); have n1_ := Aside0.mk (blk_grown (g := gb140) (o := .cells #[.int .i64 a0_0, .int .i64 a0_1, .int .i64 a0_2, .int .i64 a0_3, .int .i64 a0_4, .int .i64 a0_5, .int .i64 a0_6, .int .i64 a0_7, .int .i64 a0_8, .int .i64 a0_9, .int .i64 a0_10, .int .i64 a0_11, .int .i64 a0_12, .int .i64 a0_13] 31 (0, 0)) (bl_ BK140.out) hg (Kd.R_ne HO_9.out BK140.out (by decide))); have n2_ := Aside0.mk (blk_grown (g := gb141) (o := .cells #[.int .i64 a1_0, .slice A1_1 l1_1.length c1_1, .int .i64 a1_2] 28 (0, 0)) (bl_ BK141.out) hg (Kd.R_ne HO_9.out BK141.out (by decide))); have n3_ := Aside0.mk (blk_grown (g := gb142) (o := .cells #[.int .i64 0, .slice none 0 0, .int .i64 0] 28 (0, 0)) (bl_ BK142.out) hg (Kd.R_ne HO_9.out BK142.out (by decide))); have n4_ := Aside0.mk (blk_grown (g := gb148) (o := .cells #[.int .i64 t143, .slice Ao18 t144.length co18, .int .i64 t147] 28 (0, 0)) (bl_ BK148.out) hg (Kd.R_ne HO_9.out BK148.out (by decide))); have n5_ := Aside0.mk (hb); have n6_ := Aside0.mk (ho); clear HO_149001 BK140 BK141 BK142 BK148 HB HO_9; have HO_149001 := n0_; have BK140 := n1_; have BK141 := n2_; have BK142 := n3_; have BK148 := n4_; have HB := n5_; have HO164 := n6_; clear n0_ n1_ n2_ n3_ n4_ n5_ n6_; clear ho hb hg hat; obtain ⟨Ao145, co145, eo145⟩ := Kd.R_slice HO164.out; subst eo145; have hnb146 := NB140_142.out; have hnc146 := NB142_140.out; have hnb147 := NB140_148.out; have hnc147 := NB148_140.out; obtain ⟨hcz148_0, hcz148_1, hcz148_2, hcz148_3, hcz148_4, hcz148_5, hcz148_6, hcz148_7, hcz148_8, hcz148_9, hcz148_10, hcz148_11, hcz148_12, hcz148_13, hfz148_0, hfz148_1, hfz148_2, hfz148_3, hfz148_4, hfz148_5, hfz148_6, hfz148_7, hfz148_8, hfz148_9, hfz148_10, hfz148_11, hfz148_12, hfz148_13⟩ := cz14_ BK140.out; have hnb149 := NB148_142.out; have hnc149 := NB142_148.out; obtain ⟨hcz150_0, hcz150_1, hcz150_2, hfz150_0, hfz150_1, hfz150_2⟩ := cz3_ BK148.out; obtain ⟨hcz151_0, hcz151_1, hcz151_2, hfz151_0, hfz151_1, hfz151_2⟩ := cz3_ BK142.out)); try go_wp2_with (first | ((with_reducible refine gate_builtin (b := .append) (xs := #[.tmp 83, .tmp 85]) rfl ?_); (try (refine gate_guard (by rfl) ?_; dsimp only)); at_builtin; refine Kd.R_append (Kd.int .i64) (w0 := w) w.heap.size rfl (.tmp 83) (.tmp 85) 24 3 (.int .i64 0) 8 rfl Try.underlying24 info3 rfl (by decide) (by omega) u9 x9_2 a2 [.int .i64 a2] (fun k_ => some k_ ≠ (.slice Ao18 t144.length co18 : Value).ownBlock) (fun _ => False) rfl rfl ?aP (fun _ hk => hk.elim) ?aF ?aO ?aB ?aS ?aL ?_; (case aP => exact rfl); (case aB => exact (be_ HB.out)); (case aF => exact (fun k_ hk => Kd.fresh' (Kd.R_lt (ro_ HO_149001.out)) k_ hk)); (case aO => exact (ro_ HO_9.out)); (case aS => exact (below_size (be_ HB.out))); (case aL => have := LMc126.out; omega); intro v163 w144 ho hb hg hat; rw [← Ny162.out] at ho; have n0_ := Aside0.mk (Kd.R_after (ok := (fun _ => True)) (by (with_reducible repeat (first | apply Kd.R_alloc | apply Kd.R_drewN | apply Kd.R_drew)); exact Kd.R_mono HO_149001.out (fun _ hk => ⟨trivial, hk⟩)) hg hat); have n1_ := Aside0.mk (blk_grown (g := gb140) (o := .cells #[.int .i64 a0_0, .int .i64 a0_1, .int .i64 a0_2, .int .i64 a0_3, .int .i64 a0_4, .int .i64 a0_5, .int .i64 a0_6, .int .i64 a0_7, .int .i64 a0_8, .int .i64 a0_9, .int .i64 a0_10, .int .i64 a0_11, .int .i64 a0_12, .int .i64 a0_13] 31 (0, 0)) (bl_ BK140.out) hg (Kd.R_ne HO_9.out BK140.out (by decide))); have n2_ := Aside0.mk (blk_grown (g := gb141) (o := .cells #[.int .i64 a1_0, .slice A1_1 l1_1.length c1_1, .int .i64 a1_2] 28 (0, 0)) (bl_ BK141.out) hg (Kd.R_ne HO_9.out BK141.out (by decide))); have n3_ := Aside0.mk (blk_grown (g := gb142) (o := .cells #[.int .i64 0, .slice none 0 0, .int .i64 0] 28 (0, 0)) (bl_ BK142.out) hg (Kd.R_ne HO_9.out BK142.out (by decide))); have n4_ := Aside0.mk (blk_grown (g := gb148) (o := .cells #[.int .i64 t143, .slice Ao18 t144.length co18, .int .i64 t147] 28 (0, 0)) (bl_ BK148.out) hg (Kd.R_ne HO_9.out BK148.out (by decide))); have n5_ := Aside0.mk (hb); have n6_ := Aside0.mk (ho); clear HO_149001 BK140 BK141 BK142 BK148 HB HO_9; have HO_149001 := n0_; have BK140 := n1_; have BK141 := n2_; have BK142 := n3_; have BK148 := n4_; have HB := n5_; have HO164 := n6_; clear n0_ n1_ n2_ n3_ n4_ n5_ n6_; clear ho hb hg hat; obtain ⟨Ao145, co145, eo145⟩ := Kd.R_slice HO164.out; subst eo145; have hnb146 := NB140_142.out; have hnc146 := NB142_140.out; have hnb147 := NB140_148.out; have hnc147 := NB148_140.out; obtain ⟨hcz148_0, hcz148_1, hcz148_2, hcz148_3, hcz148_4, hcz148_5, hcz148_6, hcz148_7, hcz148_8, hcz148_9, hcz148_10, hcz148_11, hcz148_12, hcz148_13, hfz148_0, hfz148_1, hfz148_2, hfz148_3, hfz148_4, hfz148_5, hfz148_6, hfz148_7, hfz148_8, hfz148_9, hfz148_10, hfz148_11, hfz148_12, hfz148_13⟩ := cz14_ BK140.out; have hnb149 := NB148_142.out; have hnc149 := NB142_148.out; obtain ⟨hcz150_0, hcz150_1, hcz150_2, hfz150_0, hfz150_1, hfz150_2⟩ := cz3_ BK148.out; obtain ⟨hcz151_0, hcz151_1, hcz151_2, hfz151_0, hfz151_1, hfz151_2⟩ := cz3_ BK142.out)))
      refine bodyPost_ret (results_ct rfl _ _ gb142 28 #[.int .i64 t143, .slice Ao145 y162.length co145, .int .i64 t147] (0, 0) _ rfl (by refine bl_ ?_; refine blk_put (cs := #[.int .i64 t143, .slice Ao145 y162.length co145, .int .i64 0]) ?_ 2 _ rfl; refine bl_ ?_; refine blk_put (cs := #[.int .i64 t143, .slice none 0 0, .int .i64 0]) ?_ 1 _ rfl; refine bl_ ?_; refine blk_put (cs := #[.int .i64 0, .slice none 0 0, .int .i64 0]) ?_ 0 _ rfl; refine bl_ ?_; refine blk_far ?_ NB142_148.out _; refine bl_ ?_; exact BK142.out) Try.underlying28 rfl (by kernel_rfl)) rfl ?_
      exact ⟨_, by first | rfl | (simp [errW_none, errW_some] <;> rfl) | (simp [*, errW_none, errW_some] <;> rfl), by (with_reducible repeat (first | apply Kd.R_alloc | apply Kd.R_drewN | apply Kd.R_drew)); exact Kd.R_mono (Kd.R_far (p := ⟨gb142, 2, none⟩) (Kd.R_far (p := ⟨gb142, 1, none⟩) (Kd.R_far (p := ⟨gb142, 0, none⟩) (Kd.R_far (p := ⟨gb148, 1, none⟩) (Kd.R_types (Kd.R_types HO164.out BK148.out (by decide)) BK142.out (by decide)) (fun _ hk => hk.1.2) (.slice Ao145 y162.length co145)) (fun _ hk => hk.2) (.int .i64 t143)) (fun _ hk => hk.2) (.slice Ao145 y162.length co145)) (fun _ hk => hk.2) (.int .i64 t147)) (fun _ hk => trivial), be_ HB.out⟩
     rw [if_neg c126] at H
     exact absurd H (by simp)

end Go.Proofs.Ythafbkpoepblgae.MFnExactOnFailure
