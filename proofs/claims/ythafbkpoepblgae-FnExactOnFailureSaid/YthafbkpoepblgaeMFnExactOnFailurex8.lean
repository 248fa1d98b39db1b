-- Written by a program of this session over the kit's print, with stand-ins for the functions that the print leaves; Lean checks it.
import Derived.Test.YthafbkpoepblgaeMFnExactOnFailurex0
import Derived.Test.YthafbkpoepblgaeMFnExactOnFailurex5
import Derived.Test.YthafbkpoepblgaeMFnExactOnFailurex6
import Derived.Test.YthafbkpoepblgaeMFnExactOnFailurex7
namespace Go.Proofs.Ythafbkpoepblgae.MFnExactOnFailure
open Go.RowKit Go.Proofs.YthafbkpoepblgaeW.PrintWords Go.Proofs.YthafbkpoepblgaeW.PrintLast Go.Proofs.YthafbkpoepblgaeW.PrintMore
attribute [local go_sem] max2_int min2_int max_two min_two max_three min_three max_four min_four   -- for this text's walks alone
set_option linter.unusedVariables false
set_option linter.unusedSimpArgs false

/-! ### impl_OnFailure: function 8 -/
def impl_OnFailure.j0 : Nat → Bool → Int → Int → Int → Int → Int → Int → Int → Int → Int → Int → Int → Int → Int → Int → Int → List Int → Int → Int → Int → List Int → Int → Option (Int × List Int × Int × Bool)
 | 0, _, _, _, _, _, _, _, _, _, _, _, _, _, _, _, _, _, _, _, _, _, _ => none
 | k + 1, x42, x221000, x221001, x221002, x221003, x221004, x221005, x221006, x221007, x221008, x221009, x221010, x221011, x221012, x221013, x222000, x222001, x222002, x223000, x230000, x230001, x230002 => if x42 = true then (some (x230000, x230001, x230002, false)) else ((impl_AddTick.f x223000 x221012).bind fun t234 => (if x222000 = 2 then (some (1, ([] : List Int), t234, true)) else (if x222000 = 0 then ((slices_DeleteFunc_int_int.f k x230001 (wrap64 (x223000 - x221010))).bind fun t236 => ((some (([x223000] : List Int) : List Int)).bind fun y239 => (if t236.length + y239.length < 17592186044416 then ((some (t236 ++ y239 : List Int)).bind fun y242 => (if (y242.length : Int) ≥ x221011 then (some (1, ([] : List Int), t234, true)) else (some (x230000, y242, x230002, true)))) else (none)))) else (some (x230000, x230001, x230002, true)))))
def impl_OnFailure.f (k : Nat) (a0_0 : Int) (a0_1 : Int) (a0_2 : Int) (a0_3 : Int) (a0_4 : Int) (a0_5 : Int) (a0_6 : Int) (a0_7 : Int) (a0_8 : Int) (a0_9 : Int) (a0_10 : Int) (a0_11 : Int) (a0_12 : Int) (a0_13 : Int) (a1_0 : Int) (l1_1 : List Int) (a1_2 : Int) (a2 : Int) : Option (Int × List Int × Int × Bool) := (impl_ownBreaker.f a1_0 l1_1 a1_2).bind fun bt224 => ((impl_ConfigOk.f k a0_0 a0_1 a0_2 a0_3 a0_4 a0_5 a0_6 a0_7 a0_8 a0_9 a0_10 a0_11 a0_12 a0_13).bind fun t230 => (if t230 = true then ((impl_BreakerOk.f k a1_0 l1_1 a1_2).bind fun t231 => (if t231 = true then ((impl_TickOk.f a2).bind fun t232 => (if t232 = true then (if (l1_1.length : Int) > 0 then (if 0 ≤ (wrap64 ((l1_1.length : Int) - 1)) then (if (wrap64 ((l1_1.length : Int) - 1)) < (l1_1.length : Int) then (impl_OnFailure.j0 k (decide (a2 < (rd l1_1 (wrap64 ((l1_1.length : Int) - 1))))) a0_0 a0_1 a0_2 a0_3 a0_4 a0_5 a0_6 a0_7 a0_8 a0_9 a0_10 a0_11 a0_12 a0_13 a1_0 l1_1 a1_2 a2 bt224.1 bt224.2.1 bt224.2.2) else (none)) else (none)) else (impl_OnFailure.j0 k false a0_0 a0_1 a0_2 a0_3 a0_4 a0_5 a0_6 a0_7 a0_8 a0_9 a0_10 a0_11 a0_12 a0_13 a1_0 l1_1 a1_2 a2 bt224.1 bt224.2.1 bt224.2.2)) else (impl_OnFailure.j0 k true a0_0 a0_1 a0_2 a0_3 a0_4 a0_5 a0_6 a0_7 a0_8 a0_9 a0_10 a0_11 a0_12 a0_13 a1_0 l1_1 a1_2 a2 bt224.1 bt224.2.1 bt224.2.2))) else (impl_OnFailure.j0 k true a0_0 a0_1 a0_2 a0_3 a0_4 a0_5 a0_6 a0_7 a0_8 a0_9 a0_10 a0_11 a0_12 a0_13 a1_0 l1_1 a1_2 a2 bt224.1 bt224.2.1 bt224.2.2))) else (impl_OnFailure.j0 k true a0_0 a0_1 a0_2 a0_3 a0_4 a0_5 a0_6 a0_7 a0_8 a0_9 a0_10 a0_11 a0_12 a0_13 a1_0 l1_1 a1_2 a2 bt224.1 bt224.2.1 bt224.2.2)))
theorem impl_OnFailure.mono_l : ∀ k, (∀ y0 y1 y2 y3 y4 y5 y6 y7 y8 y9 y10 y11 y12 y13 y14 y15 y16 y17 y18 y19 y20 y21, LeO (impl_OnFailure.j0 k y0 y1 y2 y3 y4 y5 y6 y7 y8 y9 y10 y11 y12 y13 y14 y15 y16 y17 y18 y19 y20 y21) (impl_OnFailure.j0 (k + 1) y0 y1 y2 y3 y4 y5 y6 y7 y8 y9 y10 y11 y12 y13 y14 y15 y16 y17 y18 y19 y20 y21))
 | 0 => fun _ _ _ _ _ _ _ _ _ _ _ _ _ _ _ _ _ _ _ _ _ _ r h => by simp [impl_OnFailure.j0] at h
 | k + 1 => by
  have ih0 := impl_OnFailure.mono_l k
  ·
   intro y0 y1 y2 y3 y4 y5 y6 y7 y8 y9 y10 y11 y12 y13 y14 y15 y16 y17 y18 y19 y20 y21
   unfold impl_OnFailure.j0
   repeat' first
   | (with_reducible exact ih0 _ _ _ _ _ _ _ _ _ _ _ _ _ _ _ _ _ _ _ _ _ _)
   | (with_reducible exact impl_BreakerOk.mono _ _ _ _)
   | (with_reducible exact impl_ConfigOk.mono _ _ _ _ _ _ _ _ _ _ _ _ _ _ _)
   | (with_reducible exact slices_DeleteFunc_int_int.mono _ _ _)
   | (with_reducible exact LeO.refl _)
   | (with_reducible exact LeO.none _)
   | (with_reducible refine LeO.ite ?_ ?_)
   | (with_reducible refine LeO.bind ?_ (fun _ => ?_))
   | exact ih0 _ _ _ _ _ _ _ _ _ _ _ _ _ _ _ _ _ _ _ _ _ _
   | exact impl_BreakerOk.mono _ _ _ _
   | exact impl_ConfigOk.mono _ _ _ _ _ _ _ _ _ _ _ _ _ _ _
   | exact slices_DeleteFunc_int_int.mono _ _ _
   | exact LeO.none _
   | refine LeO.ite ?_ ?_
   | refine LeO.bind ?_ (fun _ => ?_)
theorem impl_OnFailure.mono : ∀ a0 a1 a2 a3 a4 a5 a6 a7 a8 a9 a10 a11 a12 a13 a14 a15 a16 a17 k, LeO (impl_OnFailure.f k a0 a1 a2 a3 a4 a5 a6 a7 a8 a9 a10 a11 a12 a13 a14 a15 a16 a17) (impl_OnFailure.f (k + 1) a0 a1 a2 a3 a4 a5 a6 a7 a8 a9 a10 a11 a12 a13 a14 a15 a16 a17) := by
 intro a0 a1 a2 a3 a4 a5 a6 a7 a8 a9 a10 a11 a12 a13 a14 a15 a16 a17 k
 have ih0 := impl_OnFailure.mono_l k
 unfold impl_OnFailure.f
 repeat' first
  | (with_reducible exact ih0 _ _ _ _ _ _ _ _ _ _ _ _ _ _ _ _ _ _ _ _ _ _)
  | (with_reducible exact impl_BreakerOk.mono _ _ _ _)
  | (with_reducible exact impl_ConfigOk.mono _ _ _ _ _ _ _ _ _ _ _ _ _ _ _)
  | (with_reducible exact slices_DeleteFunc_int_int.mono _ _ _)
  | (with_reducible exact LeO.refl _)
  | (with_reducible exact LeO.none _)
  | (with_reducible refine LeO.ite ?_ ?_)
  | (with_reducible refine LeO.bind ?_ (fun _ => ?_))
  | exact ih0 _ _ _ _ _ _ _ _ _ _ _ _ _ _ _ _ _ _ _ _ _ _
  | exact impl_BreakerOk.mono _ _ _ _
  | exact impl_ConfigOk.mono _ _ _ _ _ _ _ _ _ _ _ _ _ _ _
  | exact slices_DeleteFunc_int_int.mono _ _ _
  | exact LeO.none _
  | refine LeO.ite ?_ ?_
  | refine LeO.bind ?_ (fun _ => ?_)
def impl_OnFailure.T2 : Bool × List (List Nat × List Nat) := (true, [([], []), ([0], [0]), ([1], [1]), ([2, 1], [2]), ([3], [3]), ([4, 3, 3], [3, 4]), ([5, 3], [3, 5]), ([3, 6], [3, 6]), ([7, 5], [7]), ([8], [8]), ([9, 8, 8], [8, 9]), ([10, 8], [8, 10]), ([8, 11], [8, 11]), ([12, 10], [12]), ([13], [13]), ([14, 13], [13, 14]), ([15, 13], [13, 15]), ([16, 13], [13, 16]), ([17, 13, 13], [13, 17]), ([18], [18]), ([18], [18]), ([20, 18], [18, 20]), ([18], [18]), ([22, 18], [18, 22]), ([23, 18], [18, 23]), ([24, 18], [18, 24]), ([21, 25, 18], [18, 21, 25]), ([26, 18], [18, 26]), ([19, 27, 18], [18, 19, 27]), ([18, 28, 13], [13, 18, 28]), ([13, 29], [13, 29])])
def impl_OnFailure.B2 : List Nat := [0, 1, 3, 7, 15, 31, 63, 127, 255, 511, 1023, 2047, 4095, 8191, 16383, 32767, 65535, 131071, 262143, 524287, 524287, 1572863, 524287, 4718591, 13107199, 29884415, 66584575, 133693439, 268435455, 536870911, 1073741823]
theorem impl_OnFailure.tab2 : rtab .any (opsOf Try.f8 2) = impl_OnFailure.T2 := by kernel_rfl
theorem impl_OnFailure.bits2 : waitsOk impl_OnFailure.T2.2 impl_OnFailure.B2 = true := by kernel_rfl
def impl_OnFailure.T9 : Bool × List (List Nat × List Nat) := (true, [([], []), ([0], [0]), ([], []), ([1, 2], [1, 2]), ([], []), ([4], [4]), ([3, 5, 3], [3, 5]), ([0, 1, 2, 3, 4, 5, 6], []), ([7, 6, 6, 0, 1, 2, 3, 4, 5, 6], [6, 7])])
def impl_OnFailure.B9 : List Nat := [0, 1, 0, 7, 0, 16, 63, 127, 255]
theorem impl_OnFailure.tab9 : rtab .any (opsOf Try.f8 9) = impl_OnFailure.T9 := by kernel_rfl
theorem impl_OnFailure.bits9 : waitsOk impl_OnFailure.T9.2 impl_OnFailure.B9 = true := by kernel_rfl
set_option maxHeartbeats 40000000 in
set_option maxRecDepth 100000 in
theorem impl_OnFailure.calls (k : Nat) (a0_0 : Int) (a0_1 : Int) (a0_2 : Int) (a0_3 : Int) (a0_4 : Int) (a0_5 : Int) (a0_6 : Int) (a0_7 : Int) (a0_8 : Int) (a0_9 : Int) (a0_10 : Int) (a0_11 : Int) (a0_12 : Int) (a0_13 : Int) (a1_0 : Int) (A1_1 : Option Addr) (c1_1 : Nat) (l1_1 : List Int) (a1_2 : Int) (a2 : Int) (r1 : Int) (r2 : List Int) (r3 : Int) (r4 : Bool) (w : World) (hr1_1 : Kd.C (Kd.int .i64) w A1_1 l1_1.length l1_1) (hc1_1 : l1_1.length ≤ c1_1) (h : impl_OnFailure.f k a0_0 a0_1 a0_2 a0_3 a0_4 a0_5 a0_6 a0_7 a0_8 a0_9 a0_10 a0_11 a0_12 a0_13 a1_0 l1_1 a1_2 a2 = some (r1, r2, r3, r4)) :
 Calls Try.prog 8 #[.agg #[.int .i64 a0_0, .int .i64 a0_1, .int .i64 a0_2, .int .i64 a0_3, .int .i64 a0_4, .int .i64 a0_5, .int .i64 a0_6, .int .i64 a0_7, .int .i64 a0_8, .int .i64 a0_9, .int .i64 a0_10, .int .i64 a0_11, .int .i64 a0_12, .int .i64 a0_13], .agg #[.int .i64 a1_0, .slice A1_1 l1_1.length c1_1, .int .i64 a1_2], .int .i64 a2] w fun e w' => ∃ v1_ : Value, e = .returned (.tuple #[.agg #[.int .i64 r1, v1_, .int .i64 r3], .bool r4]) ∧ Kd.R (Kd.int .i64) 3 w' w.heap.size (fun _ => True) v1_ r2 ∧ Below w.heap.size w w' := by
 have hu31 := Try.underlying31
 have hu28 := Try.underlying28
 have HR1_1 := Aside0.mk hr1_1
 have HC1_1 := Aside0.mk hc1_1
 clear hr1_1 hc1_1
 have HB := Aside0.mk (Below.refl w.heap.size w)
 have H : ((impl_ownBreaker.f a1_0 l1_1 a1_2).bind fun bt224 => ((impl_ConfigOk.f k a0_0 a0_1 a0_2 a0_3 a0_4 a0_5 a0_6 a0_7 a0_8 a0_9 a0_10 a0_11 a0_12 a0_13).bind fun t230 => (if t230 = true then ((impl_BreakerOk.f k a1_0 l1_1 a1_2).bind fun t231 => (if t231 = true then ((impl_TickOk.f a2).bind fun t232 => (if t232 = true then (if (l1_1.length : Int) > 0 then (if 0 ≤ (wrap64 ((l1_1.length : Int) - 1)) then (if (wrap64 ((l1_1.length : Int) - 1)) < (l1_1.length : Int) then (impl_OnFailure.j0 k (decide (a2 < (rd l1_1 (wrap64 ((l1_1.length : Int) - 1))))) a0_0 a0_1 a0_2 a0_3 a0_4 a0_5 a0_6 a0_7 a0_8 a0_9 a0_10 a0_11 a0_12 a0_13 a1_0 l1_1 a1_2 a2 bt224.1 bt224.2.1 bt224.2.2) else (none)) else (none)) else (impl_OnFailure.j0 k false a0_0 a0_1 a0_2 a0_3 a0_4 a0_5 a0_6 a0_7 a0_8 a0_9 a0_10 a0_11 a0_12 a0_13 a1_0 l1_1 a1_2 a2 bt224.1 bt224.2.1 bt224.2.2)) else (impl_OnFailure.j0 k true a0_0 a0_1 a0_2 a0_3 a0_4 a0_5 a0_6 a0_7 a0_8 a0_9 a0_10 a0_11 a0_12 a0_13 a1_0 l1_1 a1_2 a2 bt224.1 bt224.2.1 bt224.2.2))) else (impl_OnFailure.j0 k true a0_0 a0_1 a0_2 a0_3 a0_4 a0_5 a0_6 a0_7 a0_8 a0_9 a0_10 a0_11 a0_12 a0_13 a1_0 l1_1 a1_2 a2 bt224.1 bt224.2.1 bt224.2.2))) else (impl_OnFailure.j0 k true a0_0 a0_1 a0_2 a0_3 a0_4 a0_5 a0_6 a0_7 a0_8 a0_9 a0_10 a0_11 a0_12 a0_13 a1_0 l1_1 a1_2 a2 bt224.1 bt224.2.1 bt224.2.2)))) = some (r1, r2, r3, r4) := h
 clear h
 replace H := Option.bind_eq_some_iff.mp H
 obtain ⟨⟨t224, t225, t228⟩, A40, H⟩ := H
 replace H : ((impl_ConfigOk.f k a0_0 a0_1 a0_2 a0_3 a0_4 a0_5 a0_6 a0_7 a0_8 a0_9 a0_10 a0_11 a0_12 a0_13).bind fun t230 => (if t230 = true then ((impl_BreakerOk.f k a1_0 l1_1 a1_2).bind fun t231 => (if t231 = true then ((impl_TickOk.f a2).bind fun t232 => (if t232 = true then (if (l1_1.length : Int) > 0 then (if 0 ≤ (wrap64 ((l1_1.length : Int) - 1)) then (if (wrap64 ((l1_1.length : Int) - 1)) < (l1_1.length : Int) then (impl_OnFailure.j0 k (decide (a2 < (rd l1_1 (wrap64 ((l1_1.length : Int) - 1))))) a0_0 a0_1 a0_2 a0_3 a0_4 a0_5 a0_6 a0_7 a0_8 a0_9 a0_10 a0_11 a0_12 a0_13 a1_0 l1_1 a1_2 a2 t224 t225 t228) else (none)) else (none)) else (impl_OnFailure.j0 k false a0_0 a0_1 a0_2 a0_3 a0_4 a0_5 a0_6 a0_7 a0_8 a0_9 a0_10 a0_11 a0_12 a0_13 a1_0 l1_1 a1_2 a2 t224 t225 t228)) else (impl_OnFailure.j0 k true a0_0 a0_1 a0_2 a0_3 a0_4 a0_5 a0_6 a0_7 a0_8 a0_9 a0_10 a0_11 a0_12 a0_13 a1_0 l1_1 a1_2 a2 t224 t225 t228))) else (impl_OnFailure.j0 k true a0_0 a0_1 a0_2 a0_3 a0_4 a0_5 a0_6 a0_7 a0_8 a0_9 a0_10 a0_11 a0_12 a0_13 a1_0 l1_1 a1_2 a2 t224 t225 t228))) else (impl_OnFailure.j0 k true a0_0 a0_1 a0_2 a0_3 a0_4 a0_5 a0_6 a0_7 a0_8 a0_9 a0_10 a0_11 a0_12 a0_13 a1_0 l1_1 a1_2 a2 t224 t225 t228))) = some (r1, r2, r3, r4) := H
 have A4 := Aside0.mk A40
 clear A40
 have HC5 := Aside0.mk H
 clear H
 have hmf : ∀ (fn : Fn) (first cap : Array Value) (w : World), (Instr.makeFunc fn first cap).run Try.prog w = .ok (.func fn first cap) w := fun _ _ _ _ => rfl
 go_enter Try.func8, Try.ntmps8
 go_upto_region 2 with (first | ((with_reducible refine gate_dst (N := 3) rfl ?_); (try (refine gate_guard (by rfl) ?_; dsimp only)); refine box_event ?hg (N := 3) ?hd (cs := #[.int .i64 a0_0, .int .i64 a0_1, .int .i64 a0_2, .int .i64 a0_3, .int .i64 a0_4, .int .i64 a0_5, .int .i64 a0_6, .int .i64 a0_7, .int .i64 a0_8, .int .i64 a0_9, .int .i64 a0_10, .int .i64 a0_11, .int .i64 a0_12, .int .i64 a0_13]) (t := 31) ?hr ?_; (case hd => rfl); (case hg => rfl); (case hr => first | (go_simp; done) | (go_simp; rfl)); intro gb220 hg w6 hbox hb; have n0_ := Aside0.mk (below_step (be_ HB.out) hb); have n1_ := Aside0.mk (hbox); have n2_ := Aside0.mk (gs_ hg (be_ HB.out)); have n3_ := Aside0.mk (gs_ hg (be_ HB.out)); clear HB; have HB := n0_; have BK220 := n1_; have GW220 := n2_; have GE220 := n3_; clear n0_ n1_ n2_ n3_; clear hb hbox hg) | ((with_reducible refine gate_dst (N := 4) rfl ?_); (try (refine gate_guard (by rfl) ?_; dsimp only)); refine box_event ?hg (N := 4) ?hd (cs := #[.int .i64 a1_0, .slice A1_1 l1_1.length c1_1, .int .i64 a1_2]) (t := 28) ?hr ?_; (case hd => rfl); (case hg => rfl); (case hr => first | (go_simp; done) | (go_simp; rfl)); intro gb221 hg w7 hbox hb; have n0_ := Aside0.mk (blk_below (bl_ BK220.out) hb); have n1_ := Aside0.mk (below_step (be_ HB.out) hb); have n2_ := Aside0.mk (hbox); have n3_ := Aside0.mk (gs_ hg (be_ HB.out)); have n4_ := Aside0.mk (gs_ hg (be_ HB.out)); have n5_ := Aside0.mk (nl_ hg (bl_ BK220.out)); have n6_ := Aside0.mk (ng_ hg (bl_ BK220.out)); clear BK220 HB; have BK220 := n0_; have HB := n1_; have BK221 := n2_; have GW221 := n3_; have GE221 := n4_; have NB220_221 := n5_; have NB221_220 := n6_; clear n0_ n1_ n2_ n3_ n4_ n5_ n6_; clear hb hbox hg) | ((with_reducible refine gate_dst (N := 5) rfl ?_); (try (refine gate_guard (by rfl) ?_; dsimp only)); refine box_event ?hg (N := 5) ?hd (cs := #[.int .i64 a2]) (t := 3) ?hr ?_; (case hd => rfl); (case hg => rfl); (case hr => first | (go_simp; done) | (go_simp; rfl)); intro gb222 hg w8 hbox hb; have n0_ := Aside0.mk (blk_below (bl_ BK220.out) hb); have n1_ := Aside0.mk (blk_below (bl_ BK221.out) hb); have n2_ := Aside0.mk (below_step (be_ HB.out) hb); have n3_ := Aside0.mk (hbox); have n4_ := Aside0.mk (gs_ hg (be_ HB.out)); have n5_ := Aside0.mk (gs_ hg (be_ HB.out)); have n6_ := Aside0.mk (nl_ hg (bl_ BK220.out)); have n7_ := Aside0.mk (ng_ hg (bl_ BK220.out)); have n8_ := Aside0.mk (nl_ hg (bl_ BK221.out)); have n9_ := Aside0.mk (ng_ hg (bl_ BK221.out)); clear BK220 BK221 HB; have BK220 := n0_; have BK221 := n1_; have HB := n2_; have BK222 := n3_; have GW222 := n4_; have GE222 := n5_; have NB220_222 := n6_; have NB222_220 := n7_; have NB221_222 := n8_; have NB222_221 := n9_; clear n0_ n1_ n2_ n3_ n4_ n5_ n6_ n7_ n8_ n9_; clear hb hbox hg) | ((with_reducible refine gate_dst (N := 6) rfl ?_); (try (refine gate_guard (by rfl) ?_; dsimp only)); refine box_event ?hg (N := 6) ?hd (cs := #[.int .i64 0, .slice none 0 0, .int .i64 0]) (t := 28) ?hr ?_; (case hd => rfl); (case hg => rfl); (case hr => first | (go_simp; done) | (go_simp; rfl)); intro gb223 hg w9 hbox hb; have n0_ := Aside0.mk (blk_below (bl_ BK220.out) hb); have n1_ := Aside0.mk (blk_below (bl_ BK221.out) hb); have n2_ := Aside0.mk (blk_below (bl_ BK222.out) hb); have n3_ := Aside0.mk (below_step (be_ HB.out) hb); have n4_ := Aside0.mk (hbox); have n5_ := Aside0.mk (gs_ hg (be_ HB.out)); have n6_ := Aside0.mk (gs_ hg (be_ HB.out)); have n7_ := Aside0.mk (nl_ hg (bl_ BK220.out)); have n8_ := Aside0.mk (ng_ hg (bl_ BK220.out)); have n9_ := Aside0.mk (nl_ hg (bl_ BK221.out)); have n10_ := Aside0.mk (ng_ hg (bl_ BK221.out)); have n11_ := Aside0.mk (nl_ hg (bl_ BK222.out)); have n12_ := Aside0.mk (ng_ hg (bl_ BK222.out)); clear BK220 BK221 BK222 HB; have BK220 := n0_; have BK221 := n1_; have BK222 := n2_; have HB := n3_; have BK223 := n4_; have GW223 := n5_; have GE223 := n6_; have NB220_223 := n7_; have NB223_220 := n8_; have NB221_223 := n9_; have NB223_221 := n10_; have NB222_223 := n11_; have NB223_222 := n12_; clear n0_ n1_ n2_ n3_ n4_ n5_ n6_ n7_ n8_ n9_ n10_ n11_ n12_; clear hb hbox hg; have hnb10 := NB221_220.out; have hnc10 := NB220_221.out; have hnb11 := NB221_222.out; have hnc11 := NB222_221.out; have hnb12 := NB221_223.out; have hnc12 := NB223_221.out; obtain ⟨hcz13_0, hcz13_1, hcz13_2, hfz13_0, hfz13_1, hfz13_2⟩ := cz3_ BK221.out) | ((with_reducible refine gate_callee (f := 19) rfl ?_); refine goesL_ (some 11) rfl rfl Try.func19 (by kernel_rfl) rfl #[.agg #[.int .i64 a1_0, .slice A1_1 l1_1.length c1_1, .int .i64 a1_2]] rfl gm_ ?_; (with_reducible refine (impl_ownBreaker.calls a1_0 _ _ l1_1 a1_2 t224 t225 t228 _ ?side1 ?side2 A4.out).mono ?_); (case side1 => repeat (first | exact (Kd.C_below HR1_1.out HB.out) | (with_reducible refine Kd.C_alloc ?_ _) | (with_reducible refine Kd.C_drewN ?_ _) | (with_reducible refine Kd.C_drew ?_))); (case side2 => exact HC1_1.out); rintro e w14 ⟨v226, rfl, ho0, hb⟩; refine ⟨_, rfl, ?_⟩; have NEn := Aside0.mk (show some gb222 ≠ Value.ownBlock v226 from fun e_ => by have q1_ := Kd.R_base ho0 gb222 e_.symm; have q2_ := blk_lt BK222.out; omega); have n0_ := Aside0.mk (Kd.R_lower ho0 (below_size (be_ HB.out))); have n1_ := Aside0.mk (blk_below (bl_ BK220.out) hb); have n2_ := Aside0.mk (blk_below (bl_ BK221.out) hb); have n3_ := Aside0.mk (blk_below (bl_ BK222.out) hb); have n4_ := Aside0.mk (blk_below (bl_ BK223.out) hb); have n5_ := Aside0.mk (below_step (be_ HB.out) hb); clear BK220 BK221 BK222 BK223 HB; have HO227 := n0_; have BK220 := n1_; have BK221 := n2_; have BK222 := n3_; have BK223 := n4_; have HB := n5_; clear n0_ n1_ n2_ n3_ n4_ n5_; (try clear hb); (try clear hb2); (try clear hk); (try clear hi); (try clear ho0)) | ((with_reducible refine gate_dst (N := 8) rfl ?_); (try (refine gate_guard (by rfl) ?_; dsimp only)); refine box_event ?hg (N := 8) ?hd (cs := #[.int .i64 0, .slice none 0 0, .int .i64 0]) (t := 28) ?hr ?_; (case hd => rfl); (case hg => rfl); (case hr => first | (go_simp; done) | (go_simp; rfl)); intro gb229 hg w15 hbox hb; have n0_ := Aside0.mk (Kd.R_below (ro_ HO227.out) hb); have n1_ := Aside0.mk (blk_below (bl_ BK220.out) hb); have n2_ := Aside0.mk (blk_below (bl_ BK221.out) hb); have n3_ := Aside0.mk (blk_below (bl_ BK222.out) hb); have n4_ := Aside0.mk (blk_below (bl_ BK223.out) hb); have n5_ := Aside0.mk (below_step (be_ HB.out) hb); have n6_ := Aside0.mk (hbox); have n7_ := Aside0.mk (gs_ hg (be_ HB.out)); have n8_ := Aside0.mk (gs_ hg (be_ HB.out)); have n9_ := Aside0.mk (nl_ hg (bl_ BK220.out)); have n10_ := Aside0.mk (ng_ hg (bl_ BK220.out)); have n11_ := Aside0.mk (nl_ hg (bl_ BK221.out)); have n12_ := Aside0.mk (ng_ hg (bl_ BK221.out)); have n13_ := Aside0.mk (nl_ hg (bl_ BK222.out)); have n14_ := Aside0.mk (ng_ hg (bl_ BK222.out)); have n15_ := Aside0.mk (nl_ hg (bl_ BK223.out)); have n16_ := Aside0.mk (ng_ hg (bl_ BK223.out)); clear HO227 BK220 BK221 BK222 BK223 HB; have HO227 := n0_; have BK220 := n1_; have BK221 := n2_; have BK222 := n3_; have BK223 := n4_; have HB := n5_; have BK229 := n6_; have GW229 := n7_; have GE229 := n8_; have NB220_229 := n9_; have NB229_220 := n10_; have NB221_229 := n11_; have NB229_221 := n12_; have NB222_229 := n13_; have NB229_222 := n14_; have NB223_229 := n15_; have NB229_223 := n16_; clear n0_ n1_ n2_ n3_ n4_ n5_ n6_ n7_ n8_ n9_ n10_ n11_ n12_ n13_ n14_ n15_ n16_; clear hb hbox hg; have hnb16 := NB229_220.out; have hnc16 := NB220_229.out; have hnb17 := NB229_221.out; have hnc17 := NB221_229.out; have hnb18 := NB229_222.out; have hnc18 := NB222_229.out; have hnb19 := NB229_223.out; have hnc19 := NB223_229.out; obtain ⟨hcz20_0, hcz20_1, hcz20_2, hfz20_0, hfz20_1, hfz20_2⟩ := cz3_ BK229.out; obtain ⟨Ao21, co21, eo21⟩ := Kd.R_slice HO227.out; subst eo21))
 (try simp only [Act.put, List.setIfInBounds_toArray, List.set_cons_zero, List.set_cons_succ])
 go_cut [42] (fun zv42 wc => ∃ (kq : Nat) (x42_4 : Bool), zv42 = .bool x42_4 ∧ Aside0 (impl_OnFailure.j0 kq x42_4 a0_0 a0_1 a0_2 a0_3 a0_4 a0_5 a0_6 a0_7 a0_8 a0_9 a0_10 a0_11 a0_12 a0_13 a1_0 l1_1 a1_2 a2 t224 t225 t228 = some (r1, r2, r3, r4)) ∧ Aside0 (kq ≤ k) ∧ Aside0 (Kd.R (Kd.int .i64) 3 wc w.heap.size (fun _ => True) (.slice Ao21 t225.length co21) t225) ∧ Aside0 (wc.heap[gb220]? = some (.cells #[.int .i64 a0_0, .int .i64 a0_1, .int .i64 a0_2, .int .i64 a0_3, .int .i64 a0_4, .int .i64 a0_5, .int .i64 a0_6, .int .i64 a0_7, .int .i64 a0_8, .int .i64 a0_9, .int .i64 a0_10, .int .i64 a0_11, .int .i64 a0_12, .int .i64 a0_13] 31 (0, 0))) ∧ Aside0 (wc.heap[gb221]? = some (.cells #[.int .i64 a1_0, (.slice A1_1 l1_1.length c1_1), .int .i64 a1_2] 28 (0, 0))) ∧ Aside0 (wc.heap[gb222]? = some (.cells #[.int .i64 a2] 3 (0, 0))) ∧ Aside0 (wc.heap[gb223]? = some (.cells #[.int .i64 0, (.slice none 0 0), .int .i64 0] 28 (0, 0))) ∧ Aside0 (wc.heap[gb229]? = some (.cells #[.int .i64 t224, (.slice Ao21 t225.length co21), .int .i64 t228] 28 (0, 0))) ∧ Aside0 (Below w.heap.size w wc))
 case first =>
  have H := HC5.out
  clear HC5
  replace H := Option.bind_eq_some_iff.mp H
  obtain ⟨t230, A220, H⟩ := H
  replace H : (if t230 = true then ((impl_BreakerOk.f k a1_0 l1_1 a1_2).bind fun t231 => (if t231 = true then ((impl_TickOk.f a2).bind fun t232 => (if t232 = true then (if (l1_1.length : Int) > 0 then (if 0 ≤ (wrap64 ((l1_1.length : Int) - 1)) then (if (wrap64 ((l1_1.length : Int) - 1)) < (l1_1.length : Int) then (impl_OnFailure.j0 k (decide (a2 < (rd l1_1 (wrap64 ((l1_1.length : Int) - 1))))) a0_0 a0_1 a0_2 a0_3 a0_4 a0_5 a0_6 a0_7 a0_8 a0_9 a0_10 a0_11 a0_12 a0_13 a1_0 l1_1 a1_2 a2 t224 t225 t228) else (none)) else (none)) else (impl_OnFailure.j0 k false a0_0 a0_1 a0_2 a0_3 a0_4 a0_5 a0_6 a0_7 a0_8 a0_9 a0_10 a0_11 a0_12 a0_13 a1_0 l1_1 a1_2 a2 t224 t225 t228)) else (impl_OnFailure.j0 k true a0_0 a0_1 a0_2 a0_3 a0_4 a0_5 a0_6 a0_7 a0_8 a0_9 a0_10 a0_11 a0_12 a0_13 a1_0 l1_1 a1_2 a2 t224 t225 t228))) else (impl_OnFailure.j0 k true a0_0 a0_1 a0_2 a0_3 a0_4 a0_5 a0_6 a0_7 a0_8 a0_9 a0_10 a0_11 a0_12 a0_13 a1_0 l1_1 a1_2 a2 t224 t225 t228))) else (impl_OnFailure.j0 k true a0_0 a0_1 a0_2 a0_3 a0_4 a0_5 a0_6 a0_7 a0_8 a0_9 a0_10 a0_11 a0_12 a0_13 a1_0 l1_1 a1_2 a2 t224 t225 t228)) = some (r1, r2, r3, r4) := H
  have A22 := Aside0.mk A220
  clear A220
  by_cases c23 : t230 = true
  ·
   subst c23
   have H1 : ((impl_BreakerOk.f k a1_0 l1_1 a1_2).bind fun t231 => (if t231 = true then ((impl_TickOk.f a2).bind fun t232 => (if t232 = true then (if (l1_1.length : Int) > 0 then (if 0 ≤ (wrap64 ((l1_1.length : Int) - 1)) then (if (wrap64 ((l1_1.length : Int) - 1)) < (l1_1.length : Int) then (impl_OnFailure.j0 k (decide (a2 < (rd l1_1 (wrap64 ((l1_1.length : Int) - 1))))) a0_0 a0_1 a0_2 a0_3 a0_4 a0_5 a0_6 a0_7 a0_8 a0_9 a0_10 a0_11 a0_12 a0_13 a1_0 l1_1 a1_2 a2 t224 t225 t228) else (none)) else (none)) else (impl_OnFailure.j0 k false a0_0 a0_1 a0_2 a0_3 a0_4 a0_5 a0_6 a0_7 a0_8 a0_9 a0_10 a0_11 a0_12 a0_13 a1_0 l1_1 a1_2 a2 t224 t225 t228)) else (impl_OnFailure.j0 k true a0_0 a0_1 a0_2 a0_3 a0_4 a0_5 a0_6 a0_7 a0_8 a0_9 a0_10 a0_11 a0_12 a0_13 a1_0 l1_1 a1_2 a2 t224 t225 t228))) else (impl_OnFailure.j0 k true a0_0 a0_1 a0_2 a0_3 a0_4 a0_5 a0_6 a0_7 a0_8 a0_9 a0_10 a0_11 a0_12 a0_13 a1_0 l1_1 a1_2 a2 t224 t225 t228))) = some (r1, r2, r3, r4) := by rw [if_pos rfl] at H; exact H
   clear H
   have H := H1
   clear H1
   replace H := Option.bind_eq_some_iff.mp H
   obtain ⟨t231, A240, H⟩ := H
   replace H : (if t231 = true then ((impl_TickOk.f a2).bind fun t232 => (if t232 = true then (if (l1_1.length : Int) > 0 then (if 0 ≤ (wrap64 ((l1_1.length : Int) - 1)) then (if (wrap64 ((l1_1.length : Int) - 1)) < (l1_1.length : Int) then (impl_OnFailure.j0 k (decide (a2 < (rd l1_1 (wrap64 ((l1_1.length : Int) - 1))))) a0_0 a0_1 a0_2 a0_3 a0_4 a0_5 a0_6 a0_7 a0_8 a0_9 a0_10 a0_11 a0_12 a0_13 a1_0 l1_1 a1_2 a2 t224 t225 t228) else (none)) else (none)) else (impl_OnFailure.j0 k false a0_0 a0_1 a0_2 a0_3 a0_4 a0_5 a0_6 a0_7 a0_8 a0_9 a0_10 a0_11 a0_12 a0_13 a1_0 l1_1 a1_2 a2 t224 t225 t228)) else (impl_OnFailure.j0 k true a0_0 a0_1 a0_2 a0_3 a0_4 a0_5 a0_6 a0_7 a0_8 a0_9 a0_10 a0_11 a0_12 a0_13 a1_0 l1_1 a1_2 a2 t224 t225 t228))) else (impl_OnFailure.j0 k true a0_0 a0_1 a0_2 a0_3 a0_4 a0_5 a0_6 a0_7 a0_8 a0_9 a0_10 a0_11 a0_12 a0_13 a1_0 l1_1 a1_2 a2 t224 t225 t228)) = some (r1, r2, r3, r4) := H
   have A24 := Aside0.mk A240
   clear A240
   by_cases c25 : t231 = true
   ·
    subst c25
    have H1 : ((impl_TickOk.f a2).bind fun t232 => (if t232 = true then (if (l1_1.length : Int) > 0 then (if 0 ≤ (wrap64 ((l1_1.length : Int) - 1)) then (if (wrap64 ((l1_1.length : Int) - 1)) < (l1_1.length : Int) then (impl_OnFailure.j0 k (decide (a2 < (rd l1_1 (wrap64 ((l1_1.length : Int) - 1))))) a0_0 a0_1 a0_2 a0_3 a0_4 a0_5 a0_6 a0_7 a0_8 a0_9 a0_10 a0_11 a0_12 a0_13 a1_0 l1_1 a1_2 a2 t224 t225 t228) else (none)) else (none)) else (impl_OnFailure.j0 k false a0_0 a0_1 a0_2 a0_3 a0_4 a0_5 a0_6 a0_7 a0_8 a0_9 a0_10 a0_11 a0_12 a0_13 a1_0 l1_1 a1_2 a2 t224 t225 t228)) else (impl_OnFailure.j0 k true a0_0 a0_1 a0_2 a0_3 a0_4 a0_5 a0_6 a0_7 a0_8 a0_9 a0_10 a0_11 a0_12 a0_13 a1_0 l1_1 a1_2 a2 t224 t225 t228))) = some (r1, r2, r3, r4) := by rw [if_pos rfl] at H; exact H
    clear H
    have H := H1
    clear H1
    replace H := Option.bind_eq_some_iff.mp H
    obtain ⟨t232, A260, H⟩ := H
    replace H : (if t232 = true then (if (l1_1.length : Int) > 0 then (if 0 ≤ (wrap64 ((l1_1.length : Int) - 1)) then (if (wrap64 ((l1_1.length : Int) - 1)) < (l1_1.length : Int) then (impl_OnFailure.j0 k (decide (a2 < (rd l1_1 (wrap64 ((l1_1.length : Int) - 1))))) a0_0 a0_1 a0_2 a0_3 a0_4 a0_5 a0_6 a0_7 a0_8 a0_9 a0_10 a0_11 a0_12 a0_13 a1_0 l1_1 a1_2 a2 t224 t225 t228) else (none)) else (none)) else (impl_OnFailure.j0 k false a0_0 a0_1 a0_2 a0_3 a0_4 a0_5 a0_6 a0_7 a0_8 a0_9 a0_10 a0_11 a0_12 a0_13 a1_0 l1_1 a1_2 a2 t224 t225 t228)) else (impl_OnFailure.j0 k true a0_0 a0_1 a0_2 a0_3 a0_4 a0_5 a0_6 a0_7 a0_8 a0_9 a0_10 a0_11 a0_12 a0_13 a1_0 l1_1 a1_2 a2 t224 t225 t228)) = some (r1, r2, r3, r4) := H
    have A26 := Aside0.mk A260
    clear A260
    by_cases c27 : t232 = true
    ·
     subst c27
     have H1 : (if (l1_1.length : Int) > 0 then (if 0 ≤ (wrap64 ((l1_1.length : Int) - 1)) then (if (wrap64 ((l1_1.length : Int) - 1)) < (l1_1.length : Int) then (impl_OnFailure.j0 k (decide (a2 < (rd l1_1 (wrap64 ((l1_1.length : Int) - 1))))) a0_0 a0_1 a0_2 a0_3 a0_4 a0_5 a0_6 a0_7 a0_8 a0_9 a0_10 a0_11 a0_12 a0_13 a1_0 l1_1 a1_2 a2 t224 t225 t228) else (none)) else (none)) else (impl_OnFailure.j0 k false a0_0 a0_1 a0_2 a0_3 a0_4 a0_5 a0_6 a0_7 a0_8 a0_9 a0_10 a0_11 a0_12 a0_13 a1_0 l1_1 a1_2 a2 t224 t225 t228)) = some (r1, r2, r3, r4) := by rw [if_pos rfl] at H; exact H
     clear H
     have H := H1
     clear H1
     by_cases c28 : (l1_1.length : Int) > 0
     ·
      rw [if_pos c28] at H
      have c28b0 : decide (0 < (l1_1.length : Int)) = true := decide_eq_true c28
      have c28b1 : decide (0 < l1_1.length) = true := decide_eq_true (by omega)
      clear c28
      (first | rw [c28b0] | (simp only [i64_w, i32_w]; rw [c28b0]) | skip)
      obtain ⟨ji29, hji29⟩ : ∃ j_ : Int, (wrap64 ((l1_1.length : Int) - 1)) = j_ := ⟨_, rfl⟩
      replace H : (if 0 ≤ (ji29) then (if (ji29) < (l1_1.length : Int) then (impl_OnFailure.j0 k (decide (a2 < (rd l1_1 (ji29)))) a0_0 a0_1 a0_2 a0_3 a0_4 a0_5 a0_6 a0_7 a0_8 a0_9 a0_10 a0_11 a0_12 a0_13 a1_0 l1_1 a1_2 a2 t224 t225 t228) else (none)) else (none)) = some (r1, r2, r3, r4) := by first | (rw [hji29] at H; exact H) | (simp only [hji29] at H ⊢; exact H)
      (try rw [hji29] at A22)
      (try rw [hji29] at A24)
      (try rw [hji29] at A26)
      have hji29w : (IntKind.i64.wrap ((l1_1.length : Int) - 1)) = ji29 := (i64_w _).trans hji29
      by_cases c30 : 0 ≤ (ji29)
      ·
       rw [if_pos c30] at H
       have c30b0 : decide (0 ≤ (ji29)) = true := decide_eq_true c30
       clear c30
       by_cases c31 : (ji29) < (l1_1.length : Int)
       ·
        rw [if_pos c31] at H
        have c31b0 : decide ((ji29) < (l1_1.length : Int)) = true := decide_eq_true c31
        clear c31
        have H' := Aside0.mk H
        clear H
        try go_wp2
        have n0_ : Aside0 (Kd.R (Kd.int .i64) 3 (((w15.setCell ⟨gb229, 0, none⟩ (.int .i64 t224)).setCell ⟨gb229, 1, none⟩ (.slice Ao21 t225.length co21)).setCell ⟨gb229, 2, none⟩ (.int .i64 t228)) w.heap.size (fun _ => True) (.slice Ao21 t225.length co21) t225) := ⟨by (with_reducible repeat (first | apply Kd.R_alloc | apply Kd.R_drewN | apply Kd.R_drew)); exact Kd.R_mono (Kd.R_far (p := ⟨gb229, 2, none⟩) (Kd.R_far (p := ⟨gb229, 1, none⟩) (Kd.R_far (p := ⟨gb229, 0, none⟩) (Kd.R_types HO227.out BK229.out (by decide)) (fun _ hk => hk.2) (.int .i64 t224)) (fun _ hk => hk.2) (.slice Ao21 t225.length co21)) (fun _ hk => hk.2) (.int .i64 t228)) (fun _ hk => trivial)⟩
        have n1_ : Aside0 ((((w15.setCell ⟨gb229, 0, none⟩ (.int .i64 t224)).setCell ⟨gb229, 1, none⟩ (.slice Ao21 t225.length co21)).setCell ⟨gb229, 2, none⟩ (.int .i64 t228)).heap[gb220]? = some (.cells #[.int .i64 a0_0, .int .i64 a0_1, .int .i64 a0_2, .int .i64 a0_3, .int .i64 a0_4, .int .i64 a0_5, .int .i64 a0_6, .int .i64 a0_7, .int .i64 a0_8, .int .i64 a0_9, .int .i64 a0_10, .int .i64 a0_11, .int .i64 a0_12, .int .i64 a0_13] 31 (0, 0))) := ⟨by refine bl_ ?_; refine blk_far ?_ NB220_229.out _; refine bl_ ?_; refine blk_far ?_ NB220_229.out _; refine bl_ ?_; refine blk_far ?_ NB220_229.out _; refine bl_ ?_; exact BK220.out⟩
        have n2_ : Aside0 ((((w15.setCell ⟨gb229, 0, none⟩ (.int .i64 t224)).setCell ⟨gb229, 1, none⟩ (.slice Ao21 t225.length co21)).setCell ⟨gb229, 2, none⟩ (.int .i64 t228)).heap[gb221]? = some (.cells #[.int .i64 a1_0, .slice A1_1 l1_1.length c1_1, .int .i64 a1_2] 28 (0, 0))) := ⟨by refine bl_ ?_; refine blk_far ?_ NB221_229.out _; refine bl_ ?_; refine blk_far ?_ NB221_229.out _; refine bl_ ?_; refine blk_far ?_ NB221_229.out _; refine bl_ ?_; exact BK221.out⟩
        have n3_ : Aside0 ((((w15.setCell ⟨gb229, 0, none⟩ (.int .i64 t224)).setCell ⟨gb229, 1, none⟩ (.slice Ao21 t225.length co21)).setCell ⟨gb229, 2, none⟩ (.int .i64 t228)).heap[gb222]? = some (.cells #[.int .i64 a2] 3 (0, 0))) := ⟨by refine bl_ ?_; refine blk_far ?_ NB222_229.out _; refine bl_ ?_; refine blk_far ?_ NB222_229.out _; refine bl_ ?_; refine blk_far ?_ NB222_229.out _; refine bl_ ?_; exact BK222.out⟩
        have n4_ : Aside0 ((((w15.setCell ⟨gb229, 0, none⟩ (.int .i64 t224)).setCell ⟨gb229, 1, none⟩ (.slice Ao21 t225.length co21)).setCell ⟨gb229, 2, none⟩ (.int .i64 t228)).heap[gb223]? = some (.cells #[.int .i64 0, .slice none 0 0, .int .i64 0] 28 (0, 0))) := ⟨by refine bl_ ?_; refine blk_far ?_ NB223_229.out _; refine bl_ ?_; refine blk_far ?_ NB223_229.out _; refine bl_ ?_; refine blk_far ?_ NB223_229.out _; refine bl_ ?_; exact BK223.out⟩
        have n5_ : Aside0 ((((w15.setCell ⟨gb229, 0, none⟩ (.int .i64 t224)).setCell ⟨gb229, 1, none⟩ (.slice Ao21 t225.length co21)).setCell ⟨gb229, 2, none⟩ (.int .i64 t228)).heap[gb229]? = some (.cells #[.int .i64 t224, .slice Ao21 t225.length co21, .int .i64 t228] 28 (0, 0))) := ⟨by refine bl_ ?_; refine blk_put (cs := #[.int .i64 t224, .slice Ao21 t225.length co21, .int .i64 0]) ?_ 2 _ rfl; refine bl_ ?_; refine blk_put (cs := #[.int .i64 t224, .slice none 0 0, .int .i64 0]) ?_ 1 _ rfl; refine bl_ ?_; refine blk_put (cs := #[.int .i64 0, .slice none 0 0, .int .i64 0]) ?_ 0 _ rfl; refine bl_ ?_; exact BK229.out⟩
        have n6_ : Aside0 (Below w.heap.size w (((w15.setCell ⟨gb229, 0, none⟩ (.int .i64 t224)).setCell ⟨gb229, 1, none⟩ (.slice Ao21 t225.length co21)).setCell ⟨gb229, 2, none⟩ (.int .i64 t228))) := ⟨be_ HB.out⟩
        (try clear HO227)
        (try clear BK220)
        (try clear BK221)
        (try clear BK222)
        (try clear BK223)
        (try clear BK229)
        (try clear HB)
        generalize (((w15.setCell ⟨gb229, 0, none⟩ (.int .i64 t224)).setCell ⟨gb229, 1, none⟩ (.slice Ao21 t225.length co21)).setCell ⟨gb229, 2, none⟩ (.int .i64 t228)) = w32 at n0_ n1_ n2_ n3_ n4_ n5_ n6_ ⊢
        have HO227 := n0_
        have BK220 := n1_
        have BK221 := n2_
        have BK222 := n3_
        have BK223 := n4_
        have BK229 := n5_
        have HB := n6_
        clear n0_ n1_ n2_ n3_ n4_ n5_ n6_
        have n0_ := Aside0.mk (Kd.R_drew HO227.out)
        have n1_ := Aside0.mk (blk_drew BK220.out)
        have n2_ := Aside0.mk (blk_drew BK221.out)
        have n3_ := Aside0.mk (blk_drew BK222.out)
        have n4_ := Aside0.mk (blk_drew BK223.out)
        have n5_ := Aside0.mk (blk_drew BK229.out)
        have n6_ := Aside0.mk (below_drew1 HB.out)
        clear HO227 BK220 BK221 BK222 BK223 BK229 HB
        have HO227 := n0_
        have BK220 := n1_
        have BK221 := n2_
        have BK222 := n3_
        have BK223 := n4_
        have BK229 := n5_
        have HB := n6_
        clear n0_ n1_ n2_ n3_ n4_ n5_ n6_
        have p233 : 0 ≤ ((ji29) : Int) := of_decide_eq_true (by first | (with_reducible assumption) | assumption)
        have q233 : (ji29) < (l1_1.length : Int) := of_decide_eq_true (by first | (with_reducible assumption) | assumption)
        obtain ⟨ad233, e233, hx233_0⟩ := Kd.at_int HR1_1.out (ji29) p233 q233
        have hw233_0 := hx233_0
        cases e233
        replace hx233_0 := (HB.out.cell (World.block_lt_of_cell? w _ hx233_0)).trans hx233_0
        replace p233 := eq_true p233
        replace q233 := eq_true q233
        refine start_ (n := 31) (S := fun w' => w'.cell? ⟨gb220, 0, none⟩ = some (.int .i64 a0_0) ∧ w'.cell? ⟨gb220, 1, none⟩ = some (.int .i64 a0_1) ∧ w'.cell? ⟨gb220, 2, none⟩ = some (.int .i64 a0_2) ∧ w'.cell? ⟨gb220, 3, none⟩ = some (.int .i64 a0_3) ∧ w'.cell? ⟨gb220, 4, none⟩ = some (.int .i64 a0_4) ∧ w'.cell? ⟨gb220, 5, none⟩ = some (.int .i64 a0_5) ∧ w'.cell? ⟨gb220, 6, none⟩ = some (.int .i64 a0_6) ∧ w'.cell? ⟨gb220, 7, none⟩ = some (.int .i64 a0_7) ∧ w'.cell? ⟨gb220, 8, none⟩ = some (.int .i64 a0_8) ∧ w'.cell? ⟨gb220, 9, none⟩ = some (.int .i64 a0_9) ∧ w'.cell? ⟨gb220, 10, none⟩ = some (.int .i64 a0_10) ∧ w'.cell? ⟨gb220, 11, none⟩ = some (.int .i64 a0_11) ∧ w'.cell? ⟨gb220, 12, none⟩ = some (.int .i64 a0_12) ∧ w'.cell? ⟨gb220, 13, none⟩ = some (.int .i64 a0_13) ∧ w'.cell? ⟨gb221, 0, none⟩ = some (.int .i64 a1_0) ∧ w'.cell? ⟨gb221, 1, none⟩ = some (.slice (some ad233) l1_1.length c1_1) ∧ w'.cell? ⟨gb221, 2, none⟩ = some (.int .i64 a1_2) ∧ w'.cell? ⟨gb222, 0, none⟩ = some (.int .i64 a2) ∧ w'.cell? (ad233.add ((ji29)).toNat) = some (.int .i64 (rd l1_1 (ji29)))) (ds := []) #[false, false, false, false, false, false, false, false, false, false, false, false, false, false, false, false, false, false, false, false, false, false, false, false, false, false, false, false, false, false, false] (by kernel_rfl) rfl rfl ⟨(blk_cell BK220.out 0).trans rfl, (blk_cell BK220.out 1).trans rfl, (blk_cell BK220.out 2).trans rfl, (blk_cell BK220.out 3).trans rfl, (blk_cell BK220.out 4).trans rfl, (blk_cell BK220.out 5).trans rfl, (blk_cell BK220.out 6).trans rfl, (blk_cell BK220.out 7).trans rfl, (blk_cell BK220.out 8).trans rfl, (blk_cell BK220.out 9).trans rfl, (blk_cell BK220.out 10).trans rfl, (blk_cell BK220.out 11).trans rfl, (blk_cell BK220.out 12).trans rfl, (blk_cell BK220.out 13).trans rfl, (blk_cell BK221.out 0).trans rfl, (blk_cell BK221.out 1).trans rfl, (blk_cell BK221.out 2).trans rfl, (blk_cell BK222.out 0).trans rfl, ((HB.out.cell (World.block_lt_of_cell? w _ hw233_0)).trans hw233_0)⟩ (fun hHeld => ?_); refine with_tabW impl_OnFailure.tab2 impl_OnFailure.bits2 (fun HT_ HW_ => ?_)
        generalize w32.drew = w33 at HO227 BK220 BK221 BK222 BK223 BK229 HB hx233_0 hHeld ⊢
        refine take_ (i := 0) (N := some 12) (v := ?_) (a' := ?_) #[true, false, false, false, false, false, false, false, false, false, false, false, false, false, false, false, false, false, false, false, false, false, false, false, false, false, false, false, false, false, false] rfl rfl (take_ofW HT_.out HW_.out (by kernel_rfl)) (fun _ _ _ h => h) (Or.inl ⟨by rfl, ?_⟩) hHeld ?_ ?_
        rotate_left
        ·
         rintro w' ⟨s0, s1, s2, s3, s4, s5, s6, s7, s8, s9, s10, s11, s12, s13, s14, s15, s16, s17, s18⟩
         go_simp
         with_reducible rfl
        rotate_left
        ·
         simp only [Act.put, List.setIfInBounds_toArray, List.set_cons_zero, List.set_cons_succ, i64_w, i32_w]
         rfl
        refine one_ (i := 1) (N := some 13) #[true, true, false, false, false, false, false, false, false, false, false, false, false, false, false, false, false, false, false, false, false, false, false, false, false, false, false, false, false, false, false] rfl rfl (one_of HT_.out (by kernel_rfl)) (by decide) (fun K hK => ?_)
        refine goes_ Try.func20 (by kernel_rfl) rfl #[.agg #[.int .i64 a0_0, .int .i64 a0_1, .int .i64 a0_2, .int .i64 a0_3, .int .i64 a0_4, .int .i64 a0_5, .int .i64 a0_6, .int .i64 a0_7, .int .i64 a0_8, .int .i64 a0_9, .int .i64 a0_10, .int .i64 a0_11, .int .i64 a0_12, .int .i64 a0_13]] (by rfl) rfl rfl gm_ ?_
        with_reducible refine (impl_ConfigOk.calls k a0_0 a0_1 a0_2 a0_3 a0_4 a0_5 a0_6 a0_7 a0_8 a0_9 a0_10 a0_11 a0_12 a0_13 true _ A22.out).mono ?_
        rintro e w34 ⟨rfl, hb⟩
        refine ⟨_, rfl, ?_⟩
        have n0_ := Aside0.mk (Kd.R_below (ro_ HO227.out) hb)
        have n1_ := Aside0.mk (blk_below (bl_ BK220.out) hb)
        have n2_ := Aside0.mk (blk_below (bl_ BK221.out) hb)
        have n3_ := Aside0.mk (blk_below (bl_ BK222.out) hb)
        have n4_ := Aside0.mk (blk_below (bl_ BK223.out) hb)
        have n5_ := Aside0.mk (blk_below (bl_ BK229.out) hb)
        have n6_ := Aside0.mk (below_step (be_ HB.out) hb)
        clear HO227 BK220 BK221 BK222 BK223 BK229 HB
        have HO227 := n0_
        have BK220 := n1_
        have BK221 := n2_
        have BK222 := n3_
        have BK223 := n4_
        have BK229 := n5_
        have HB := n6_
        clear n0_ n1_ n2_ n3_ n4_ n5_ n6_
        (try clear hb)
        (try clear hb2)
        (try clear hk)
        (try clear hi)
        refine hK.out _ _ ⟨(blk_cell BK220.out 0).trans rfl, (blk_cell BK220.out 1).trans rfl, (blk_cell BK220.out 2).trans rfl, (blk_cell BK220.out 3).trans rfl, (blk_cell BK220.out 4).trans rfl, (blk_cell BK220.out 5).trans rfl, (blk_cell BK220.out 6).trans rfl, (blk_cell BK220.out 7).trans rfl, (blk_cell BK220.out 8).trans rfl, (blk_cell BK220.out 9).trans rfl, (blk_cell BK220.out 10).trans rfl, (blk_cell BK220.out 11).trans rfl, (blk_cell BK220.out 12).trans rfl, (blk_cell BK220.out 13).trans rfl, (blk_cell BK221.out 0).trans rfl, (blk_cell BK221.out 1).trans rfl, (blk_cell BK221.out 2).trans rfl, (blk_cell BK222.out 0).trans rfl, ((HB.out.cell (World.block_lt_of_cell? w _ hw233_0)).trans hw233_0)⟩ (fun hHeld => ?_)
        clear hK K
        refine norm_ (a' := ?_) ?_ ?_
        rotate_left
        ·
         show Act.put _ (some 13) _ = _
         simp only [Act.put, List.setIfInBounds_toArray, List.set_cons_zero, List.set_cons_succ, i64_w, i32_w]
         rfl
        refine pure_ (i := 2) (N := some 14) (v := ?_) (a' := ?_) #[true, true, true, false, false, false, false, false, false, false, false, false, false, false, false, false, false, false, false, false, false, false, false, false, false, false, false, false, false, false, false] rfl rfl (any_of HT_.out (by kernel_rfl)) (fun _ _ _ h => h) (Or.inl ⟨by rfl, ?_⟩) ?_ ?_
        rotate_left
        ·
         intro w'
         go_simp
         with_reducible rfl
        rotate_left
        ·
         simp only [Act.put, List.setIfInBounds_toArray, List.set_cons_zero, List.set_cons_succ, i64_w, i32_w]
         rfl
        refine pure_ (i := 3) (N := some 15) (v := ?_) (a' := ?_) #[true, true, true, true, false, false, false, false, false, false, false, false, false, false, false, false, false, false, false, false, false, false, false, false, false, false, false, false, false, false, false] rfl rfl (any_of HT_.out (by kernel_rfl)) (fun _ _ _ h => h) (Or.inl ⟨by rfl, ?_⟩) ?_ ?_
        rotate_left
        ·
         intro w'
         go_simp
         with_reducible rfl
        rotate_left
        ·
         simp only [Act.put, List.setIfInBounds_toArray, List.set_cons_zero, List.set_cons_succ, i64_w, i32_w]
         rfl
        refine take_ (i := 4) (N := some 16) (v := ?_) (a' := ?_) #[true, true, true, true, true, false, false, false, false, false, false, false, false, false, false, false, false, false, false, false, false, false, false, false, false, false, false, false, false, false, false] rfl rfl (take_ofW HT_.out HW_.out (by kernel_rfl)) (fun _ _ _ h => h) (Or.inl ⟨by rfl, ?_⟩) hHeld ?_ ?_
        rotate_left
        ·
         rintro w' ⟨s0, s1, s2, s3, s4, s5, s6, s7, s8, s9, s10, s11, s12, s13, s14, s15, s16, s17, s18⟩
         go_simp
         with_reducible rfl
        rotate_left
        ·
         simp only [Act.put, List.setIfInBounds_toArray, List.set_cons_zero, List.set_cons_succ, i64_w, i32_w]
         rfl
        refine one_ (i := 5) (N := some 17) #[true, true, true, true, true, true, false, false, false, false, false, false, false, false, false, false, false, false, false, false, false, false, false, false, false, false, false, false, false, false, false] rfl rfl (one_of HT_.out (by kernel_rfl)) (by decide) (fun K hK => ?_)
        refine goes_ Try.func21 (by kernel_rfl) rfl #[.agg #[.int .i64 a1_0, .slice (some ad233) l1_1.length c1_1, .int .i64 a1_2]] (by rfl) rfl rfl gm_ ?_
        with_reducible refine (impl_BreakerOk.calls k a1_0 _ _ l1_1 a1_2 true _ ?side1 ?side2 A24.out).mono ?_
        (case side1 => repeat (first | exact (Kd.C_below HR1_1.out HB.out) | (with_reducible refine Kd.C_alloc ?_ _) | (with_reducible refine Kd.C_drewN ?_ _) | (with_reducible refine Kd.C_drew ?_)))
        (case side2 => exact HC1_1.out)
        rintro e w35 ⟨rfl, hb⟩
        refine ⟨_, rfl, ?_⟩
        have n0_ := Aside0.mk (Kd.R_below (ro_ HO227.out) hb)
        have n1_ := Aside0.mk (blk_below (bl_ BK220.out) hb)
        have n2_ := Aside0.mk (blk_below (bl_ BK221.out) hb)
        have n3_ := Aside0.mk (blk_below (bl_ BK222.out) hb)
        have n4_ := Aside0.mk (blk_below (bl_ BK223.out) hb)
        have n5_ := Aside0.mk (blk_below (bl_ BK229.out) hb)
        have n6_ := Aside0.mk (below_step (be_ HB.out) hb)
        clear HO227 BK220 BK221 BK222 BK223 BK229 HB
        have HO227 := n0_
        have BK220 := n1_
        have BK221 := n2_
        have BK222 := n3_
        have BK223 := n4_
        have BK229 := n5_
        have HB := n6_
        clear n0_ n1_ n2_ n3_ n4_ n5_ n6_
        (try clear hb)
        (try clear hb2)
        (try clear hk)
        (try clear hi)
        refine hK.out _ _ ⟨(blk_cell BK220.out 0).trans rfl, (blk_cell BK220.out 1).trans rfl, (blk_cell BK220.out 2).trans rfl, (blk_cell BK220.out 3).trans rfl, (blk_cell BK220.out 4).trans rfl, (blk_cell BK220.out 5).trans rfl, (blk_cell BK220.out 6).trans rfl, (blk_cell BK220.out 7).trans rfl, (blk_cell BK220.out 8).trans rfl, (blk_cell BK220.out 9).trans rfl, (blk_cell BK220.out 10).trans rfl, (blk_cell BK220.out 11).trans rfl, (blk_cell BK220.out 12).trans rfl, (blk_cell BK220.out 13).trans rfl, (blk_cell BK221.out 0).trans rfl, (blk_cell BK221.out 1).trans rfl, (blk_cell BK221.out 2).trans rfl, (blk_cell BK222.out 0).trans rfl, ((HB.out.cell (World.block_lt_of_cell? w _ hw233_0)).trans hw233_0)⟩ (fun hHeld => ?_)
        clear hK K
        refine norm_ (a' := ?_) ?_ ?_
        rotate_left
        ·
         show Act.put _ (some 17) _ = _
         simp only [Act.put, List.setIfInBounds_toArray, List.set_cons_zero, List.set_cons_succ, i64_w, i32_w]
         rfl
        refine pure_ (i := 6) (N := some 18) (v := ?_) (a' := ?_) #[true, true, true, true, true, true, true, false, false, false, false, false, false, false, false, false, false, false, false, false, false, false, false, false, false, false, false, false, false, false, false] rfl rfl (any_of HT_.out (by kernel_rfl)) (fun _ _ _ h => h) (Or.inl ⟨by rfl, ?_⟩) ?_ ?_
        rotate_left
        ·
         intro w'
         go_simp
         with_reducible rfl
        rotate_left
        ·
         simp only [Act.put, List.setIfInBounds_toArray, List.set_cons_zero, List.set_cons_succ, i64_w, i32_w]
         rfl
        refine pure_ (i := 7) (N := some 19) (v := ?_) (a' := ?_) #[true, true, true, true, true, true, true, true, false, false, false, false, false, false, false, false, false, false, false, false, false, false, false, false, false, false, false, false, false, false, false] rfl rfl (any_of HT_.out (by kernel_rfl)) (fun _ _ _ h => h) (Or.inl ⟨by rfl, ?_⟩) ?_ ?_
        rotate_left
        ·
         intro w'
         go_simp
         with_reducible rfl
        rotate_left
        ·
         simp only [Act.put, List.setIfInBounds_toArray, List.set_cons_zero, List.set_cons_succ, i64_w, i32_w]
         rfl
        refine pure_ (i := 8) (N := some 20) (v := ?_) (a' := ?_) #[true, true, true, true, true, true, true, true, true, false, false, false, false, false, false, false, false, false, false, false, false, false, false, false, false, false, false, false, false, false, false] rfl rfl (any_of HT_.out (by kernel_rfl)) (fun _ _ _ h => h) (Or.inl ⟨by rfl, ?_⟩) ?_ ?_
        rotate_left
        ·
         intro w'
         go_simp
         with_reducible rfl
        rotate_left
        ·
         simp only [Act.put, List.setIfInBounds_toArray, List.set_cons_zero, List.set_cons_succ, i64_w, i32_w]
         rfl
        refine take_ (i := 9) (N := some 21) (v := ?_) (a' := ?_) #[true, true, true, true, true, true, true, true, true, true, false, false, false, false, false, false, false, false, false, false, false, false, false, false, false, false, false, false, false, false, false] rfl rfl (take_ofW HT_.out HW_.out (by kernel_rfl)) (fun _ _ _ h => h) (Or.inl ⟨by rfl, ?_⟩) hHeld ?_ ?_
        rotate_left
        ·
         rintro w' ⟨s0, s1, s2, s3, s4, s5, s6, s7, s8, s9, s10, s11, s12, s13, s14, s15, s16, s17, s18⟩
         go_simp
         with_reducible rfl
        rotate_left
        ·
         simp only [Act.put, List.setIfInBounds_toArray, List.set_cons_zero, List.set_cons_succ, i64_w, i32_w]
         rfl
        refine one_ (i := 10) (N := some 22) #[true, true, true, true, true, true, true, true, true, true, true, false, false, false, false, false, false, false, false, false, false, false, false, false, false, false, false, false, false, false, false] rfl rfl (one_of HT_.out (by kernel_rfl)) (by decide) (fun K hK => ?_)
        refine goes_ Try.func22 (by kernel_rfl) rfl #[.int .i64 a2] (by rfl) rfl rfl gm_ ?_
        with_reducible refine (impl_TickOk.calls a2 true _ A26.out).mono ?_
        rintro e w' ⟨rfl, ⟨nd, rfl⟩⟩
        refine ⟨_, rfl, ?_⟩
        refine hK.out _ _ ⟨(blk_cell BK220.out 0).trans rfl, (blk_cell BK220.out 1).trans rfl, (blk_cell BK220.out 2).trans rfl, (blk_cell BK220.out 3).trans rfl, (blk_cell BK220.out 4).trans rfl, (blk_cell BK220.out 5).trans rfl, (blk_cell BK220.out 6).trans rfl, (blk_cell BK220.out 7).trans rfl, (blk_cell BK220.out 8).trans rfl, (blk_cell BK220.out 9).trans rfl, (blk_cell BK220.out 10).trans rfl, (blk_cell BK220.out 11).trans rfl, (blk_cell BK220.out 12).trans rfl, (blk_cell BK220.out 13).trans rfl, (blk_cell BK221.out 0).trans rfl, (blk_cell BK221.out 1).trans rfl, (blk_cell BK221.out 2).trans rfl, (blk_cell BK222.out 0).trans rfl, ((HB.out.cell (World.block_lt_of_cell? w _ hw233_0)).trans hw233_0)⟩ (fun hHeld => ?_)
        clear hK K
        refine norm_ (a' := ?_) ?_ ?_
        rotate_left
        ·
         show Act.put _ (some 22) _ = _
         simp only [Act.put, List.setIfInBounds_toArray, List.set_cons_zero, List.set_cons_succ, i64_w, i32_w]
         rfl
        refine pure_ (i := 11) (N := some 23) (v := ?_) (a' := ?_) #[true, true, true, true, true, true, true, true, true, true, true, true, false, false, false, false, false, false, false, false, false, false, false, false, false, false, false, false, false, false, false] rfl rfl (any_of HT_.out (by kernel_rfl)) (fun _ _ _ h => h) (Or.inl ⟨by rfl, ?_⟩) ?_ ?_
        rotate_left
        ·
         intro w'
         go_simp
         with_reducible rfl
        rotate_left
        ·
         simp only [Act.put, List.setIfInBounds_toArray, List.set_cons_zero, List.set_cons_succ, i64_w, i32_w]
         rfl
        refine pure_ (i := 12) (N := some 24) (v := ?_) (a' := ?_) #[true, true, true, true, true, true, true, true, true, true, true, true, true, false, false, false, false, false, false, false, false, false, false, false, false, false, false, false, false, false, false] rfl rfl (any_of HT_.out (by kernel_rfl)) (fun _ _ _ h => h) (Or.inl ⟨by rfl, ?_⟩) ?_ ?_
        rotate_left
        ·
         intro w'
         go_simp
         with_reducible rfl
        rotate_left
        ·
         simp only [Act.put, List.setIfInBounds_toArray, List.set_cons_zero, List.set_cons_succ, i64_w, i32_w]
         rfl
        refine pure_ (i := 13) (N := some 25) (v := ?_) (a' := ?_) #[true, true, true, true, true, true, true, true, true, true, true, true, true, true, false, false, false, false, false, false, false, false, false, false, false, false, false, false, false, false, false] rfl rfl (any_of HT_.out (by kernel_rfl)) (fun _ _ _ h => h) (Or.inl ⟨by rfl, ?_⟩) ?_ ?_
        rotate_left
        ·
         intro w'
         go_simp
         with_reducible rfl
        rotate_left
        ·
         simp only [Act.put, List.setIfInBounds_toArray, List.set_cons_zero, List.set_cons_succ, i64_w, i32_w]
         rfl
        refine pure_ (i := 14) (N := some 26) (v := ?_) (a' := ?_) #[true, true, true, true, true, true, true, true, true, true, true, true, true, true, true, false, false, false, false, false, false, false, false, false, false, false, false, false, false, false, false] rfl rfl (any_of HT_.out (by kernel_rfl)) (fun _ _ _ h => h) (Or.inl ⟨by rfl, ?_⟩) ?_ ?_
        rotate_left
        ·
         intro w'
         go_simp
         with_reducible rfl
        rotate_left
        ·
         simp only [Act.put, List.setIfInBounds_toArray, List.set_cons_zero, List.set_cons_succ, i64_w, i32_w]
         rfl
        refine take_ (i := 15) (N := some 27) (v := ?_) (a' := ?_) #[true, true, true, true, true, true, true, true, true, true, true, true, true, true, true, true, false, false, false, false, false, false, false, false, false, false, false, false, false, false, false] rfl rfl (take_ofW HT_.out HW_.out (by kernel_rfl)) (fun _ _ _ h => h) (Or.inl ⟨by rfl, ?_⟩) hHeld ?_ ?_
        rotate_left
        ·
         rintro w' ⟨s0, s1, s2, s3, s4, s5, s6, s7, s8, s9, s10, s11, s12, s13, s14, s15, s16, s17, s18⟩
         go_simp
         with_reducible rfl
        rotate_left
        ·
         simp only [Act.put, List.setIfInBounds_toArray, List.set_cons_zero, List.set_cons_succ, i64_w, i32_w]
         rfl
        refine pure_ (i := 16) (N := some 28) (v := ?_) (a' := ?_) #[true, true, true, true, true, true, true, true, true, true, true, true, true, true, true, true, true, false, false, false, false, false, false, false, false, false, false, false, false, false, false] rfl rfl (any_of HT_.out (by kernel_rfl)) (fun _ _ _ h => h) (Or.inl ⟨by rfl, ?_⟩) ?_ ?_
        rotate_left
        ·
         intro w'
         go_simp
         with_reducible rfl
        rotate_left
        ·
         simp only [Act.put, List.setIfInBounds_toArray, List.set_cons_zero, List.set_cons_succ, i64_w, i32_w]
         rfl
        refine pure_ (i := 17) (N := some 29) (v := ?_) (a' := ?_) #[true, true, true, true, true, true, true, true, true, true, true, true, true, true, true, true, true, true, false, false, false, false, false, false, false, false, false, false, false, false, false] rfl rfl (any_of HT_.out (by kernel_rfl)) (fun _ _ _ h => h) (Or.inl ⟨by rfl, ?_⟩) ?_ ?_
        rotate_left
        ·
         intro w'
         go_simp
         with_reducible rfl
        rotate_left
        ·
         simp only [Act.put, List.setIfInBounds_toArray, List.set_cons_zero, List.set_cons_succ, i64_w, i32_w]
         rfl
        refine pure_ (i := 18) (N := some 30) (v := ?_) (a' := ?_) #[true, true, true, true, true, true, true, true, true, true, true, true, true, true, true, true, true, true, true, false, false, false, false, false, false, false, false, false, false, false, false] rfl rfl (any_of HT_.out (by kernel_rfl)) (fun _ _ _ h => h) (Or.inl ⟨by rfl, ?_⟩) ?_ ?_
        rotate_left
        ·
         intro w'
         go_simp
         with_reducible rfl
        rotate_left
        ·
         simp only [Act.put, List.setIfInBounds_toArray, List.set_cons_zero, List.set_cons_succ, i64_w, i32_w]
         rfl
        refine pure_ (i := 20) (N := some 32) (v := ?_) (a' := ?_) #[true, true, true, true, true, true, true, true, true, true, true, true, true, true, true, true, true, true, true, false, true, false, false, false, false, false, false, false, false, false, false] rfl rfl (any_of HT_.out (by kernel_rfl)) (fun _ _ _ h => h) (Or.inl ⟨by rfl, ?_⟩) ?_ ?_
        rotate_left
        ·
         intro w'
         go_simp
         with_reducible rfl
        rotate_left
        ·
         simp only [Act.put, List.setIfInBounds_toArray, List.set_cons_zero, List.set_cons_succ, i64_w, i32_w]
         rfl
        refine pure_ (i := 22) (N := some 34) (v := ?_) (a' := ?_) #[true, true, true, true, true, true, true, true, true, true, true, true, true, true, true, true, true, true, true, false, true, false, true, false, false, false, false, false, false, false, false] rfl rfl (any_of HT_.out (by kernel_rfl)) (fun _ _ _ h => h) (Or.inl ⟨by rfl, ?_⟩) ?_ ?_
        rotate_left
        ·
         intro w'
         go_simp
         with_reducible rfl
        rotate_left
        ·
         simp only [Act.put, List.setIfInBounds_toArray, List.set_cons_zero, List.set_cons_succ, i64_w, i32_w]
         rfl
        refine take_ (i := 19) (N := some 31) (v := ?_) (a' := ?_) #[true, true, true, true, true, true, true, true, true, true, true, true, true, true, true, true, true, true, true, true, true, false, true, false, false, false, false, false, false, false, false] rfl rfl (take_ofW HT_.out HW_.out (by kernel_rfl)) (fun _ _ _ h => h) (Or.inl ⟨by rfl, ?_⟩) hHeld ?_ ?_
        rotate_left
        ·
         rintro w' ⟨s0, s1, s2, s3, s4, s5, s6, s7, s8, s9, s10, s11, s12, s13, s14, s15, s16, s17, s18⟩
         go_simp
         with_reducible rfl
        rotate_left
        ·
         simp only [Act.put, List.setIfInBounds_toArray, List.set_cons_zero, List.set_cons_succ, i64_w, i32_w]
         rfl
        refine take_ (i := 21) (N := some 33) (v := ?_) (a' := ?_) #[true, true, true, true, true, true, true, true, true, true, true, true, true, true, true, true, true, true, true, true, true, true, true, false, false, false, false, false, false, false, false] rfl rfl (take_ofW HT_.out HW_.out (by kernel_rfl)) (fun _ _ _ h => h) (Or.inl ⟨by rfl, ?_⟩) hHeld ?_ ?_
        rotate_left
        ·
         rintro w' ⟨s0, s1, s2, s3, s4, s5, s6, s7, s8, s9, s10, s11, s12, s13, s14, s15, s16, s17, s18⟩
         go_simp
         with_reducible rfl
        rotate_left
        ·
         simp only [Act.put, List.setIfInBounds_toArray, List.set_cons_zero, List.set_cons_succ, i64_w, i32_w]
         rfl
        refine take_ (i := 23) (N := some 35) (v := ?_) (a' := ?_) #[true, true, true, true, true, true, true, true, true, true, true, true, true, true, true, true, true, true, true, true, true, true, true, true, false, false, false, false, false, false, false] rfl rfl (take_ofW HT_.out HW_.out (by kernel_rfl)) (fun _ _ _ h => h) (Or.inl ⟨by rfl, ?_⟩) hHeld ?_ ?_
        rotate_left
        ·
         rintro w' ⟨s0, s1, s2, s3, s4, s5, s6, s7, s8, s9, s10, s11, s12, s13, s14, s15, s16, s17, s18⟩
         go_simp
         with_reducible rfl
        rotate_left
        ·
         simp only [Act.put, List.setIfInBounds_toArray, List.set_cons_zero, List.set_cons_succ, i64_w, i32_w]
         rfl
        refine pure_ (i := 24) (N := some 36) (v := ?_) (a' := ?_) #[true, true, true, true, true, true, true, true, true, true, true, true, true, true, true, true, true, true, true, true, true, true, true, true, true, false, false, false, false, false, false] rfl rfl (any_of HT_.out (by kernel_rfl)) (fun _ _ _ h => h) (Or.inl ⟨by rfl, ?_⟩) ?_ ?_
        rotate_left
        ·
         intro w'
         go_simp
         with_reducible rfl
        rotate_left
        ·
         simp only [Act.put, List.setIfInBounds_toArray, List.set_cons_zero, List.set_cons_succ, i64_w, i32_w]
         rfl
        refine pure_ (i := 25) (N := some 37) (v := ?_) (a' := ?_) #[true, true, true, true, true, true, true, true, true, true, true, true, true, true, true, true, true, true, true, true, true, true, true, true, true, true, false, false, false, false, false] rfl rfl (any_of HT_.out (by kernel_rfl)) (fun _ _ _ h => h) (Or.inl ⟨by rfl, ?_⟩) ?_ ?_
        rotate_left
        ·
         intro w'
         go_simp
         with_reducible rfl
        rotate_left
        ·
         simp only [Act.put, List.setIfInBounds_toArray, List.set_cons_zero, List.set_cons_succ, i64_w, i32_w]
         rfl
        refine pure_ (i := 26) (N := some 38) (v := ?_) (a' := ?_) #[true, true, true, true, true, true, true, true, true, true, true, true, true, true, true, true, true, true, true, true, true, true, true, true, true, true, true, false, false, false, false] rfl rfl (any_of HT_.out (by kernel_rfl)) (fun _ _ _ h => h) (Or.inl ⟨by rfl, ?_⟩) ?_ ?_
        rotate_left
        ·
         intro w'
         go_simp
         with_reducible rfl
        rotate_left
        ·
         simp only [Act.put, List.setIfInBounds_toArray, List.set_cons_zero, List.set_cons_succ, i64_w, i32_w]
         rfl
        refine take_ (i := 27) (N := some 39) (v := ?_) (a' := ?_) #[true, true, true, true, true, true, true, true, true, true, true, true, true, true, true, true, true, true, true, true, true, true, true, true, true, true, true, true, false, false, false] rfl rfl (take_ofW HT_.out HW_.out (by kernel_rfl)) (fun _ _ _ h => h) (Or.inl ⟨by rfl, ?_⟩) hHeld ?_ ?_
        rotate_left
        ·
         rintro w' ⟨s0, s1, s2, s3, s4, s5, s6, s7, s8, s9, s10, s11, s12, s13, s14, s15, s16, s17, s18⟩
         go_simp
         with_reducible rfl
        rotate_left
        ·
         simp only [Act.put, List.setIfInBounds_toArray, List.set_cons_zero, List.set_cons_succ, i64_w, i32_w]
         rfl
        refine pure_ (i := 28) (N := some 40) (v := ?_) (a' := ?_) #[true, true, true, true, true, true, true, true, true, true, true, true, true, true, true, true, true, true, true, true, true, true, true, true, true, true, true, true, true, false, false] rfl rfl (any_of HT_.out (by kernel_rfl)) (fun _ _ _ h => h) (Or.inl ⟨by rfl, ?_⟩) ?_ ?_
        rotate_left
        ·
         intro w'
         go_simp
         with_reducible rfl
        rotate_left
        ·
         simp only [Act.put, List.setIfInBounds_toArray, List.set_cons_zero, List.set_cons_succ, i64_w, i32_w]
         rfl
        refine pure_ (i := 29) (N := some 41) (v := ?_) (a' := ?_) #[true, true, true, true, true, true, true, true, true, true, true, true, true, true, true, true, true, true, true, true, true, true, true, true, true, true, true, true, true, true, false] rfl rfl (any_of HT_.out (by kernel_rfl)) (fun _ _ _ h => h) (Or.inl ⟨by rfl, ?_⟩) ?_ ?_
        rotate_left
        ·
         intro w'
         go_simp
         with_reducible rfl
        rotate_left
        ·
         simp only [Act.put, List.setIfInBounds_toArray, List.set_cons_zero, List.set_cons_succ, i64_w, i32_w]
         rfl
        refine pure_ (i := 30) (N := some 42) (v := ?_) (a' := ?_) #[true, true, true, true, true, true, true, true, true, true, true, true, true, true, true, true, true, true, true, true, true, true, true, true, true, true, true, true, true, true, true] rfl rfl (any_of HT_.out (by kernel_rfl)) (fun _ _ _ h => h) (Or.inl ⟨by rfl, ?_⟩) ?_ ?_
        rotate_left
        ·
         intro w'
         go_simp
         with_reducible rfl
        rotate_left
        ·
         simp only [Act.put, List.setIfInBounds_toArray, List.set_cons_zero, List.set_cons_succ, i64_w, i32_w]
         rfl
        refine done_ (done_of HT_.out (by kernel_rfl)) ?_
        try go_wp2
        go_meet
        case rel => exact ⟨_, (decide (a2 < (rd l1_1 (ji29)))), (by first | rfl | (simp; done) | (simp only [← hji29] <;> (first | rfl | simp)) | (simp [*]; done)), H', ⟨by first | omega | exact Nat.le_refl _⟩, ⟨by (with_reducible repeat (first | apply Kd.R_alloc | apply Kd.R_drewN | apply Kd.R_drew)); exact HO227.out⟩, ⟨by refine bl_ ?_; exact BK220.out⟩, ⟨by refine bl_ ?_; exact BK221.out⟩, ⟨by refine bl_ ?_; exact BK222.out⟩, ⟨by refine bl_ ?_; exact BK223.out⟩, ⟨by refine bl_ ?_; exact BK229.out⟩, ⟨be_ HB.out⟩⟩
       rw [if_neg c31] at H
       exact absurd H (by simp)
      rw [if_neg c30] at H
      exact absurd H (by simp)
     rw [if_neg c28] at H
     have c28b0 : decide (0 < (l1_1.length : Int)) = false := decide_eq_false c28
     have c28b1 : decide (0 < l1_1.length) = false := decide_eq_false (by omega)
     clear c28
     (first | rw [c28b0] | (simp only [i64_w, i32_w]; rw [c28b0]) | skip)
     have H' := Aside0.mk H
     clear H
     try go_wp2
     have n0_ : Aside0 (Kd.R (Kd.int .i64) 3 (((w15.setCell ⟨gb229, 0, none⟩ (.int .i64 t224)).setCell ⟨gb229, 1, none⟩ (.slice Ao21 t225.length co21)).setCell ⟨gb229, 2, none⟩ (.int .i64 t228)) w.heap.size (fun _ => True) (.slice Ao21 t225.length co21) t225) := ⟨by (with_reducible repeat (first | apply Kd.R_alloc | apply Kd.R_drewN | apply Kd.R_drew)); exact Kd.R_mono (Kd.R_far (p := ⟨gb229, 2, none⟩) (Kd.R_far (p := ⟨gb229, 1, none⟩) (Kd.R_far (p := ⟨gb229, 0, none⟩) (Kd.R_types HO227.out BK229.out (by decide)) (fun _ hk => hk.2) (.int .i64 t224)) (fun _ hk => hk.2) (.slice Ao21 t225.length co21)) (fun _ hk => hk.2) (.int .i64 t228)) (fun _ hk => trivial)⟩
     have n1_ : Aside0 ((((w15.setCell ⟨gb229, 0, none⟩ (.int .i64 t224)).setCell ⟨gb229, 1, none⟩ (.slice Ao21 t225.length co21)).setCell ⟨gb229, 2, none⟩ (.int .i64 t228)).heap[gb220]? = some (.cells #[.int .i64 a0_0, .int .i64 a0_1, .int .i64 a0_2, .int .i64 a0_3, .int .i64 a0_4, .int .i64 a0_5, .int .i64 a0_6, .int .i64 a0_7, .int .i64 a0_8, .int .i64 a0_9, .int .i64 a0_10, .int .i64 a0_11, .int .i64 a0_12, .int .i64 a0_13] 31 (0, 0))) := ⟨by refine bl_ ?_; refine blk_far ?_ NB220_229.out _; refine bl_ ?_; refine blk_far ?_ NB220_229.out _; refine bl_ ?_; refine blk_far ?_ NB220_229.out _; refine bl_ ?_; exact BK220.out⟩
     have n2_ : Aside0 ((((w15.setCell ⟨gb229, 0, none⟩ (.int .i64 t224)).setCell ⟨gb229, 1, none⟩ (.slice Ao21 t225.length co21)).setCell ⟨gb229, 2, none⟩ (.int .i64 t228)).heap[gb221]? = some (.cells #[.int .i64 a1_0, .slice A1_1 l1_1.length c1_1, .int .i64 a1_2] 28 (0, 0))) := ⟨by refine bl_ ?_; refine blk_far ?_ NB221_229.out _; refine bl_ ?_; refine blk_far ?_ NB221_229.out _; refine bl_ ?_; refine blk_far ?_ NB221_229.out _; refine bl_ ?_; exact BK221.out⟩
     have n3_ : Aside0 ((((w15.setCell ⟨gb229, 0, none⟩ (.int .i64 t224)).setCell ⟨gb229, 1, none⟩ (.slice Ao21 t225.length co21)).setCell ⟨gb229, 2, none⟩ (.int .i64 t228)).heap[gb222]? = some (.cells #[.int .i64 a2] 3 (0, 0))) := ⟨by refine bl_ ?_; refine blk_far ?_ NB222_229.out _; refine bl_ ?_; refine blk_far ?_ NB222_229.out _; refine bl_ ?_; refine blk_far ?_ NB222_229.out _; refine bl_ ?_; exact BK222.out⟩
     have n4_ : Aside0 ((((w15.setCell ⟨gb229, 0, none⟩ (.int .i64 t224)).setCell ⟨gb229, 1, none⟩ (.slice Ao21 t225.length co21)).setCell ⟨gb229, 2, none⟩ (.int .i64 t228)).heap[gb223]? = some (.cells #[.int .i64 0, .slice none 0 0, .int .i64 0] 28 (0, 0))) := ⟨by refine bl_ ?_; refine blk_far ?_ NB223_229.out _; refine bl_ ?_; refine blk_far ?_ NB223_229.out _; refine bl_ ?_; refine blk_far ?_ NB223_229.out _; refine bl_ ?_; exact BK223.out⟩
     have n5_ : Aside0 ((((w15.setCell ⟨gb229, 0, none⟩ (.int .i64 t224)).setCell ⟨gb229, 1, none⟩ (.slice Ao21 t225.length co21)).setCell ⟨gb229, 2, none⟩ (.int .i64 t228)).heap[gb229]? = some (.cells #[.int .i64 t224, .slice Ao21 t225.length co21, .int .i64 t228] 28 (0, 0))) := ⟨by refine bl_ ?_; refine blk_put (cs := #[.int .i64 t224, .slice Ao21 t225.length co21, .int .i64 0]) ?_ 2 _ rfl; refine bl_ ?_; refine blk_put (cs := #[.int .i64 t224, .slice none 0 0, .int .i64 0]) ?_ 1 _ rfl; refine bl_ ?_; refine blk_put (cs := #[.int .i64 0, .slice none 0 0, .int .i64 0]) ?_ 0 _ rfl; refine bl_ ?_; exact BK229.out⟩
     have n6_ : Aside0 (Below w.heap.size w (((w15.setCell ⟨gb229, 0, none⟩ (.int .i64 t224)).setCell ⟨gb229, 1, none⟩ (.slice Ao21 t225.length co21)).setCell ⟨gb229, 2, none⟩ (.int .i64 t228))) := ⟨be_ HB.out⟩
     (try clear HO227)
     (try clear BK220)
     (try clear BK221)
     (try clear BK222)
     (try clear BK223)
     (try clear BK229)
     (try clear HB)
     generalize (((w15.setCell ⟨gb229, 0, none⟩ (.int .i64 t224)).setCell ⟨gb229, 1, none⟩ (.slice Ao21 t225.length co21)).setCell ⟨gb229, 2, none⟩ (.int .i64 t228)) = w36 at n0_ n1_ n2_ n3_ n4_ n5_ n6_ ⊢
     have HO227 := n0_
     have BK220 := n1_
     have BK221 := n2_
     have BK222 := n3_
     have BK223 := n4_
     have BK229 := n5_
     have HB := n6_
     clear n0_ n1_ n2_ n3_ n4_ n5_ n6_
     have n0_ := Aside0.mk (Kd.R_drew HO227.out)
     have n1_ := Aside0.mk (blk_drew BK220.out)
     have n2_ := Aside0.mk (blk_drew BK221.out)
     have n3_ := Aside0.mk (blk_drew BK222.out)
     have n4_ := Aside0.mk (blk_drew BK223.out)
     have n5_ := Aside0.mk (blk_drew BK229.out)
     have n6_ := Aside0.mk (below_drew1 HB.out)
     clear HO227 BK220 BK221 BK222 BK223 BK229 HB
     have HO227 := n0_
     have BK220 := n1_
     have BK221 := n2_
     have BK222 := n3_
     have BK223 := n4_
     have BK229 := n5_
     have HB := n6_
     clear n0_ n1_ n2_ n3_ n4_ n5_ n6_
     refine start_ (n := 31) (S := fun w' => w'.cell? ⟨gb220, 0, none⟩ = some (.int .i64 a0_0) ∧ w'.cell? ⟨gb220, 1, none⟩ = some (.int .i64 a0_1) ∧ w'.cell? ⟨gb220, 2, none⟩ = some (.int .i64 a0_2) ∧ w'.cell? ⟨gb220, 3, none⟩ = some (.int .i64 a0_3) ∧ w'.cell? ⟨gb220, 4, none⟩ = some (.int .i64 a0_4) ∧ w'.cell? ⟨gb220, 5, none⟩ = some (.int .i64 a0_5) ∧ w'.cell? ⟨gb220, 6, none⟩ = some (.int .i64 a0_6) ∧ w'.cell? ⟨gb220, 7, none⟩ = some (.int .i64 a0_7) ∧ w'.cell? ⟨gb220, 8, none⟩ = some (.int .i64 a0_8) ∧ w'.cell? ⟨gb220, 9, none⟩ = some (.int .i64 a0_9) ∧ w'.cell? ⟨gb220, 10, none⟩ = some (.int .i64 a0_10) ∧ w'.cell? ⟨gb220, 11, none⟩ = some (.int .i64 a0_11) ∧ w'.cell? ⟨gb220, 12, none⟩ = some (.int .i64 a0_12) ∧ w'.cell? ⟨gb220, 13, none⟩ = some (.int .i64 a0_13) ∧ w'.cell? ⟨gb221, 0, none⟩ = some (.int .i64 a1_0) ∧ w'.cell? ⟨gb221, 1, none⟩ = some (.slice A1_1 l1_1.length c1_1) ∧ w'.cell? ⟨gb221, 2, none⟩ = some (.int .i64 a1_2) ∧ w'.cell? ⟨gb222, 0, none⟩ = some (.int .i64 a2)) (ds := []) #[false, false, false, false, false, false, false, false, false, false, false, false, false, false, false, false, false, false, false, false, false, false, false, false, false, false, false, false, false, false, false] (by kernel_rfl) rfl rfl (ck14_ BK220.out (ck3_ BK221.out (ce1_ BK222.out))) (fun hHeld => ?_); refine with_tabW impl_OnFailure.tab2 impl_OnFailure.bits2 (fun HT_ HW_ => ?_)
     generalize w36.drew = w37 at HO227 BK220 BK221 BK222 BK223 BK229 HB hHeld ⊢
     refine take_ (i := 0) (N := some 12) (v := ?_) (a' := ?_) #[true, false, false, false, false, false, false, false, false, false, false, false, false, false, false, false, false, false, false, false, false, false, false, false, false, false, false, false, false, false, false] rfl rfl (take_ofW HT_.out HW_.out (by kernel_rfl)) (fun _ _ _ h => h) (Or.inl ⟨by rfl, ?_⟩) hHeld ?_ ?_
     rotate_left
     ·
      rintro w' ⟨s0, s1, s2, s3, s4, s5, s6, s7, s8, s9, s10, s11, s12, s13, s14, s15, s16, s17⟩
      go_simp
      with_reducible rfl
     rotate_left
     ·
      simp only [Act.put, List.setIfInBounds_toArray, List.set_cons_zero, List.set_cons_succ, i64_w, i32_w]
      rfl
     refine one_ (i := 1) (N := some 13) #[true, true, false, false, false, false, false, false, false, false, false, false, false, false, false, false, false, false, false, false, false, false, false, false, false, false, false, false, false, false, false] rfl rfl (one_of HT_.out (by kernel_rfl)) (by decide) (fun K hK => ?_)
     refine goes_ Try.func20 (by kernel_rfl) rfl #[.agg #[.int .i64 a0_0, .int .i64 a0_1, .int .i64 a0_2, .int .i64 a0_3, .int .i64 a0_4, .int .i64 a0_5, .int .i64 a0_6, .int .i64 a0_7, .int .i64 a0_8, .int .i64 a0_9, .int .i64 a0_10, .int .i64 a0_11, .int .i64 a0_12, .int .i64 a0_13]] (by rfl) rfl rfl gm_ ?_
     with_reducible refine (impl_ConfigOk.calls k a0_0 a0_1 a0_2 a0_3 a0_4 a0_5 a0_6 a0_7 a0_8 a0_9 a0_10 a0_11 a0_12 a0_13 true _ A22.out).mono ?_
     rintro e w38 ⟨rfl, hb⟩
     refine ⟨_, rfl, ?_⟩
     have n0_ := Aside0.mk (Kd.R_below (ro_ HO227.out) hb)
     have n1_ := Aside0.mk (blk_below (bl_ BK220.out) hb)
     have n2_ := Aside0.mk (blk_below (bl_ BK221.out) hb)
     have n3_ := Aside0.mk (blk_below (bl_ BK222.out) hb)
     have n4_ := Aside0.mk (blk_below (bl_ BK223.out) hb)
     have n5_ := Aside0.mk (blk_below (bl_ BK229.out) hb)
     have n6_ := Aside0.mk (below_step (be_ HB.out) hb)
     clear HO227 BK220 BK221 BK222 BK223 BK229 HB
     have HO227 := n0_
     have BK220 := n1_
     have BK221 := n2_
     have BK222 := n3_
     have BK223 := n4_
     have BK229 := n5_
     have HB := n6_
     clear n0_ n1_ n2_ n3_ n4_ n5_ n6_
     (try clear hb)
     (try clear hb2)
     (try clear hk)
     (try clear hi)
     refine hK.out _ _ (ck14_ BK220.out (ck3_ BK221.out (ce1_ BK222.out))) (fun hHeld => ?_)
     clear hK K
     refine norm_ (a' := ?_) ?_ ?_
     rotate_left
     ·
      show Act.put _ (some 13) _ = _
      simp only [Act.put, List.setIfInBounds_toArray, List.set_cons_zero, List.set_cons_succ, i64_w, i32_w]
      rfl
     refine pure_ (i := 2) (N := some 14) (v := ?_) (a' := ?_) #[true, true, true, false, false, false, false, false, false, false, false, false, false, false, false, false, false, false, false, false, false, false, false, false, false, false, false, false, false, false, false] rfl rfl (any_of HT_.out (by kernel_rfl)) (fun _ _ _ h => h) (Or.inl ⟨by rfl, ?_⟩) ?_ ?_
     rotate_left
     ·
      intro w'
      go_simp
      with_reducible rfl
     rotate_left
     ·
      simp only [Act.put, List.setIfInBounds_toArray, List.set_cons_zero, List.set_cons_succ, i64_w, i32_w]
      rfl
     refine pure_ (i := 3) (N := some 15) (v := ?_) (a' := ?_) #[true, true, true, true, false, false, false, false, false, false, false, false, false, false, false, false, false, false, false, false, false, false, false, false, false, false, false, false, false, false, false] rfl rfl (any_of HT_.out (by kernel_rfl)) (fun _ _ _ h => h) (Or.inl ⟨by rfl, ?_⟩) ?_ ?_
     rotate_left
     ·
      intro w'
      go_simp
      with_reducible rfl
     rotate_left
     ·
      simp only [Act.put, List.setIfInBounds_toArray, List.set_cons_zero, List.set_cons_succ, i64_w, i32_w]
      rfl
     refine take_ (i := 4) (N := some 16) (v := ?_) (a' := ?_) #[true, true, true, true, true, false, false, false, false, false, false, false, false, false, false, false, false, false, false, false, false, false, false, false, false, false, false, false, false, false, false] rfl rfl (take_ofW HT_.out HW_.out (by kernel_rfl)) (fun _ _ _ h => h) (Or.inl ⟨by rfl, ?_⟩) hHeld ?_ ?_
     rotate_left
     ·
      rintro w' ⟨s0, s1, s2, s3, s4, s5, s6, s7, s8, s9, s10, s11, s12, s13, s14, s15, s16, s17⟩
      go_simp
      with_reducible rfl
     rotate_left
     ·
      simp only [Act.put, List.setIfInBounds_toArray, List.set_cons_zero, List.set_cons_succ, i64_w, i32_w]
      rfl
     refine one_ (i := 5) (N := some 17) #[true, true, true, true, true, true, false, false, false, false, false, false, false, false, false, false, false, false, false, false, false, false, false, false, false, false, false, false, false, false, false] rfl rfl (one_of HT_.out (by kernel_rfl)) (by decide) (fun K hK => ?_)
     refine goes_ Try.func21 (by kernel_rfl) rfl #[.agg #[.int .i64 a1_0, .slice A1_1 l1_1.length c1_1, .int .i64 a1_2]] (by rfl) rfl rfl gm_ ?_
     with_reducible refine (impl_BreakerOk.calls k a1_0 _ _ l1_1 a1_2 true _ ?side1 ?side2 A24.out).mono ?_
     (case side1 => repeat (first | exact (Kd.C_below HR1_1.out HB.out) | (with_reducible refine Kd.C_alloc ?_ _) | (with_reducible refine Kd.C_drewN ?_ _) | (with_reducible refine Kd.C_drew ?_)))
     (case side2 => exact HC1_1.out)
     rintro e w39 ⟨rfl, hb⟩
     refine ⟨_, rfl, ?_⟩
     have n0_ := Aside0.mk (Kd.R_below (ro_ HO227.out) hb)
     have n1_ := Aside0.mk (blk_below (bl_ BK220.out) hb)
     have n2_ := Aside0.mk (blk_below (bl_ BK221.out) hb)
     have n3_ := Aside0.mk (blk_below (bl_ BK222.out) hb)
     have n4_ := Aside0.mk (blk_below (bl_ BK223.out) hb)
     have n5_ := Aside0.mk (blk_below (bl_ BK229.out) hb)
     have n6_ := Aside0.mk (below_step (be_ HB.out) hb)
     clear HO227 BK220 BK221 BK222 BK223 BK229 HB
     have HO227 := n0_
     have BK220 := n1_
     have BK221 := n2_
     have BK222 := n3_
     have BK223 := n4_
     have BK229 := n5_
     have HB := n6_
     clear n0_ n1_ n2_ n3_ n4_ n5_ n6_
     (try clear hb)
     (try clear hb2)
     (try clear hk)
     (try clear hi)
     refine hK.out _ _ (ck14_ BK220.out (ck3_ BK221.out (ce1_ BK222.out))) (fun hHeld => ?_)
     clear hK K
     refine norm_ (a' := ?_) ?_ ?_
     rotate_left
     ·
      show Act.put _ (some 17) _ = _
      simp only [Act.put, List.setIfInBounds_toArray, List.set_cons_zero, List.set_cons_succ, i64_w, i32_w]
      rfl
     refine pure_ (i := 6) (N := some 18) (v := ?_) (a' := ?_) #[true, true, true, true, true, true, true, false, false, false, false, false, false, false, false, false, false, false, false, false, false, false, false, false, false, false, false, false, false, false, false] rfl rfl (any_of HT_.out (by kernel_rfl)) (fun _ _ _ h => h) (Or.inl ⟨by rfl, ?_⟩) ?_ ?_
     rotate_left
     ·
      intro w'
      go_simp
      with_reducible rfl
     rotate_left
     ·
      simp only [Act.put, List.setIfInBounds_toArray, List.set_cons_zero, List.set_cons_succ, i64_w, i32_w]
      rfl
     refine pure_ (i := 7) (N := some 19) (v := ?_) (a' := ?_) #[true, true, true, true, true, true, true, true, false, false, false, false, false, false, false, false, false, false, false, false, false, false, false, false, false, false, false, false, false, false, false] rfl rfl (any_of HT_.out (by kernel_rfl)) (fun _ _ _ h => h) (Or.inl ⟨by rfl, ?_⟩) ?_ ?_
     rotate_left
     ·
      intro w'
      go_simp
      with_reducible rfl
     rotate_left
     ·
      simp only [Act.put, List.setIfInBounds_toArray, List.set_cons_zero, List.set_cons_succ, i64_w, i32_w]
      rfl
     refine pure_ (i := 8) (N := some 20) (v := ?_) (a' := ?_) #[true, true, true, true, true, true, true, true, true, false, false, false, false, false, false, false, false, false, false, false, false, false, false, false, false, false, false, false, false, false, false] rfl rfl (any_of HT_.out (by kernel_rfl)) (fun _ _ _ h => h) (Or.inl ⟨by rfl, ?_⟩) ?_ ?_
     rotate_left
     ·
      intro w'
      go_simp
      with_reducible rfl
     rotate_left
     ·
      simp only [Act.put, List.setIfInBounds_toArray, List.set_cons_zero, List.set_cons_succ, i64_w, i32_w]
      rfl
     refine take_ (i := 9) (N := some 21) (v := ?_) (a' := ?_) #[true, true, true, true, true, true, true, true, true, true, false, false, false, false, false, false, false, false, false, false, false, false, false, false, false, false, false, false, false, false, false] rfl rfl (take_ofW HT_.out HW_.out (by kernel_rfl)) (fun _ _ _ h => h) (Or.inl ⟨by rfl, ?_⟩) hHeld ?_ ?_
     rotate_left
     ·
      rintro w' ⟨s0, s1, s2, s3, s4, s5, s6, s7, s8, s9, s10, s11, s12, s13, s14, s15, s16, s17⟩
      go_simp
      with_reducible rfl
     rotate_left
     ·
      simp only [Act.put, List.setIfInBounds_toArray, List.set_cons_zero, List.set_cons_succ, i64_w, i32_w]
      rfl
     refine one_ (i := 10) (N := some 22) #[true, true, true, true, true, true, true, true, true, true, true, false, false, false, false, false, false, false, false, false, false, false, false, false, false, false, false, false, false, false, false] rfl rfl (one_of HT_.out (by kernel_rfl)) (by decide) (fun K hK => ?_)
     refine goes_ Try.func22 (by kernel_rfl) rfl #[.int .i64 a2] (by rfl) rfl rfl gm_ ?_
     with_reducible refine (impl_TickOk.calls a2 true _ A26.out).mono ?_
     rintro e w' ⟨rfl, ⟨nd, rfl⟩⟩
     refine ⟨_, rfl, ?_⟩
     refine hK.out _ _ (ck14_ BK220.out (ck3_ BK221.out (ce1_ BK222.out))) (fun hHeld => ?_)
     clear hK K
     refine norm_ (a' := ?_) ?_ ?_
     rotate_left
     ·
      show Act.put _ (some 22) _ = _
      simp only [Act.put, List.setIfInBounds_toArray, List.set_cons_zero, List.set_cons_succ, i64_w, i32_w]
      rfl
     refine pure_ (i := 11) (N := some 23) (v := ?_) (a' := ?_) #[true, true, true, true, true, true, true, true, true, true, true, true, false, false, false, false, false, false, false, false, false, false, false, false, false, false, false, false, false, false, false] rfl rfl (any_of HT_.out (by kernel_rfl)) (fun _ _ _ h => h) (Or.inl ⟨by rfl, ?_⟩) ?_ ?_
     rotate_left
     ·
      intro w'
      go_simp
      with_reducible rfl
     rotate_left
     ·
      simp only [Act.put, List.setIfInBounds_toArray, List.set_cons_zero, List.set_cons_succ, i64_w, i32_w]
      rfl
     refine pure_ (i := 12) (N := some 24) (v := ?_) (a' := ?_) #[true, true, true, true, true, true, true, true, true, true, true, true, true, false, false, false, false, false, false, false, false, false, false, false, false, false, false, false, false, false, false] rfl rfl (any_of HT_.out (by kernel_rfl)) (fun _ _ _ h => h) (Or.inl ⟨by rfl, ?_⟩) ?_ ?_
     rotate_left
     ·
      intro w'
      go_simp
      with_reducible rfl
     rotate_left
     ·
      simp only [Act.put, List.setIfInBounds_toArray, List.set_cons_zero, List.set_cons_succ, i64_w, i32_w]
      rfl
     refine pure_ (i := 13) (N := some 25) (v := ?_) (a' := ?_) #[true, true, true, true, true, true, true, true, true, true, true, true, true, true, false, false, false, false, false, false, false, false, false, false, false, false, false, false, false, false, false] rfl rfl (any_of HT_.out (by kernel_rfl)) (fun _ _ _ h => h) (Or.inl ⟨by rfl, ?_⟩) ?_ ?_
     rotate_left
     ·
      intro w'
      go_simp
      with_reducible rfl
     rotate_left
     ·
      simp only [Act.put, List.setIfInBounds_toArray, List.set_cons_zero, List.set_cons_succ, i64_w, i32_w]
      rfl
     refine pure_ (i := 14) (N := some 26) (v := ?_) (a' := ?_) #[true, true, true, true, true, true, true, true, true, true, true, true, true, true, true, false, false, false, false, false, false, false, false, false, false, false, false, false, false, false, false] rfl rfl (any_of HT_.out (by kernel_rfl)) (fun _ _ _ h => h) (Or.inl ⟨by rfl, ?_⟩) ?_ ?_
     rotate_left
     ·
      intro w'
      go_simp
      with_reducible rfl
     rotate_left
     ·
      simp only [Act.put, List.setIfInBounds_toArray, List.set_cons_zero, List.set_cons_succ, i64_w, i32_w]
      rfl
     refine take_ (i := 15) (N := some 27) (v := ?_) (a' := ?_) #[true, true, true, true, true, true, true, true, true, true, true, true, true, true, true, true, false, false, false, false, false, false, false, false, false, false, false, false, false, false, false] rfl rfl (take_ofW HT_.out HW_.out (by kernel_rfl)) (fun _ _ _ h => h) (Or.inl ⟨by rfl, ?_⟩) hHeld ?_ ?_
     rotate_left
     ·
      rintro w' ⟨s0, s1, s2, s3, s4, s5, s6, s7, s8, s9, s10, s11, s12, s13, s14, s15, s16, s17⟩
      go_simp
      with_reducible rfl
     rotate_left
     ·
      simp only [Act.put, List.setIfInBounds_toArray, List.set_cons_zero, List.set_cons_succ, i64_w, i32_w]
      rfl
     refine pure_ (i := 16) (N := some 28) (v := ?_) (a' := ?_) #[true, true, true, true, true, true, true, true, true, true, true, true, true, true, true, true, true, false, false, false, false, false, false, false, false, false, false, false, false, false, false] rfl rfl (any_of HT_.out (by kernel_rfl)) (fun _ _ _ h => h) (Or.inl ⟨by rfl, ?_⟩) ?_ ?_
     rotate_left
     ·
      intro w'
      go_simp
      with_reducible rfl
     rotate_left
     ·
      simp only [Act.put, List.setIfInBounds_toArray, List.set_cons_zero, List.set_cons_succ, i64_w, i32_w]
      rfl
     refine pure_ (i := 17) (N := some 29) (v := ?_) (a' := ?_) #[true, true, true, true, true, true, true, true, true, true, true, true, true, true, true, true, true, true, false, false, false, false, false, false, false, false, false, false, false, false, false] rfl rfl (any_of HT_.out (by kernel_rfl)) (fun _ _ _ h => h) (Or.inl ⟨by rfl, ?_⟩) ?_ ?_
     rotate_left
     ·
      intro w'
      go_simp
      with_reducible rfl
     rotate_left
     ·
      simp only [Act.put, List.setIfInBounds_toArray, List.set_cons_zero, List.set_cons_succ, i64_w, i32_w]
      rfl
     refine pure_ (i := 18) (N := some 30) (v := ?_) (a' := ?_) #[true, true, true, true, true, true, true, true, true, true, true, true, true, true, true, true, true, true, true, false, false, false, false, false, false, false, false, false, false, false, false] rfl rfl (any_of HT_.out (by kernel_rfl)) (fun _ _ _ h => h) (Or.inl ⟨by rfl, ?_⟩) ?_ ?_
     rotate_left
     ·
      intro w'
      go_simp
      with_reducible rfl
     rotate_left
     ·
      simp only [Act.put, List.setIfInBounds_toArray, List.set_cons_zero, List.set_cons_succ, i64_w, i32_w]
      rfl
     refine pure_ (i := 19) (N := some 31) (v := undef) (a' := ?_) #[true, true, true, true, true, true, true, true, true, true, true, true, true, true, true, true, true, true, true, true, false, false, false, false, false, false, false, false, false, false, false] rfl rfl (any_of HT_.out (by kernel_rfl)) (fun _ _ _ h => h) (Or.inr ⟨by rfl, rfl⟩) ?_ ?_
     rotate_left
     ·
      simp only [Act.put, List.setIfInBounds_toArray, List.set_cons_zero, List.set_cons_succ, i64_w, i32_w]
      rfl
     refine pure_ (i := 20) (N := some 32) (v := undef) (a' := ?_) #[true, true, true, true, true, true, true, true, true, true, true, true, true, true, true, true, true, true, true, true, true, false, false, false, false, false, false, false, false, false, false] rfl rfl (any_of HT_.out (by kernel_rfl)) (fun _ _ _ h => h) (Or.inr ⟨by rfl, rfl⟩) ?_ ?_
     rotate_left
     ·
      simp only [Act.put, List.setIfInBounds_toArray, List.set_cons_zero, List.set_cons_succ, i64_w, i32_w]
      rfl
     refine pure_ (i := 21) (N := some 33) (v := undef) (a' := ?_) #[true, true, true, true, true, true, true, true, true, true, true, true, true, true, true, true, true, true, true, true, true, true, false, false, false, false, false, false, false, false, false] rfl rfl (any_of HT_.out (by kernel_rfl)) (fun _ _ _ h => h) (Or.inr ⟨by rfl, rfl⟩) ?_ ?_
     rotate_left
     ·
      simp only [Act.put, List.setIfInBounds_toArray, List.set_cons_zero, List.set_cons_succ, i64_w, i32_w]
      rfl
     refine pure_ (i := 22) (N := some 34) (v := undef) (a' := ?_) #[true, true, true, true, true, true, true, true, true, true, true, true, true, true, true, true, true, true, true, true, true, true, true, false, false, false, false, false, false, false, false] rfl rfl (any_of HT_.out (by kernel_rfl)) (fun _ _ _ h => h) (Or.inr ⟨by rfl, rfl⟩) ?_ ?_
     rotate_left
     ·
      simp only [Act.put, List.setIfInBounds_toArray, List.set_cons_zero, List.set_cons_succ, i64_w, i32_w]
      rfl
     refine pure_ (i := 23) (N := some 35) (v := undef) (a' := ?_) #[true, true, true, true, true, true, true, true, true, true, true, true, true, true, true, true, true, true, true, true, true, true, true, true, false, false, false, false, false, false, false] rfl rfl (any_of HT_.out (by kernel_rfl)) (fun _ _ _ h => h) (Or.inr ⟨by rfl, rfl⟩) ?_ ?_
     rotate_left
     ·
      simp only [Act.put, List.setIfInBounds_toArray, List.set_cons_zero, List.set_cons_succ, i64_w, i32_w]
      rfl
     refine pure_ (i := 24) (N := some 36) (v := undef) (a' := ?_) #[true, true, true, true, true, true, true, true, true, true, true, true, true, true, true, true, true, true, true, true, true, true, true, true, true, false, false, false, false, false, false] rfl rfl (any_of HT_.out (by kernel_rfl)) (fun _ _ _ h => h) (Or.inr ⟨by rfl, rfl⟩) ?_ ?_
     rotate_left
     ·
      simp only [Act.put, List.setIfInBounds_toArray, List.set_cons_zero, List.set_cons_succ, i64_w, i32_w]
      rfl
     refine pure_ (i := 25) (N := some 37) (v := undef) (a' := ?_) #[true, true, true, true, true, true, true, true, true, true, true, true, true, true, true, true, true, true, true, true, true, true, true, true, true, true, false, false, false, false, false] rfl rfl (any_of HT_.out (by kernel_rfl)) (fun _ _ _ h => h) (Or.inr ⟨by rfl, rfl⟩) ?_ ?_
     rotate_left
     ·
      simp only [Act.put, List.setIfInBounds_toArray, List.set_cons_zero, List.set_cons_succ, i64_w, i32_w]
      rfl
     refine pure_ (i := 26) (N := some 38) (v := undef) (a' := ?_) #[true, true, true, true, true, true, true, true, true, true, true, true, true, true, true, true, true, true, true, true, true, true, true, true, true, true, true, false, false, false, false] rfl rfl (any_of HT_.out (by kernel_rfl)) (fun _ _ _ h => h) (Or.inr ⟨by rfl, rfl⟩) ?_ ?_
     rotate_left
     ·
      simp only [Act.put, List.setIfInBounds_toArray, List.set_cons_zero, List.set_cons_succ, i64_w, i32_w]
      rfl
     refine pure_ (i := 27) (N := some 39) (v := undef) (a' := ?_) #[true, true, true, true, true, true, true, true, true, true, true, true, true, true, true, true, true, true, true, true, true, true, true, true, true, true, true, true, false, false, false] rfl rfl (any_of HT_.out (by kernel_rfl)) (fun _ _ _ h => h) (Or.inr ⟨by rfl, rfl⟩) ?_ ?_
     rotate_left
     ·
      simp only [Act.put, List.setIfInBounds_toArray, List.set_cons_zero, List.set_cons_succ, i64_w, i32_w]
      rfl
     refine pure_ (i := 28) (N := some 40) (v := undef) (a' := ?_) #[true, true, true, true, true, true, true, true, true, true, true, true, true, true, true, true, true, true, true, true, true, true, true, true, true, true, true, true, true, false, false] rfl rfl (any_of HT_.out (by kernel_rfl)) (fun _ _ _ h => h) (Or.inr ⟨by rfl, rfl⟩) ?_ ?_
     rotate_left
     ·
      simp only [Act.put, List.setIfInBounds_toArray, List.set_cons_zero, List.set_cons_succ, i64_w, i32_w]
      rfl
     refine pure_ (i := 29) (N := some 41) (v := ?_) (a' := ?_) #[true, true, true, true, true, true, true, true, true, true, true, true, true, true, true, true, true, true, true, true, true, true, true, true, true, true, true, true, true, true, false] rfl rfl (any_of HT_.out (by kernel_rfl)) (fun _ _ _ h => h) (Or.inl ⟨by rfl, ?_⟩) ?_ ?_
     rotate_left
     ·
      intro w'
      go_simp
      with_reducible rfl
     rotate_left
     ·
      simp only [Act.put, List.setIfInBounds_toArray, List.set_cons_zero, List.set_cons_succ, i64_w, i32_w]
      rfl
     refine pure_ (i := 30) (N := some 42) (v := ?_) (a' := ?_) #[true, true, true, true, true, true, true, true, true, true, true, true, true, true, true, true, true, true, true, true, true, true, true, true, true, true, true, true, true, true, true] rfl rfl (any_of HT_.out (by kernel_rfl)) (fun _ _ _ h => h) (Or.inl ⟨by rfl, ?_⟩) ?_ ?_
     rotate_left
     ·
      intro w'
      go_simp
      with_reducible rfl
     rotate_left
     ·
      simp only [Act.put, List.setIfInBounds_toArray, List.set_cons_zero, List.set_cons_succ, i64_w, i32_w]
      rfl
     refine done_ (done_of HT_.out (by kernel_rfl)) ?_
     try go_wp2
     go_meet
     case rel => exact ⟨_, (false), (by first | rfl | (simp; done) | (simp [*]; done)), H', ⟨by first | omega | exact Nat.le_refl _⟩, ⟨by (with_reducible repeat (first | apply Kd.R_alloc | apply Kd.R_drewN | apply Kd.R_drew)); exact HO227.out⟩, ⟨by refine bl_ ?_; exact BK220.out⟩, ⟨by refine bl_ ?_; exact BK221.out⟩, ⟨by refine bl_ ?_; exact BK222.out⟩, ⟨by refine bl_ ?_; exact BK223.out⟩, ⟨by refine bl_ ?_; exact BK229.out⟩, ⟨be_ HB.out⟩⟩
    replace c27 := Bool.eq_false_iff.mpr c27
    subst c27
    have H1 : (impl_OnFailure.j0 k true a0_0 a0_1 a0_2 a0_3 a0_4 a0_5 a0_6 a0_7 a0_8 a0_9 a0_10 a0_11 a0_12 a0_13 a1_0 l1_1 a1_2 a2 t224 t225 t228) = some (r1, r2, r3, r4) := by rw [if_neg (show ¬ (false = true) by decide)] at H; exact H
    clear H
    have H := H1
    clear H1
    have H' := Aside0.mk H
    clear H
    try go_wp2
    have n0_ : Aside0 (Kd.R (Kd.int .i64) 3 (((w15.setCell ⟨gb229, 0, none⟩ (.int .i64 t224)).setCell ⟨gb229, 1, none⟩ (.slice Ao21 t225.length co21)).setCell ⟨gb229, 2, none⟩ (.int .i64 t228)) w.heap.size (fun _ => True) (.slice Ao21 t225.length co21) t225) := ⟨by (with_reducible repeat (first | apply Kd.R_alloc | apply Kd.R_drewN | apply Kd.R_drew)); exact Kd.R_mono (Kd.R_far (p := ⟨gb229, 2, none⟩) (Kd.R_far (p := ⟨gb229, 1, none⟩) (Kd.R_far (p := ⟨gb229, 0, none⟩) (Kd.R_types HO227.out BK229.out (by decide)) (fun _ hk => hk.2) (.int .i64 t224)) (fun _ hk => hk.2) (.slice Ao21 t225.length co21)) (fun _ hk => hk.2) (.int .i64 t228)) (fun _ hk => trivial)⟩
    have n1_ : Aside0 ((((w15.setCell ⟨gb229, 0, none⟩ (.int .i64 t224)).setCell ⟨gb229, 1, none⟩ (.slice Ao21 t225.length co21)).setCell ⟨gb229, 2, none⟩ (.int .i64 t228)).heap[gb220]? = some (.cells #[.int .i64 a0_0, .int .i64 a0_1, .int .i64 a0_2, .int .i64 a0_3, .int .i64 a0_4, .int .i64 a0_5, .int .i64 a0_6, .int .i64 a0_7, .int .i64 a0_8, .int .i64 a0_9, .int .i64 a0_10, .int .i64 a0_11, .int .i64 a0_12, .int .i64 a0_13] 31 (0, 0))) := ⟨by refine bl_ ?_; refine blk_far ?_ NB220_229.out _; refine bl_ ?_; refine blk_far ?_ NB220_229.out _; refine bl_ ?_; refine blk_far ?_ NB220_229.out _; refine bl_ ?_; exact BK220.out⟩
    have n2_ : Aside0 ((((w15.setCell ⟨gb229, 0, none⟩ (.int .i64 t224)).setCell ⟨gb229, 1, none⟩ (.slice Ao21 t225.length co21)).setCell ⟨gb229, 2, none⟩ (.int .i64 t228)).heap[gb221]? = some (.cells #[.int .i64 a1_0, .slice A1_1 l1_1.length c1_1, .int .i64 a1_2] 28 (0, 0))) := ⟨by refine bl_ ?_; refine blk_far ?_ NB221_229.out _; refine bl_ ?_; refine blk_far ?_ NB221_229.out _; refine bl_ ?_; refine blk_far ?_ NB221_229.out _; refine bl_ ?_; exact BK221.out⟩
    have n3_ : Aside0 ((((w15.setCell ⟨gb229, 0, none⟩ (.int .i64 t224)).setCell ⟨gb229, 1, none⟩ (.slice Ao21 t225.length co21)).setCell ⟨gb229, 2, none⟩ (.int .i64 t228)).heap[gb222]? = some (.cells #[.int .i64 a2] 3 (0, 0))) := ⟨by refine bl_ ?_; refine blk_far ?_ NB222_229.out _; refine bl_ ?_; refine blk_far ?_ NB222_229.out _; refine bl_ ?_; refine blk_far ?_ NB222_229.out _; refine bl_ ?_; exact BK222.out⟩
    have n4_ : Aside0 ((((w15.setCell ⟨gb229, 0, none⟩ (.int .i64 t224)).setCell ⟨gb229, 1, none⟩ (.slice Ao21 t225.length co21)).setCell ⟨gb229, 2, none⟩ (.int .i64 t228)).heap[gb223]? = some (.cells #[.int .i64 0, .slice none 0 0, .int .i64 0] 28 (0, 0))) := ⟨by refine bl_ ?_; refine blk_far ?_ NB223_229.out _; refine bl_ ?_; refine blk_far ?_ NB223_229.out _; refine bl_ ?_; refine blk_far ?_ NB223_229.out _; refine bl_ ?_; exact BK223.out⟩
    have n5_ : Aside0 ((((w15.setCell ⟨gb229, 0, none⟩ (.int .i64 t224)).setCell ⟨gb229, 1, none⟩ (.slice Ao21 t225.length co21)).setCell ⟨gb229, 2, none⟩ (.int .i64 t228)).heap[gb229]? = some (.cells #[.int .i64 t224, .slice Ao21 t225.length co21, .int .i64 t228] 28 (0, 0))) := ⟨by refine bl_ ?_; refine blk_put (cs := #[.int .i64 t224, .slice Ao21 t225.length co21, .int .i64 0]) ?_ 2 _ rfl; refine bl_ ?_; refine blk_put (cs := #[.int .i64 t224, .slice none 0 0, .int .i64 0]) ?_ 1 _ rfl; refine bl_ ?_; refine blk_put (cs := #[.int .i64 0, .slice none 0 0, .int .i64 0]) ?_ 0 _ rfl; refine bl_ ?_; exact BK229.out⟩
    have n6_ : Aside0 (Below w.heap.size w (((w15.setCell ⟨gb229, 0, none⟩ (.int .i64 t224)).setCell ⟨gb229, 1, none⟩ (.slice Ao21 t225.length co21)).setCell ⟨gb229, 2, none⟩ (.int .i64 t228))) := ⟨be_ HB.out⟩
    (try clear HO227)
    (try clear BK220)
    (try clear BK221)
    (try clear BK222)
    (try clear BK223)
    (try clear BK229)
    (try clear HB)
    generalize (((w15.setCell ⟨gb229, 0, none⟩ (.int .i64 t224)).setCell ⟨gb229, 1, none⟩ (.slice Ao21 t225.length co21)).setCell ⟨gb229, 2, none⟩ (.int .i64 t228)) = w40 at n0_ n1_ n2_ n3_ n4_ n5_ n6_ ⊢
    have HO227 := n0_
    have BK220 := n1_
    have BK221 := n2_
    have BK222 := n3_
    have BK223 := n4_
    have BK229 := n5_
    have HB := n6_
    clear n0_ n1_ n2_ n3_ n4_ n5_ n6_
    have n0_ := Aside0.mk (Kd.R_drew HO227.out)
    have n1_ := Aside0.mk (blk_drew BK220.out)
    have n2_ := Aside0.mk (blk_drew BK221.out)
    have n3_ := Aside0.mk (blk_drew BK222.out)
    have n4_ := Aside0.mk (blk_drew BK223.out)
    have n5_ := Aside0.mk (blk_drew BK229.out)
    have n6_ := Aside0.mk (below_drew1 HB.out)
    clear HO227 BK220 BK221 BK222 BK223 BK229 HB
    have HO227 := n0_
    have BK220 := n1_
    have BK221 := n2_
    have BK222 := n3_
    have BK223 := n4_
    have BK229 := n5_
    have HB := n6_
    clear n0_ n1_ n2_ n3_ n4_ n5_ n6_
    refine start_ (n := 31) (S := fun w' => w'.cell? ⟨gb220, 0, none⟩ = some (.int .i64 a0_0) ∧ w'.cell? ⟨gb220, 1, none⟩ = some (.int .i64 a0_1) ∧ w'.cell? ⟨gb220, 2, none⟩ = some (.int .i64 a0_2) ∧ w'.cell? ⟨gb220, 3, none⟩ = some (.int .i64 a0_3) ∧ w'.cell? ⟨gb220, 4, none⟩ = some (.int .i64 a0_4) ∧ w'.cell? ⟨gb220, 5, none⟩ = some (.int .i64 a0_5) ∧ w'.cell? ⟨gb220, 6, none⟩ = some (.int .i64 a0_6) ∧ w'.cell? ⟨gb220, 7, none⟩ = some (.int .i64 a0_7) ∧ w'.cell? ⟨gb220, 8, none⟩ = some (.int .i64 a0_8) ∧ w'.cell? ⟨gb220, 9, none⟩ = some (.int .i64 a0_9) ∧ w'.cell? ⟨gb220, 10, none⟩ = some (.int .i64 a0_10) ∧ w'.cell? ⟨gb220, 11, none⟩ = some (.int .i64 a0_11) ∧ w'.cell? ⟨gb220, 12, none⟩ = some (.int .i64 a0_12) ∧ w'.cell? ⟨gb220, 13, none⟩ = some (.int .i64 a0_13) ∧ w'.cell? ⟨gb221, 0, none⟩ = some (.int .i64 a1_0) ∧ w'.cell? ⟨gb221, 1, none⟩ = some (.slice A1_1 l1_1.length c1_1) ∧ w'.cell? ⟨gb221, 2, none⟩ = some (.int .i64 a1_2) ∧ w'.cell? ⟨gb222, 0, none⟩ = some (.int .i64 a2)) (ds := []) #[false, false, false, false, false, false, false, false, false, false, false, false, false, false, false, false, false, false, false, false, false, false, false, false, false, false, false, false, false, false, false] (by kernel_rfl) rfl rfl (ck14_ BK220.out (ck3_ BK221.out (ce1_ BK222.out))) (fun hHeld => ?_); refine with_tabW impl_OnFailure.tab2 impl_OnFailure.bits2 (fun HT_ HW_ => ?_)
    generalize w40.drew = w41 at HO227 BK220 BK221 BK222 BK223 BK229 HB hHeld ⊢
    refine take_ (i := 0) (N := some 12) (v := ?_) (a' := ?_) #[true, false, false, false, false, false, false, false, false, false, false, false, false, false, false, false, false, false, false, false, false, false, false, false, false, false, false, false, false, false, false] rfl rfl (take_ofW HT_.out HW_.out (by kernel_rfl)) (fun _ _ _ h => h) (Or.inl ⟨by rfl, ?_⟩) hHeld ?_ ?_
    rotate_left
    ·
     rintro w' ⟨s0, s1, s2, s3, s4, s5, s6, s7, s8, s9, s10, s11, s12, s13, s14, s15, s16, s17⟩
     go_simp
     with_reducible rfl
    rotate_left
    ·
     simp only [Act.put, List.setIfInBounds_toArray, List.set_cons_zero, List.set_cons_succ, i64_w, i32_w]
     rfl
    refine one_ (i := 1) (N := some 13) #[true, true, false, false, false, false, false, false, false, false, false, false, false, false, false, false, false, false, false, false, false, false, false, false, false, false, false, false, false, false, false] rfl rfl (one_of HT_.out (by kernel_rfl)) (by decide) (fun K hK => ?_)
    refine goes_ Try.func20 (by kernel_rfl) rfl #[.agg #[.int .i64 a0_0, .int .i64 a0_1, .int .i64 a0_2, .int .i64 a0_3, .int .i64 a0_4, .int .i64 a0_5, .int .i64 a0_6, .int .i64 a0_7, .int .i64 a0_8, .int .i64 a0_9, .int .i64 a0_10, .int .i64 a0_11, .int .i64 a0_12, .int .i64 a0_13]] (by rfl) rfl rfl gm_ ?_
    with_reducible refine (impl_ConfigOk.calls k a0_0 a0_1 a0_2 a0_3 a0_4 a0_5 a0_6 a0_7 a0_8 a0_9 a0_10 a0_11 a0_12 a0_13 true _ A22.out).mono ?_
    rintro e w42 ⟨rfl, hb⟩
    refine ⟨_, rfl, ?_⟩
    have n0_ := Aside0.mk (Kd.R_below (ro_ HO227.out) hb)
    have n1_ := Aside0.mk (blk_below (bl_ BK220.out) hb)
    have n2_ := Aside0.mk (blk_below (bl_ BK221.out) hb)
    have n3_ := Aside0.mk (blk_below (bl_ BK222.out) hb)
    have n4_ := Aside0.mk (blk_below (bl_ BK223.out) hb)
    have n5_ := Aside0.mk (blk_below (bl_ BK229.out) hb)
    have n6_ := Aside0.mk (below_step (be_ HB.out) hb)
    clear HO227 BK220 BK221 BK222 BK223 BK229 HB
    have HO227 := n0_
    have BK220 := n1_
    have BK221 := n2_
    have BK222 := n3_
    have BK223 := n4_
    have BK229 := n5_
    have HB := n6_
    clear n0_ n1_ n2_ n3_ n4_ n5_ n6_
    (try clear hb)
    (try clear hb2)
    (try clear hk)
    (try clear hi)
    refine hK.out _ _ (ck14_ BK220.out (ck3_ BK221.out (ce1_ BK222.out))) (fun hHeld => ?_)
    clear hK K
    refine norm_ (a' := ?_) ?_ ?_
    rotate_left
    ·
     show Act.put _ (some 13) _ = _
     simp only [Act.put, List.setIfInBounds_toArray, List.set_cons_zero, List.set_cons_succ, i64_w, i32_w]
     rfl
    refine pure_ (i := 2) (N := some 14) (v := ?_) (a' := ?_) #[true, true, true, false, false, false, false, false, false, false, false, false, false, false, false, false, false, false, false, false, false, false, false, false, false, false, false, false, false, false, false] rfl rfl (any_of HT_.out (by kernel_rfl)) (fun _ _ _ h => h) (Or.inl ⟨by rfl, ?_⟩) ?_ ?_
    rotate_left
    ·
     intro w'
     go_simp
     with_reducible rfl
    rotate_left
    ·
     simp only [Act.put, List.setIfInBounds_toArray, List.set_cons_zero, List.set_cons_succ, i64_w, i32_w]
     rfl
    refine pure_ (i := 3) (N := some 15) (v := ?_) (a' := ?_) #[true, true, true, true, false, false, false, false, false, false, false, false, false, false, false, false, false, false, false, false, false, false, false, false, false, false, false, false, false, false, false] rfl rfl (any_of HT_.out (by kernel_rfl)) (fun _ _ _ h => h) (Or.inl ⟨by rfl, ?_⟩) ?_ ?_
    rotate_left
    ·
     intro w'
     go_simp
     with_reducible rfl
    rotate_left
    ·
     simp only [Act.put, List.setIfInBounds_toArray, List.set_cons_zero, List.set_cons_succ, i64_w, i32_w]
     rfl
    refine take_ (i := 4) (N := some 16) (v := ?_) (a' := ?_) #[true, true, true, true, true, false, false, false, false, false, false, false, false, false, false, false, false, false, false, false, false, false, false, false, false, false, false, false, false, false, false] rfl rfl (take_ofW HT_.out HW_.out (by kernel_rfl)) (fun _ _ _ h => h) (Or.inl ⟨by rfl, ?_⟩) hHeld ?_ ?_
    rotate_left
    ·
     rintro w' ⟨s0, s1, s2, s3, s4, s5, s6, s7, s8, s9, s10, s11, s12, s13, s14, s15, s16, s17⟩
     go_simp
     with_reducible rfl
    rotate_left
    ·
     simp only [Act.put, List.setIfInBounds_toArray, List.set_cons_zero, List.set_cons_succ, i64_w, i32_w]
     rfl
    refine one_ (i := 5) (N := some 17) #[true, true, true, true, true, true, false, false, false, false, false, false, false, false, false, false, false, false, false, false, false, false, false, false, false, false, false, false, false, false, false] rfl rfl (one_of HT_.out (by kernel_rfl)) (by decide) (fun K hK => ?_)
    refine goes_ Try.func21 (by kernel_rfl) rfl #[.agg #[.int .i64 a1_0, .slice A1_1 l1_1.length c1_1, .int .i64 a1_2]] (by rfl) rfl rfl gm_ ?_
    with_reducible refine (impl_BreakerOk.calls k a1_0 _ _ l1_1 a1_2 true _ ?side1 ?side2 A24.out).mono ?_
    (case side1 => repeat (first | exact (Kd.C_below HR1_1.out HB.out) | (with_reducible refine Kd.C_alloc ?_ _) | (with_reducible refine Kd.C_drewN ?_ _) | (with_reducible refine Kd.C_drew ?_)))
    (case side2 => exact HC1_1.out)
    rintro e w43 ⟨rfl, hb⟩
    refine ⟨_, rfl, ?_⟩
    have n0_ := Aside0.mk (Kd.R_below (ro_ HO227.out) hb)
    have n1_ := Aside0.mk (blk_below (bl_ BK220.out) hb)
    have n2_ := Aside0.mk (blk_below (bl_ BK221.out) hb)
    have n3_ := Aside0.mk (blk_below (bl_ BK222.out) hb)
    have n4_ := Aside0.mk (blk_below (bl_ BK223.out) hb)
    have n5_ := Aside0.mk (blk_below (bl_ BK229.out) hb)
    have n6_ := Aside0.mk (below_step (be_ HB.out) hb)
    clear HO227 BK220 BK221 BK222 BK223 BK229 HB
    have HO227 := n0_
    have BK220 := n1_
    have BK221 := n2_
    have BK222 := n3_
    have BK223 := n4_
    have BK229 := n5_
    have HB := n6_
    clear n0_ n1_ n2_ n3_ n4_ n5_ n6_
    (try clear hb)
    (try clear hb2)
    (try clear hk)
    (try clear hi)
    refine hK.out _ _ (ck14_ BK220.out (ck3_ BK221.out (ce1_ BK222.out))) (fun hHeld => ?_)
    clear hK K
    refine norm_ (a' := ?_) ?_ ?_
    rotate_left
    ·
     show Act.put _ (some 17) _ = _
     simp only [Act.put, List.setIfInBounds_toArray, List.set_cons_zero, List.set_cons_succ, i64_w, i32_w]
     rfl
    refine pure_ (i := 6) (N := some 18) (v := ?_) (a' := ?_) #[true, true, true, true, true, true, true, false, false, false, false, false, false, false, false, false, false, false, false, false, false, false, false, false, false, false, false, false, false, false, false] rfl rfl (any_of HT_.out (by kernel_rfl)) (fun _ _ _ h => h) (Or.inl ⟨by rfl, ?_⟩) ?_ ?_
    rotate_left
    ·
     intro w'
     go_simp
     with_reducible rfl
    rotate_left
    ·
     simp only [Act.put, List.setIfInBounds_toArray, List.set_cons_zero, List.set_cons_succ, i64_w, i32_w]
     rfl
    refine pure_ (i := 7) (N := some 19) (v := ?_) (a' := ?_) #[true, true, true, true, true, true, true, true, false, false, false, false, false, false, false, false, false, false, false, false, false, false, false, false, false, false, false, false, false, false, false] rfl rfl (any_of HT_.out (by kernel_rfl)) (fun _ _ _ h => h) (Or.inl ⟨by rfl, ?_⟩) ?_ ?_
    rotate_left
    ·
     intro w'
     go_simp
     with_reducible rfl
    rotate_left
    ·
     simp only [Act.put, List.setIfInBounds_toArray, List.set_cons_zero, List.set_cons_succ, i64_w, i32_w]
     rfl
    refine pure_ (i := 8) (N := some 20) (v := ?_) (a' := ?_) #[true, true, true, true, true, true, true, true, true, false, false, false, false, false, false, false, false, false, false, false, false, false, false, false, false, false, false, false, false, false, false] rfl rfl (any_of HT_.out (by kernel_rfl)) (fun _ _ _ h => h) (Or.inl ⟨by rfl, ?_⟩) ?_ ?_
    rotate_left
    ·
     intro w'
     go_simp
     with_reducible rfl
    rotate_left
    ·
     simp only [Act.put, List.setIfInBounds_toArray, List.set_cons_zero, List.set_cons_succ, i64_w, i32_w]
     rfl
    refine take_ (i := 9) (N := some 21) (v := ?_) (a' := ?_) #[true, true, true, true, true, true, true, true, true, true, false, false, false, false, false, false, false, false, false, false, false, false, false, false, false, false, false, false, false, false, false] rfl rfl (take_ofW HT_.out HW_.out (by kernel_rfl)) (fun _ _ _ h => h) (Or.inl ⟨by rfl, ?_⟩) hHeld ?_ ?_
    rotate_left
    ·
     rintro w' ⟨s0, s1, s2, s3, s4, s5, s6, s7, s8, s9, s10, s11, s12, s13, s14, s15, s16, s17⟩
     go_simp
     with_reducible rfl
    rotate_left
    ·
     simp only [Act.put, List.setIfInBounds_toArray, List.set_cons_zero, List.set_cons_succ, i64_w, i32_w]
     rfl
    refine one_ (i := 10) (N := some 22) #[true, true, true, true, true, true, true, true, true, true, true, false, false, false, false, false, false, false, false, false, false, false, false, false, false, false, false, false, false, false, false] rfl rfl (one_of HT_.out (by kernel_rfl)) (by decide) (fun K hK => ?_)
    refine goes_ Try.func22 (by kernel_rfl) rfl #[.int .i64 a2] (by rfl) rfl rfl gm_ ?_
    with_reducible refine (impl_TickOk.calls a2 false _ A26.out).mono ?_
    rintro e w' ⟨rfl, ⟨nd, rfl⟩⟩
    refine ⟨_, rfl, ?_⟩
    refine hK.out _ _ (ck14_ BK220.out (ck3_ BK221.out (ce1_ BK222.out))) (fun hHeld => ?_)
    clear hK K
    refine norm_ (a' := ?_) ?_ ?_
    rotate_left
    ·
     show Act.put _ (some 22) _ = _
     simp only [Act.put, List.setIfInBounds_toArray, List.set_cons_zero, List.set_cons_succ, i64_w, i32_w]
     rfl
    refine pure_ (i := 11) (N := some 23) (v := ?_) (a' := ?_) #[true, true, true, true, true, true, true, true, true, true, true, true, false, false, false, false, false, false, false, false, false, false, false, false, false, false, false, false, false, false, false] rfl rfl (any_of HT_.out (by kernel_rfl)) (fun _ _ _ h => h) (Or.inl ⟨by rfl, ?_⟩) ?_ ?_
    rotate_left
    ·
     intro w'
     go_simp
     with_reducible rfl
    rotate_left
    ·
     simp only [Act.put, List.setIfInBounds_toArray, List.set_cons_zero, List.set_cons_succ, i64_w, i32_w]
     rfl
    refine pure_ (i := 12) (N := some 24) (v := ?_) (a' := ?_) #[true, true, true, true, true, true, true, true, true, true, true, true, true, false, false, false, false, false, false, false, false, false, false, false, false, false, false, false, false, false, false] rfl rfl (any_of HT_.out (by kernel_rfl)) (fun _ _ _ h => h) (Or.inl ⟨by rfl, ?_⟩) ?_ ?_
    rotate_left
    ·
     intro w'
     go_simp
     with_reducible rfl
    rotate_left
    ·
     simp only [Act.put, List.setIfInBounds_toArray, List.set_cons_zero, List.set_cons_succ, i64_w, i32_w]
     rfl
    refine pure_ (i := 13) (N := some 25) (v := ?_) (a' := ?_) #[true, true, true, true, true, true, true, true, true, true, true, true, true, true, false, false, false, false, false, false, false, false, false, false, false, false, false, false, false, false, false] rfl rfl (any_of HT_.out (by kernel_rfl)) (fun _ _ _ h => h) (Or.inl ⟨by rfl, ?_⟩) ?_ ?_
    rotate_left
    ·
     intro w'
     go_simp
     with_reducible rfl
    rotate_left
    ·
     simp only [Act.put, List.setIfInBounds_toArray, List.set_cons_zero, List.set_cons_succ, i64_w, i32_w]
     rfl
    refine pure_ (i := 14) (N := some 26) (v := undef) (a' := ?_) #[true, true, true, true, true, true, true, true, true, true, true, true, true, true, true, false, false, false, false, false, false, false, false, false, false, false, false, false, false, false, false] rfl rfl (any_of HT_.out (by kernel_rfl)) (fun _ _ _ h => h) (Or.inr ⟨by rfl, rfl⟩) ?_ ?_
    rotate_left
    ·
     simp only [Act.put, List.setIfInBounds_toArray, List.set_cons_zero, List.set_cons_succ, i64_w, i32_w]
     rfl
    refine pure_ (i := 15) (N := some 27) (v := undef) (a' := ?_) #[true, true, true, true, true, true, true, true, true, true, true, true, true, true, true, true, false, false, false, false, false, false, false, false, false, false, false, false, false, false, false] rfl rfl (any_of HT_.out (by kernel_rfl)) (fun _ _ _ h => h) (Or.inr ⟨by rfl, rfl⟩) ?_ ?_
    rotate_left
    ·
     simp only [Act.put, List.setIfInBounds_toArray, List.set_cons_zero, List.set_cons_succ, i64_w, i32_w]
     rfl
    refine pure_ (i := 16) (N := some 28) (v := undef) (a' := ?_) #[true, true, true, true, true, true, true, true, true, true, true, true, true, true, true, true, true, false, false, false, false, false, false, false, false, false, false, false, false, false, false] rfl rfl (any_of HT_.out (by kernel_rfl)) (fun _ _ _ h => h) (Or.inr ⟨by rfl, rfl⟩) ?_ ?_
    rotate_left
    ·
     simp only [Act.put, List.setIfInBounds_toArray, List.set_cons_zero, List.set_cons_succ, i64_w, i32_w]
     rfl
    refine pure_ (i := 17) (N := some 29) (v := undef) (a' := ?_) #[true, true, true, true, true, true, true, true, true, true, true, true, true, true, true, true, true, true, false, false, false, false, false, false, false, false, false, false, false, false, false] rfl rfl (any_of HT_.out (by kernel_rfl)) (fun _ _ _ h => h) (Or.inr ⟨by rfl, rfl⟩) ?_ ?_
    rotate_left
    ·
     simp only [Act.put, List.setIfInBounds_toArray, List.set_cons_zero, List.set_cons_succ, i64_w, i32_w]
     rfl
    refine pure_ (i := 18) (N := some 30) (v := undef) (a' := ?_) #[true, true, true, true, true, true, true, true, true, true, true, true, true, true, true, true, true, true, true, false, false, false, false, false, false, false, false, false, false, false, false] rfl rfl (any_of HT_.out (by kernel_rfl)) (fun _ _ _ h => h) (Or.inr ⟨by rfl, rfl⟩) ?_ ?_
    rotate_left
    ·
     simp only [Act.put, List.setIfInBounds_toArray, List.set_cons_zero, List.set_cons_succ, i64_w, i32_w]
     rfl
    refine pure_ (i := 19) (N := some 31) (v := undef) (a' := ?_) #[true, true, true, true, true, true, true, true, true, true, true, true, true, true, true, true, true, true, true, true, false, false, false, false, false, false, false, false, false, false, false] rfl rfl (any_of HT_.out (by kernel_rfl)) (fun _ _ _ h => h) (Or.inr ⟨by rfl, rfl⟩) ?_ ?_
    rotate_left
    ·
     simp only [Act.put, List.setIfInBounds_toArray, List.set_cons_zero, List.set_cons_succ, i64_w, i32_w]
     rfl
    refine pure_ (i := 20) (N := some 32) (v := undef) (a' := ?_) #[true, true, true, true, true, true, true, true, true, true, true, true, true, true, true, true, true, true, true, true, true, false, false, false, false, false, false, false, false, false, false] rfl rfl (any_of HT_.out (by kernel_rfl)) (fun _ _ _ h => h) (Or.inr ⟨by rfl, rfl⟩) ?_ ?_
    rotate_left
    ·
     simp only [Act.put, List.setIfInBounds_toArray, List.set_cons_zero, List.set_cons_succ, i64_w, i32_w]
     rfl
    refine pure_ (i := 21) (N := some 33) (v := undef) (a' := ?_) #[true, true, true, true, true, true, true, true, true, true, true, true, true, true, true, true, true, true, true, true, true, true, false, false, false, false, false, false, false, false, false] rfl rfl (any_of HT_.out (by kernel_rfl)) (fun _ _ _ h => h) (Or.inr ⟨by rfl, rfl⟩) ?_ ?_
    rotate_left
    ·
     simp only [Act.put, List.setIfInBounds_toArray, List.set_cons_zero, List.set_cons_succ, i64_w, i32_w]
     rfl
    refine pure_ (i := 22) (N := some 34) (v := undef) (a' := ?_) #[true, true, true, true, true, true, true, true, true, true, true, true, true, true, true, true, true, true, true, true, true, true, true, false, false, false, false, false, false, false, false] rfl rfl (any_of HT_.out (by kernel_rfl)) (fun _ _ _ h => h) (Or.inr ⟨by rfl, rfl⟩) ?_ ?_
    rotate_left
    ·
     simp only [Act.put, List.setIfInBounds_toArray, List.set_cons_zero, List.set_cons_succ, i64_w, i32_w]
     rfl
    refine pure_ (i := 23) (N := some 35) (v := undef) (a' := ?_) #[true, true, true, true, true, true, true, true, true, true, true, true, true, true, true, true, true, true, true, true, true, true, true, true, false, false, false, false, false, false, false] rfl rfl (any_of HT_.out (by kernel_rfl)) (fun _ _ _ h => h) (Or.inr ⟨by rfl, rfl⟩) ?_ ?_
    rotate_left
    ·
     simp only [Act.put, List.setIfInBounds_toArray, List.set_cons_zero, List.set_cons_succ, i64_w, i32_w]
     rfl
    refine pure_ (i := 24) (N := some 36) (v := undef) (a' := ?_) #[true, true, true, true, true, true, true, true, true, true, true, true, true, true, true, true, true, true, true, true, true, true, true, true, true, false, false, false, false, false, false] rfl rfl (any_of HT_.out (by kernel_rfl)) (fun _ _ _ h => h) (Or.inr ⟨by rfl, rfl⟩) ?_ ?_
    rotate_left
    ·
     simp only [Act.put, List.setIfInBounds_toArray, List.set_cons_zero, List.set_cons_succ, i64_w, i32_w]
     rfl
    refine pure_ (i := 25) (N := some 37) (v := undef) (a' := ?_) #[true, true, true, true, true, true, true, true, true, true, true, true, true, true, true, true, true, true, true, true, true, true, true, true, true, true, false, false, false, false, false] rfl rfl (any_of HT_.out (by kernel_rfl)) (fun _ _ _ h => h) (Or.inr ⟨by rfl, rfl⟩) ?_ ?_
    rotate_left
    ·
     simp only [Act.put, List.setIfInBounds_toArray, List.set_cons_zero, List.set_cons_succ, i64_w, i32_w]
     rfl
    refine pure_ (i := 26) (N := some 38) (v := undef) (a' := ?_) #[true, true, true, true, true, true, true, true, true, true, true, true, true, true, true, true, true, true, true, true, true, true, true, true, true, true, true, false, false, false, false] rfl rfl (any_of HT_.out (by kernel_rfl)) (fun _ _ _ h => h) (Or.inr ⟨by rfl, rfl⟩) ?_ ?_
    rotate_left
    ·
     simp only [Act.put, List.setIfInBounds_toArray, List.set_cons_zero, List.set_cons_succ, i64_w, i32_w]
     rfl
    refine pure_ (i := 27) (N := some 39) (v := undef) (a' := ?_) #[true, true, true, true, true, true, true, true, true, true, true, true, true, true, true, true, true, true, true, true, true, true, true, true, true, true, true, true, false, false, false] rfl rfl (any_of HT_.out (by kernel_rfl)) (fun _ _ _ h => h) (Or.inr ⟨by rfl, rfl⟩) ?_ ?_
    rotate_left
    ·
     simp only [Act.put, List.setIfInBounds_toArray, List.set_cons_zero, List.set_cons_succ, i64_w, i32_w]
     rfl
    refine pure_ (i := 28) (N := some 40) (v := undef) (a' := ?_) #[true, true, true, true, true, true, true, true, true, true, true, true, true, true, true, true, true, true, true, true, true, true, true, true, true, true, true, true, true, false, false] rfl rfl (any_of HT_.out (by kernel_rfl)) (fun _ _ _ h => h) (Or.inr ⟨by rfl, rfl⟩) ?_ ?_
    rotate_left
    ·
     simp only [Act.put, List.setIfInBounds_toArray, List.set_cons_zero, List.set_cons_succ, i64_w, i32_w]
     rfl
    refine pure_ (i := 29) (N := some 41) (v := undef) (a' := ?_) #[true, true, true, true, true, true, true, true, true, true, true, true, true, true, true, true, true, true, true, true, true, true, true, true, true, true, true, true, true, true, false] rfl rfl (any_of HT_.out (by kernel_rfl)) (fun _ _ _ h => h) (Or.inr ⟨by rfl, rfl⟩) ?_ ?_
    rotate_left
    ·
     simp only [Act.put, List.setIfInBounds_toArray, List.set_cons_zero, List.set_cons_succ, i64_w, i32_w]
     rfl
    refine pure_ (i := 30) (N := some 42) (v := ?_) (a' := ?_) #[true, true, true, true, true, true, true, true, true, true, true, true, true, true, true, true, true, true, true, true, true, true, true, true, true, true, true, true, true, true, true] rfl rfl (any_of HT_.out (by kernel_rfl)) (fun _ _ _ h => h) (Or.inl ⟨by rfl, ?_⟩) ?_ ?_
    rotate_left
    ·
     intro w'
     go_simp
     with_reducible rfl
    rotate_left
    ·
     simp only [Act.put, List.setIfInBounds_toArray, List.set_cons_zero, List.set_cons_succ, i64_w, i32_w]
     rfl
    refine done_ (done_of HT_.out (by kernel_rfl)) ?_
    try go_wp2
    go_meet
    case rel => exact ⟨_, (true), (by first | rfl | (simp; done) | (simp [*]; done)), H', ⟨by first | omega | exact Nat.le_refl _⟩, ⟨by (with_reducible repeat (first | apply Kd.R_alloc | apply Kd.R_drewN | apply Kd.R_drew)); exact HO227.out⟩, ⟨by refine bl_ ?_; exact BK220.out⟩, ⟨by refine bl_ ?_; exact BK221.out⟩, ⟨by refine bl_ ?_; exact BK222.out⟩, ⟨by refine bl_ ?_; exact BK223.out⟩, ⟨by refine bl_ ?_; exact BK229.out⟩, ⟨be_ HB.out⟩⟩
   replace c25 := Bool.eq_false_iff.mpr c25
   subst c25
   have H1 : (impl_OnFailure.j0 k true a0_0 a0_1 a0_2 a0_3 a0_4 a0_5 a0_6 a0_7 a0_8 a0_9 a0_10 a0_11 a0_12 a0_13 a1_0 l1_1 a1_2 a2 t224 t225 t228) = some (r1, r2, r3, r4) := by rw [if_neg (show ¬ (false = true) by decide)] at H; exact H
   clear H
   have H := H1
   clear H1
   have H' := Aside0.mk H
   clear H
   try go_wp2
   have n0_ : Aside0 (Kd.R (Kd.int .i64) 3 (((w15.setCell ⟨gb229, 0, none⟩ (.int .i64 t224)).setCell ⟨gb229, 1, none⟩ (.slice Ao21 t225.length co21)).setCell ⟨gb229, 2, none⟩ (.int .i64 t228)) w.heap.size (fun _ => True) (.slice Ao21 t225.length co21) t225) := ⟨by (with_reducible repeat (first | apply Kd.R_alloc | apply Kd.R_drewN | apply Kd.R_drew)); exact Kd.R_mono (Kd.R_far (p := ⟨gb229, 2, none⟩) (Kd.R_far (p := ⟨gb229, 1, none⟩) (Kd.R_far (p := ⟨gb229, 0, none⟩) (Kd.R_types HO227.out BK229.out (by decide)) (fun _ hk => hk.2) (.int .i64 t224)) (fun _ hk => hk.2) (.slice Ao21 t225.length co21)) (fun _ hk => hk.2) (.int .i64 t228)) (fun _ hk => trivial)⟩
   have n1_ : Aside0 ((((w15.setCell ⟨gb229, 0, none⟩ (.int .i64 t224)).setCell ⟨gb229, 1, none⟩ (.slice Ao21 t225.length co21)).setCell ⟨gb229, 2, none⟩ (.int .i64 t228)).heap[gb220]? = some (.cells #[.int .i64 a0_0, .int .i64 a0_1, .int .i64 a0_2, .int .i64 a0_3, .int .i64 a0_4, .int .i64 a0_5, .int .i64 a0_6, .int .i64 a0_7, .int .i64 a0_8, .int .i64 a0_9, .int .i64 a0_10, .int .i64 a0_11, .int .i64 a0_12, .int .i64 a0_13] 31 (0, 0))) := ⟨by refine bl_ ?_; refine blk_far ?_ NB220_229.out _; refine bl_ ?_; refine blk_far ?_ NB220_229.out _; refine bl_ ?_; refine blk_far ?_ NB220_229.out _; refine bl_ ?_; exact BK220.out⟩
   have n2_ : Aside0 ((((w15.setCell ⟨gb229, 0, none⟩ (.int .i64 t224)).setCell ⟨gb229, 1, none⟩ (.slice Ao21 t225.length co21)).setCell ⟨gb229, 2, none⟩ (.int .i64 t228)).heap[gb221]? = some (.cells #[.int .i64 a1_0, .slice A1_1 l1_1.length c1_1, .int .i64 a1_2] 28 (0, 0))) := ⟨by refine bl_ ?_; refine blk_far ?_ NB221_229.out _; refine bl_ ?_; refine blk_far ?_ NB221_229.out _; refine bl_ ?_; refine blk_far ?_ NB221_229.out _; refine bl_ ?_; exact BK221.out⟩
   have n3_ : Aside0 ((((w15.setCell ⟨gb229, 0, none⟩ (.int .i64 t224)).setCell ⟨gb229, 1, none⟩ (.slice Ao21 t225.length co21)).setCell ⟨gb229, 2, none⟩ (.int .i64 t228)).heap[gb222]? = some (.cells #[.int .i64 a2] 3 (0, 0))) := ⟨by refine bl_ ?_; refine blk_far ?_ NB222_229.out _; refine bl_ ?_; refine blk_far ?_ NB222_229.out _; refine bl_ ?_; refine blk_far ?_ NB222_229.out _; refine bl_ ?_; exact BK222.out⟩
   have n4_ : Aside0 ((((w15.setCell ⟨gb229, 0, none⟩ (.int .i64 t224)).setCell ⟨gb229, 1, none⟩ (.slice Ao21 t225.length co21)).setCell ⟨gb229, 2, none⟩ (.int .i64 t228)).heap[gb223]? = some (.cells #[.int .i64 0, .slice none 0 0, .int .i64 0] 28 (0, 0))) := ⟨by refine bl_ ?_; refine blk_far ?_ NB223_229.out _; refine bl_ ?_; refine blk_far ?_ NB223_229.out _; refine bl_ ?_; refine blk_far ?_ NB223_229.out _; refine bl_ ?_; exact BK223.out⟩
   have n5_ : Aside0 ((((w15.setCell ⟨gb229, 0, none⟩ (.int .i64 t224)).setCell ⟨gb229, 1, none⟩ (.slice Ao21 t225.length co21)).setCell ⟨gb229, 2, none⟩ (.int .i64 t228)).heap[gb229]? = some (.cells #[.int .i64 t224, .slice Ao21 t225.length co21, .int .i64 t228] 28 (0, 0))) := ⟨by refine bl_ ?_; refine blk_put (cs := #[.int .i64 t224, .slice Ao21 t225.length co21, .int .i64 0]) ?_ 2 _ rfl; refine bl_ ?_; refine blk_put (cs := #[.int .i64 t224, .slice none 0 0, .int .i64 0]) ?_ 1 _ rfl; refine bl_ ?_; refine blk_put (cs := #[.int .i64 0, .slice none 0 0, .int .i64 0]) ?_ 0 _ rfl; refine bl_ ?_; exact BK229.out⟩
   have n6_ : Aside0 (Below w.heap.size w (((w15.setCell ⟨gb229, 0, none⟩ (.int .i64 t224)).setCell ⟨gb229, 1, none⟩ (.slice Ao21 t225.length co21)).setCell ⟨gb229, 2, none⟩ (.int .i64 t228))) := ⟨be_ HB.out⟩
   (try clear HO227)
   (try clear BK220)
   (try clear BK221)
   (try clear BK222)
   (try clear BK223)
   (try clear BK229)
   (try clear HB)
   generalize (((w15.setCell ⟨gb229, 0, none⟩ (.int .i64 t224)).setCell ⟨gb229, 1, none⟩ (.slice Ao21 t225.length co21)).setCell ⟨gb229, 2, none⟩ (.int .i64 t228)) = w44 at n0_ n1_ n2_ n3_ n4_ n5_ n6_ ⊢
   have HO227 := n0_
   have BK220 := n1_
   have BK221 := n2_
   have BK222 := n3_
   have BK223 := n4_
   have BK229 := n5_
   have HB := n6_
   clear n0_ n1_ n2_ n3_ n4_ n5_ n6_
   have n0_ := Aside0.mk (Kd.R_drew HO227.out)
   have n1_ := Aside0.mk (blk_drew BK220.out)
   have n2_ := Aside0.mk (blk_drew BK221.out)
   have n3_ := Aside0.mk (blk_drew BK222.out)
   have n4_ := Aside0.mk (blk_drew BK223.out)
   have n5_ := Aside0.mk (blk_drew BK229.out)
   have n6_ := Aside0.mk (below_drew1 HB.out)
   clear HO227 BK220 BK221 BK222 BK223 BK229 HB
   have HO227 := n0_
   have BK220 := n1_
   have BK221 := n2_
   have BK222 := n3_
   have BK223 := n4_
   have BK229 := n5_
   have HB := n6_
   clear n0_ n1_ n2_ n3_ n4_ n5_ n6_
   refine start_ (n := 31) (S := fun w' => w'.cell? ⟨gb220, 0, none⟩ = some (.int .i64 a0_0) ∧ w'.cell? ⟨gb220, 1, none⟩ = some (.int .i64 a0_1) ∧ w'.cell? ⟨gb220, 2, none⟩ = some (.int .i64 a0_2) ∧ w'.cell? ⟨gb220, 3, none⟩ = some (.int .i64 a0_3) ∧ w'.cell? ⟨gb220, 4, none⟩ = some (.int .i64 a0_4) ∧ w'.cell? ⟨gb220, 5, none⟩ = some (.int .i64 a0_5) ∧ w'.cell? ⟨gb220, 6, none⟩ = some (.int .i64 a0_6) ∧ w'.cell? ⟨gb220, 7, none⟩ = some (.int .i64 a0_7) ∧ w'.cell? ⟨gb220, 8, none⟩ = some (.int .i64 a0_8) ∧ w'.cell? ⟨gb220, 9, none⟩ = some (.int .i64 a0_9) ∧ w'.cell? ⟨gb220, 10, none⟩ = some (.int .i64 a0_10) ∧ w'.cell? ⟨gb220, 11, none⟩ = some (.int .i64 a0_11) ∧ w'.cell? ⟨gb220, 12, none⟩ = some (.int .i64 a0_12) ∧ w'.cell? ⟨gb220, 13, none⟩ = some (.int .i64 a0_13) ∧ w'.cell? ⟨gb221, 0, none⟩ = some (.int .i64 a1_0) ∧ w'.cell? ⟨gb221, 1, none⟩ = some (.slice A1_1 l1_1.length c1_1) ∧ w'.cell? ⟨gb221, 2, none⟩ = some (.int .i64 a1_2)) (ds := []) #[false, false, false, false, false, false, false, false, false, false, false, false, false, false, false, false, false, false, false, false, false, false, false, false, false, false, false, false, false, false, false] (by kernel_rfl) rfl rfl (ck14_ BK220.out (ce3_ BK221.out)) (fun hHeld => ?_); refine with_tabW impl_OnFailure.tab2 impl_OnFailure.bits2 (fun HT_ HW_ => ?_)
   generalize w44.drew = w45 at HO227 BK220 BK221 BK222 BK223 BK229 HB hHeld ⊢
   refine take_ (i := 0) (N := some 12) (v := ?_) (a' := ?_) #[true, false, false, false, false, false, false, false, false, false, false, false, false, false, false, false, false, false, false, false, false, false, false, false, false, false, false, false, false, false, false] rfl rfl (take_ofW HT_.out HW_.out (by kernel_rfl)) (fun _ _ _ h => h) (Or.inl ⟨by rfl, ?_⟩) hHeld ?_ ?_
   rotate_left
   ·
    rintro w' ⟨s0, s1, s2, s3, s4, s5, s6, s7, s8, s9, s10, s11, s12, s13, s14, s15, s16⟩
    go_simp
    with_reducible rfl
   rotate_left
   ·
    simp only [Act.put, List.setIfInBounds_toArray, List.set_cons_zero, List.set_cons_succ, i64_w, i32_w]
    rfl
   refine one_ (i := 1) (N := some 13) #[true, true, false, false, false, false, false, false, false, false, false, false, false, false, false, false, false, false, false, false, false, false, false, false, false, false, false, false, false, false, false] rfl rfl (one_of HT_.out (by kernel_rfl)) (by decide) (fun K hK => ?_)
   refine goes_ Try.func20 (by kernel_rfl) rfl #[.agg #[.int .i64 a0_0, .int .i64 a0_1, .int .i64 a0_2, .int .i64 a0_3, .int .i64 a0_4, .int .i64 a0_5, .int .i64 a0_6, .int .i64 a0_7, .int .i64 a0_8, .int .i64 a0_9, .int .i64 a0_10, .int .i64 a0_11, .int .i64 a0_12, .int .i64 a0_13]] (by rfl) rfl rfl gm_ ?_
   with_reducible refine (impl_ConfigOk.calls k a0_0 a0_1 a0_2 a0_3 a0_4 a0_5 a0_6 a0_7 a0_8 a0_9 a0_10 a0_11 a0_12 a0_13 true _ A22.out).mono ?_
   rintro e w46 ⟨rfl, hb⟩
   refine ⟨_, rfl, ?_⟩
   have n0_ := Aside0.mk (Kd.R_below (ro_ HO227.out) hb)
   have n1_ := Aside0.mk (blk_below (bl_ BK220.out) hb)
   have n2_ := Aside0.mk (blk_below (bl_ BK221.out) hb)
   have n3_ := Aside0.mk (blk_below (bl_ BK222.out) hb)
   have n4_ := Aside0.mk (blk_below (bl_ BK223.out) hb)
   have n5_ := Aside0.mk (blk_below (bl_ BK229.out) hb)
   have n6_ := Aside0.mk (below_step (be_ HB.out) hb)
   clear HO227 BK220 BK221 BK222 BK223 BK229 HB
   have HO227 := n0_
   have BK220 := n1_
   have BK221 := n2_
   have BK222 := n3_
   have BK223 := n4_
   have BK229 := n5_
   have HB := n6_
   clear n0_ n1_ n2_ n3_ n4_ n5_ n6_
   (try clear hb)
   (try clear hb2)
   (try clear hk)
   (try clear hi)
   refine hK.out _ _ (ck14_ BK220.out (ce3_ BK221.out)) (fun hHeld => ?_)
   clear hK K
   refine norm_ (a' := ?_) ?_ ?_
   rotate_left
   ·
    show Act.put _ (some 13) _ = _
    simp only [Act.put, List.setIfInBounds_toArray, List.set_cons_zero, List.set_cons_succ, i64_w, i32_w]
    rfl
   refine pure_ (i := 2) (N := some 14) (v := ?_) (a' := ?_) #[true, true, true, false, false, false, false, false, false, false, false, false, false, false, false, false, false, false, false, false, false, false, false, false, false, false, false, false, false, false, false] rfl rfl (any_of HT_.out (by kernel_rfl)) (fun _ _ _ h => h) (Or.inl ⟨by rfl, ?_⟩) ?_ ?_
   rotate_left
   ·
    intro w'
    go_simp
    with_reducible rfl
   rotate_left
   ·
    simp only [Act.put, List.setIfInBounds_toArray, List.set_cons_zero, List.set_cons_succ, i64_w, i32_w]
    rfl
   refine pure_ (i := 3) (N := some 15) (v := ?_) (a' := ?_) #[true, true, true, true, false, false, false, false, false, false, false, false, false, false, false, false, false, false, false, false, false, false, false, false, false, false, false, false, false, false, false] rfl rfl (any_of HT_.out (by kernel_rfl)) (fun _ _ _ h => h) (Or.inl ⟨by rfl, ?_⟩) ?_ ?_
   rotate_left
   ·
    intro w'
    go_simp
    with_reducible rfl
   rotate_left
   ·
    simp only [Act.put, List.setIfInBounds_toArray, List.set_cons_zero, List.set_cons_succ, i64_w, i32_w]
    rfl
   refine take_ (i := 4) (N := some 16) (v := ?_) (a' := ?_) #[true, true, true, true, true, false, false, false, false, false, false, false, false, false, false, false, false, false, false, false, false, false, false, false, false, false, false, false, false, false, false] rfl rfl (take_ofW HT_.out HW_.out (by kernel_rfl)) (fun _ _ _ h => h) (Or.inl ⟨by rfl, ?_⟩) hHeld ?_ ?_
   rotate_left
   ·
    rintro w' ⟨s0, s1, s2, s3, s4, s5, s6, s7, s8, s9, s10, s11, s12, s13, s14, s15, s16⟩
    go_simp
    with_reducible rfl
   rotate_left
   ·
    simp only [Act.put, List.setIfInBounds_toArray, List.set_cons_zero, List.set_cons_succ, i64_w, i32_w]
    rfl
   refine one_ (i := 5) (N := some 17) #[true, true, true, true, true, true, false, false, false, false, false, false, false, false, false, false, false, false, false, false, false, false, false, false, false, false, false, false, false, false, false] rfl rfl (one_of HT_.out (by kernel_rfl)) (by decide) (fun K hK => ?_)
   refine goes_ Try.func21 (by kernel_rfl) rfl #[.agg #[.int .i64 a1_0, .slice A1_1 l1_1.length c1_1, .int .i64 a1_2]] (by rfl) rfl rfl gm_ ?_
   with_reducible refine (impl_BreakerOk.calls k a1_0 _ _ l1_1 a1_2 false _ ?side1 ?side2 A24.out).mono ?_
   (case side1 => repeat (first | exact (Kd.C_below HR1_1.out HB.out) | (with_reducible refine Kd.C_alloc ?_ _) | (with_reducible refine Kd.C_drewN ?_ _) | (with_reducible refine Kd.C_drew ?_)))
   (case side2 => exact HC1_1.out)
   rintro e w47 ⟨rfl, hb⟩
   refine ⟨_, rfl, ?_⟩
   have n0_ := Aside0.mk (Kd.R_below (ro_ HO227.out) hb)
   have n1_ := Aside0.mk (blk_below (bl_ BK220.out) hb)
   have n2_ := Aside0.mk (blk_below (bl_ BK221.out) hb)
   have n3_ := Aside0.mk (blk_below (bl_ BK222.out) hb)
   have n4_ := Aside0.mk (blk_below (bl_ BK223.out) hb)
   have n5_ := Aside0.mk (blk_below (bl_ BK229.out) hb)
   have n6_ := Aside0.mk (below_step (be_ HB.out) hb)
   clear HO227 BK220 BK221 BK222 BK223 BK229 HB
   have HO227 := n0_
   have BK220 := n1_
   have BK221 := n2_
   have BK222 := n3_
   have BK223 := n4_
   have BK229 := n5_
   have HB := n6_
   clear n0_ n1_ n2_ n3_ n4_ n5_ n6_
   (try clear hb)
   (try clear hb2)
   (try clear hk)
   (try clear hi)
   refine hK.out _ _ (ck14_ BK220.out (ce3_ BK221.out)) (fun hHeld => ?_)
   clear hK K
   refine norm_ (a' := ?_) ?_ ?_
   rotate_left
   ·
    show Act.put _ (some 17) _ = _
    simp only [Act.put, List.setIfInBounds_toArray, List.set_cons_zero, List.set_cons_succ, i64_w, i32_w]
    rfl
   refine pure_ (i := 6) (N := some 18) (v := ?_) (a' := ?_) #[true, true, true, true, true, true, true, false, false, false, false, false, false, false, false, false, false, false, false, false, false, false, false, false, false, false, false, false, false, false, false] rfl rfl (any_of HT_.out (by kernel_rfl)) (fun _ _ _ h => h) (Or.inl ⟨by rfl, ?_⟩) ?_ ?_
   rotate_left
   ·
    intro w'
    go_simp
    with_reducible rfl
   rotate_left
   ·
    simp only [Act.put, List.setIfInBounds_toArray, List.set_cons_zero, List.set_cons_succ, i64_w, i32_w]
    rfl
   refine pure_ (i := 7) (N := some 19) (v := ?_) (a' := ?_) #[true, true, true, true, true, true, true, true, false, false, false, false, false, false, false, false, false, false, false, false, false, false, false, false, false, false, false, false, false, false, false] rfl rfl (any_of HT_.out (by kernel_rfl)) (fun _ _ _ h => h) (Or.inl ⟨by rfl, ?_⟩) ?_ ?_
   rotate_left
   ·
    intro w'
    go_simp
    with_reducible rfl
   rotate_left
   ·
    simp only [Act.put, List.setIfInBounds_toArray, List.set_cons_zero, List.set_cons_succ, i64_w, i32_w]
    rfl
   refine pure_ (i := 8) (N := some 20) (v := ?_) (a' := ?_) #[true, true, true, true, true, true, true, true, true, false, false, false, false, false, false, false, false, false, false, false, false, false, false, false, false, false, false, false, false, false, false] rfl rfl (any_of HT_.out (by kernel_rfl)) (fun _ _ _ h => h) (Or.inl ⟨by rfl, ?_⟩) ?_ ?_
   rotate_left
   ·
    intro w'
    go_simp
    with_reducible rfl
   rotate_left
   ·
    simp only [Act.put, List.setIfInBounds_toArray, List.set_cons_zero, List.set_cons_succ, i64_w, i32_w]
    rfl
   refine pure_ (i := 9) (N := some 21) (v := undef) (a' := ?_) #[true, true, true, true, true, true, true, true, true, true, false, false, false, false, false, false, false, false, false, false, false, false, false, false, false, false, false, false, false, false, false] rfl rfl (any_of HT_.out (by kernel_rfl)) (fun _ _ _ h => h) (Or.inr ⟨by rfl, rfl⟩) ?_ ?_
   rotate_left
   ·
    simp only [Act.put, List.setIfInBounds_toArray, List.set_cons_zero, List.set_cons_succ, i64_w, i32_w]
    rfl
   refine pure_ (i := 10) (N := some 22) (v := undef) (a' := ?_) #[true, true, true, true, true, true, true, true, true, true, true, false, false, false, false, false, false, false, false, false, false, false, false, false, false, false, false, false, false, false, false] rfl rfl (any_of HT_.out (by kernel_rfl)) (fun _ _ _ h => h) (Or.inr ⟨by rfl, rfl⟩) ?_ ?_
   rotate_left
   ·
    simp only [Act.put, List.setIfInBounds_toArray, List.set_cons_zero, List.set_cons_succ, i64_w, i32_w]
    rfl
   refine pure_ (i := 11) (N := some 23) (v := undef) (a' := ?_) #[true, true, true, true, true, true, true, true, true, true, true, true, false, false, false, false, false, false, false, false, false, false, false, false, false, false, false, false, false, false, false] rfl rfl (any_of HT_.out (by kernel_rfl)) (fun _ _ _ h => h) (Or.inr ⟨by rfl, rfl⟩) ?_ ?_
   rotate_left
   ·
    simp only [Act.put, List.setIfInBounds_toArray, List.set_cons_zero, List.set_cons_succ, i64_w, i32_w]
    rfl
   refine pure_ (i := 12) (N := some 24) (v := ?_) (a' := ?_) #[true, true, true, true, true, true, true, true, true, true, true, true, true, false, false, false, false, false, false, false, false, false, false, false, false, false, false, false, false, false, false] rfl rfl (any_of HT_.out (by kernel_rfl)) (fun _ _ _ h => h) (Or.inl ⟨by rfl, ?_⟩) ?_ ?_
   rotate_left
   ·
    intro w'
    go_simp
    with_reducible rfl
   rotate_left
   ·
    simp only [Act.put, List.setIfInBounds_toArray, List.set_cons_zero, List.set_cons_succ, i64_w, i32_w]
    rfl
   refine pure_ (i := 13) (N := some 25) (v := ?_) (a' := ?_) #[true, true, true, true, true, true, true, true, true, true, true, true, true, true, false, false, false, false, false, false, false, false, false, false, false, false, false, false, false, false, false] rfl rfl (any_of HT_.out (by kernel_rfl)) (fun _ _ _ h => h) (Or.inl ⟨by rfl, ?_⟩) ?_ ?_
   rotate_left
   ·
    intro w'
    go_simp
    with_reducible rfl
   rotate_left
   ·
    simp only [Act.put, List.setIfInBounds_toArray, List.set_cons_zero, List.set_cons_succ, i64_w, i32_w]
    rfl
   refine pure_ (i := 14) (N := some 26) (v := undef) (a' := ?_) #[true, true, true, true, true, true, true, true, true, true, true, true, true, true, true, false, false, false, false, false, false, false, false, false, false, false, false, false, false, false, false] rfl rfl (any_of HT_.out (by kernel_rfl)) (fun _ _ _ h => h) (Or.inr ⟨by rfl, rfl⟩) ?_ ?_
   rotate_left
   ·
    simp only [Act.put, List.setIfInBounds_toArray, List.set_cons_zero, List.set_cons_succ, i64_w, i32_w]
    rfl
   refine pure_ (i := 15) (N := some 27) (v := undef) (a' := ?_) #[true, true, true, true, true, true, true, true, true, true, true, true, true, true, true, true, false, false, false, false, false, false, false, false, false, false, false, false, false, false, false] rfl rfl (any_of HT_.out (by kernel_rfl)) (fun _ _ _ h => h) (Or.inr ⟨by rfl, rfl⟩) ?_ ?_
   rotate_left
   ·
    simp only [Act.put, List.setIfInBounds_toArray, List.set_cons_zero, List.set_cons_succ, i64_w, i32_w]
    rfl
   refine pure_ (i := 16) (N := some 28) (v := undef) (a' := ?_) #[true, true, true, true, true, true, true, true, true, true, true, true, true, true, true, true, true, false, false, false, false, false, false, false, false, false, false, false, false, false, false] rfl rfl (any_of HT_.out (by kernel_rfl)) (fun _ _ _ h => h) (Or.inr ⟨by rfl, rfl⟩) ?_ ?_
   rotate_left
   ·
    simp only [Act.put, List.setIfInBounds_toArray, List.set_cons_zero, List.set_cons_succ, i64_w, i32_w]
    rfl
   refine pure_ (i := 17) (N := some 29) (v := undef) (a' := ?_) #[true, true, true, true, true, true, true, true, true, true, true, true, true, true, true, true, true, true, false, false, false, false, false, false, false, false, false, false, false, false, false] rfl rfl (any_of HT_.out (by kernel_rfl)) (fun _ _ _ h => h) (Or.inr ⟨by rfl, rfl⟩) ?_ ?_
   rotate_left
   ·
    simp only [Act.put, List.setIfInBounds_toArray, List.set_cons_zero, List.set_cons_succ, i64_w, i32_w]
    rfl
   refine pure_ (i := 18) (N := some 30) (v := undef) (a' := ?_) #[true, true, true, true, true, true, true, true, true, true, true, true, true, true, true, true, true, true, true, false, false, false, false, false, false, false, false, false, false, false, false] rfl rfl (any_of HT_.out (by kernel_rfl)) (fun _ _ _ h => h) (Or.inr ⟨by rfl, rfl⟩) ?_ ?_
   rotate_left
   ·
    simp only [Act.put, List.setIfInBounds_toArray, List.set_cons_zero, List.set_cons_succ, i64_w, i32_w]
    rfl
   refine pure_ (i := 19) (N := some 31) (v := undef) (a' := ?_) #[true, true, true, true, true, true, true, true, true, true, true, true, true, true, true, true, true, true, true, true, false, false, false, false, false, false, false, false, false, false, false] rfl rfl (any_of HT_.out (by kernel_rfl)) (fun _ _ _ h => h) (Or.inr ⟨by rfl, rfl⟩) ?_ ?_
   rotate_left
   ·
    simp only [Act.put, List.setIfInBounds_toArray, List.set_cons_zero, List.set_cons_succ, i64_w, i32_w]
    rfl
   refine pure_ (i := 20) (N := some 32) (v := undef) (a' := ?_) #[true, true, true, true, true, true, true, true, true, true, true, true, true, true, true, true, true, true, true, true, true, false, false, false, false, false, false, false, false, false, false] rfl rfl (any_of HT_.out (by kernel_rfl)) (fun _ _ _ h => h) (Or.inr ⟨by rfl, rfl⟩) ?_ ?_
   rotate_left
   ·
    simp only [Act.put, List.setIfInBounds_toArray, List.set_cons_zero, List.set_cons_succ, i64_w, i32_w]
    rfl
   refine pure_ (i := 21) (N := some 33) (v := undef) (a' := ?_) #[true, true, true, true, true, true, true, true, true, true, true, true, true, true, true, true, true, true, true, true, true, true, false, false, false, false, false, false, false, false, false] rfl rfl (any_of HT_.out (by kernel_rfl)) (fun _ _ _ h => h) (Or.inr ⟨by rfl, rfl⟩) ?_ ?_
   rotate_left
   ·
    simp only [Act.put, List.setIfInBounds_toArray, List.set_cons_zero, List.set_cons_succ, i64_w, i32_w]
    rfl
   refine pure_ (i := 22) (N := some 34) (v := undef) (a' := ?_) #[true, true, true, true, true, true, true, true, true, true, true, true, true, true, true, true, true, true, true, true, true, true, true, false, false, false, false, false, false, false, false] rfl rfl (any_of HT_.out (by kernel_rfl)) (fun _ _ _ h => h) (Or.inr ⟨by rfl, rfl⟩) ?_ ?_
   rotate_left
   ·
    simp only [Act.put, List.setIfInBounds_toArray, List.set_cons_zero, List.set_cons_succ, i64_w, i32_w]
    rfl
   refine pure_ (i := 23) (N := some 35) (v := undef) (a' := ?_) #[true, true, true, true, true, true, true, true, true, true, true, true, true, true, true, true, true, true, true, true, true, true, true, true, false, false, false, false, false, false, false] rfl rfl (any_of HT_.out (by kernel_rfl)) (fun _ _ _ h => h) (Or.inr ⟨by rfl, rfl⟩) ?_ ?_
   rotate_left
   ·
    simp only [Act.put, List.setIfInBounds_toArray, List.set_cons_zero, List.set_cons_succ, i64_w, i32_w]
    rfl
   refine pure_ (i := 24) (N := some 36) (v := undef) (a' := ?_) #[true, true, true, true, true, true, true, true, true, true, true, true, true, true, true, true, true, true, true, true, true, true, true, true, true, false, false, false, false, false, false] rfl rfl (any_of HT_.out (by kernel_rfl)) (fun _ _ _ h => h) (Or.inr ⟨by rfl, rfl⟩) ?_ ?_
   rotate_left
   ·
    simp only [Act.put, List.setIfInBounds_toArray, List.set_cons_zero, List.set_cons_succ, i64_w, i32_w]
    rfl
   refine pure_ (i := 25) (N := some 37) (v := undef) (a' := ?_) #[true, true, true, true, true, true, true, true, true, true, true, true, true, true, true, true, true, true, true, true, true, true, true, true, true, true, false, false, false, false, false] rfl rfl (any_of HT_.out (by kernel_rfl)) (fun _ _ _ h => h) (Or.inr ⟨by rfl, rfl⟩) ?_ ?_
   rotate_left
   ·
    simp only [Act.put, List.setIfInBounds_toArray, List.set_cons_zero, List.set_cons_succ, i64_w, i32_w]
    rfl
   refine pure_ (i := 26) (N := some 38) (v := undef) (a' := ?_) #[true, true, true, true, true, true, true, true, true, true, true, true, true, true, true, true, true, true, true, true, true, true, true, true, true, true, true, false, false, false, false] rfl rfl (any_of HT_.out (by kernel_rfl)) (fun _ _ _ h => h) (Or.inr ⟨by rfl, rfl⟩) ?_ ?_
   rotate_left
   ·
    simp only [Act.put, List.setIfInBounds_toArray, List.set_cons_zero, List.set_cons_succ, i64_w, i32_w]
    rfl
   refine pure_ (i := 27) (N := some 39) (v := undef) (a' := ?_) #[true, true, true, true, true, true, true, true, true, true, true, true, true, true, true, true, true, true, true, true, true, true, true, true, true, true, true, true, false, false, false] rfl rfl (any_of HT_.out (by kernel_rfl)) (fun _ _ _ h => h) (Or.inr ⟨by rfl, rfl⟩) ?_ ?_
   rotate_left
   ·
    simp only [Act.put, List.setIfInBounds_toArray, List.set_cons_zero, List.set_cons_succ, i64_w, i32_w]
    rfl
   refine pure_ (i := 28) (N := some 40) (v := undef) (a' := ?_) #[true, true, true, true, true, true, true, true, true, true, true, true, true, true, true, true, true, true, true, true, true, true, true, true, true, true, true, true, true, false, false] rfl rfl (any_of HT_.out (by kernel_rfl)) (fun _ _ _ h => h) (Or.inr ⟨by rfl, rfl⟩) ?_ ?_
   rotate_left
   ·
    simp only [Act.put, List.setIfInBounds_toArray, List.set_cons_zero, List.set_cons_succ, i64_w, i32_w]
    rfl
   refine pure_ (i := 29) (N := some 41) (v := undef) (a' := ?_) #[true, true, true, true, true, true, true, true, true, true, true, true, true, true, true, true, true, true, true, true, true, true, true, true, true, true, true, true, true, true, false] rfl rfl (any_of HT_.out (by kernel_rfl)) (fun _ _ _ h => h) (Or.inr ⟨by rfl, rfl⟩) ?_ ?_
   rotate_left
   ·
    simp only [Act.put, List.setIfInBounds_toArray, List.set_cons_zero, List.set_cons_succ, i64_w, i32_w]
    rfl
   refine pure_ (i := 30) (N := some 42) (v := ?_) (a' := ?_) #[true, true, true, true, true, true, true, true, true, true, true, true, true, true, true, true, true, true, true, true, true, true, true, true, true, true, true, true, true, true, true] rfl rfl (any_of HT_.out (by kernel_rfl)) (fun _ _ _ h => h) (Or.inl ⟨by rfl, ?_⟩) ?_ ?_
   rotate_left
   ·
    intro w'
    go_simp
    with_reducible rfl
   rotate_left
   ·
    simp only [Act.put, List.setIfInBounds_toArray, List.set_cons_zero, List.set_cons_succ, i64_w, i32_w]
    rfl
   refine done_ (done_of HT_.out (by kernel_rfl)) ?_
   try go_wp2
   go_meet
   case rel => exact ⟨_, (true), (by first | rfl | (simp; done) | (simp [*]; done)), H', ⟨by first | omega | exact Nat.le_refl _⟩, ⟨by (with_reducible repeat (first | apply Kd.R_alloc | apply Kd.R_drewN | apply Kd.R_drew)); exact HO227.out⟩, ⟨by refine bl_ ?_; exact BK220.out⟩, ⟨by refine bl_ ?_; exact BK221.out⟩, ⟨by refine bl_ ?_; exact BK222.out⟩, ⟨by refine bl_ ?_; exact BK223.out⟩, ⟨by refine bl_ ?_; exact BK229.out⟩, ⟨be_ HB.out⟩⟩
  replace c23 := Bool.eq_false_iff.mpr c23
  subst c23
  have H1 : (impl_OnFailure.j0 k true a0_0 a0_1 a0_2 a0_3 a0_4 a0_5 a0_6 a0_7 a0_8 a0_9 a0_10 a0_11 a0_12 a0_13 a1_0 l1_1 a1_2 a2 t224 t225 t228) = some (r1, r2, r3, r4) := by rw [if_neg (show ¬ (false = true) by decide)] at H; exact H
  clear H
  have H := H1
  clear H1
  have H' := Aside0.mk H
  clear H
  try go_wp2
  have n0_ : Aside0 (Kd.R (Kd.int .i64) 3 (((w15.setCell ⟨gb229, 0, none⟩ (.int .i64 t224)).setCell ⟨gb229, 1, none⟩ (.slice Ao21 t225.length co21)).setCell ⟨gb229, 2, none⟩ (.int .i64 t228)) w.heap.size (fun _ => True) (.slice Ao21 t225.length co21) t225) := ⟨by (with_reducible repeat (first | apply Kd.R_alloc | apply Kd.R_drewN | apply Kd.R_drew)); exact Kd.R_mono (Kd.R_far (p := ⟨gb229, 2, none⟩) (Kd.R_far (p := ⟨gb229, 1, none⟩) (Kd.R_far (p := ⟨gb229, 0, none⟩) (Kd.R_types HO227.out BK229.out (by decide)) (fun _ hk => hk.2) (.int .i64 t224)) (fun _ hk => hk.2) (.slice Ao21 t225.length co21)) (fun _ hk => hk.2) (.int .i64 t228)) (fun _ hk => trivial)⟩
  have n1_ : Aside0 ((((w15.setCell ⟨gb229, 0, none⟩ (.int .i64 t224)).setCell ⟨gb229, 1, none⟩ (.slice Ao21 t225.length co21)).setCell ⟨gb229, 2, none⟩ (.int .i64 t228)).heap[gb220]? = some (.cells #[.int .i64 a0_0, .int .i64 a0_1, .int .i64 a0_2, .int .i64 a0_3, .int .i64 a0_4, .int .i64 a0_5, .int .i64 a0_6, .int .i64 a0_7, .int .i64 a0_8, .int .i64 a0_9, .int .i64 a0_10, .int .i64 a0_11, .int .i64 a0_12, .int .i64 a0_13] 31 (0, 0))) := ⟨by refine bl_ ?_; refine blk_far ?_ NB220_229.out _; refine bl_ ?_; refine blk_far ?_ NB220_229.out _; refine bl_ ?_; refine blk_far ?_ NB220_229.out _; refine bl_ ?_; exact BK220.out⟩
  have n2_ : Aside0 ((((w15.setCell ⟨gb229, 0, none⟩ (.int .i64 t224)).setCell ⟨gb229, 1, none⟩ (.slice Ao21 t225.length co21)).setCell ⟨gb229, 2, none⟩ (.int .i64 t228)).heap[gb221]? = some (.cells #[.int .i64 a1_0, .slice A1_1 l1_1.length c1_1, .int .i64 a1_2] 28 (0, 0))) := ⟨by refine bl_ ?_; refine blk_far ?_ NB221_229.out _; refine bl_ ?_; refine blk_far ?_ NB221_229.out _; refine bl_ ?_; refine blk_far ?_ NB221_229.out _; refine bl_ ?_; exact BK221.out⟩
  have n3_ : Aside0 ((((w15.setCell ⟨gb229, 0, none⟩ (.int .i64 t224)).setCell ⟨gb229, 1, none⟩ (.slice Ao21 t225.length co21)).setCell ⟨gb229, 2, none⟩ (.int .i64 t228)).heap[gb222]? = some (.cells #[.int .i64 a2] 3 (0, 0))) := ⟨by refine bl_ ?_; refine blk_far ?_ NB222_229.out _; refine bl_ ?_; refine blk_far ?_ NB222_229.out _; refine bl_ ?_; refine blk_far ?_ NB222_229.out _; refine bl_ ?_; exact BK222.out⟩
  have n4_ : Aside0 ((((w15.setCell ⟨gb229, 0, none⟩ (.int .i64 t224)).setCell ⟨gb229, 1, none⟩ (.slice Ao21 t225.length co21)).setCell ⟨gb229, 2, none⟩ (.int .i64 t228)).heap[gb223]? = some (.cells #[.int .i64 0, .slice none 0 0, .int .i64 0] 28 (0, 0))) := ⟨by refine bl_ ?_; refine blk_far ?_ NB223_229.out _; refine bl_ ?_; refine blk_far ?_ NB223_229.out _; refine bl_ ?_; refine blk_far ?_ NB223_229.out _; refine bl_ ?_; exact BK223.out⟩
  have n5_ : Aside0 ((((w15.setCell ⟨gb229, 0, none⟩ (.int .i64 t224)).setCell ⟨gb229, 1, none⟩ (.slice Ao21 t225.length co21)).setCell ⟨gb229, 2, none⟩ (.int .i64 t228)).heap[gb229]? = some (.cells #[.int .i64 t224, .slice Ao21 t225.length co21, .int .i64 t228] 28 (0, 0))) := ⟨by refine bl_ ?_; refine blk_put (cs := #[.int .i64 t224, .slice Ao21 t225.length co21, .int .i64 0]) ?_ 2 _ rfl; refine bl_ ?_; refine blk_put (cs := #[.int .i64 t224, .slice none 0 0, .int .i64 0]) ?_ 1 _ rfl; refine bl_ ?_; refine blk_put (cs := #[.int .i64 0, .slice none 0 0, .int .i64 0]) ?_ 0 _ rfl; refine bl_ ?_; exact BK229.out⟩
  have n6_ : Aside0 (Below w.heap.size w (((w15.setCell ⟨gb229, 0, none⟩ (.int .i64 t224)).setCell ⟨gb229, 1, none⟩ (.slice Ao21 t225.length co21)).setCell ⟨gb229, 2, none⟩ (.int .i64 t228))) := ⟨be_ HB.out⟩
  (try clear HO227)
  (try clear BK220)
  (try clear BK221)
  (try clear BK222)
  (try clear BK223)
  (try clear BK229)
  (try clear HB)
  generalize (((w15.setCell ⟨gb229, 0, none⟩ (.int .i64 t224)).setCell ⟨gb229, 1, none⟩ (.slice Ao21 t225.length co21)).setCell ⟨gb229, 2, none⟩ (.int .i64 t228)) = w48 at n0_ n1_ n2_ n3_ n4_ n5_ n6_ ⊢
  have HO227 := n0_
  have BK220 := n1_
  have BK221 := n2_
  have BK222 := n3_
  have BK223 := n4_
  have BK229 := n5_
  have HB := n6_
  clear n0_ n1_ n2_ n3_ n4_ n5_ n6_
  have n0_ := Aside0.mk (Kd.R_drew HO227.out)
  have n1_ := Aside0.mk (blk_drew BK220.out)
  have n2_ := Aside0.mk (blk_drew BK221.out)
  have n3_ := Aside0.mk (blk_drew BK222.out)
  have n4_ := Aside0.mk (blk_drew BK223.out)
  have n5_ := Aside0.mk (blk_drew BK229.out)
  have n6_ := Aside0.mk (below_drew1 HB.out)
  clear HO227 BK220 BK221 BK222 BK223 BK229 HB
  have HO227 := n0_
  have BK220 := n1_
  have BK221 := n2_
  have BK222 := n3_
  have BK223 := n4_
  have BK229 := n5_
  have HB := n6_
  clear n0_ n1_ n2_ n3_ n4_ n5_ n6_
  refine start_ (n := 31) (S := fun w' => w'.cell? ⟨gb220, 0, none⟩ = some (.int .i64 a0_0) ∧ w'.cell? ⟨gb220, 1, none⟩ = some (.int .i64 a0_1) ∧ w'.cell? ⟨gb220, 2, none⟩ = some (.int .i64 a0_2) ∧ w'.cell? ⟨gb220, 3, none⟩ = some (.int .i64 a0_3) ∧ w'.cell? ⟨gb220, 4, none⟩ = some (.int .i64 a0_4) ∧ w'.cell? ⟨gb220, 5, none⟩ = some (.int .i64 a0_5) ∧ w'.cell? ⟨gb220, 6, none⟩ = some (.int .i64 a0_6) ∧ w'.cell? ⟨gb220, 7, none⟩ = some (.int .i64 a0_7) ∧ w'.cell? ⟨gb220, 8, none⟩ = some (.int .i64 a0_8) ∧ w'.cell? ⟨gb220, 9, none⟩ = some (.int .i64 a0_9) ∧ w'.cell? ⟨gb220, 10, none⟩ = some (.int .i64 a0_10) ∧ w'.cell? ⟨gb220, 11, none⟩ = some (.int .i64 a0_11) ∧ w'.cell? ⟨gb220, 12, none⟩ = some (.int .i64 a0_12) ∧ w'.cell? ⟨gb220, 13, none⟩ = some (.int .i64 a0_13)) (ds := []) #[false, false, false, false, false, false, false, false, false, false, false, false, false, false, false, false, false, false, false, false, false, false, false, false, false, false, false, false, false, false, false] (by kernel_rfl) rfl rfl (ce14_ BK220.out) (fun hHeld => ?_); refine with_tabW impl_OnFailure.tab2 impl_OnFailure.bits2 (fun HT_ HW_ => ?_)
  generalize w48.drew = w49 at HO227 BK220 BK221 BK222 BK223 BK229 HB hHeld ⊢
  refine take_ (i := 0) (N := some 12) (v := ?_) (a' := ?_) #[true, false, false, false, false, false, false, false, false, false, false, false, false, false, false, false, false, false, false, false, false, false, false, false, false, false, false, false, false, false, false] rfl rfl (take_ofW HT_.out HW_.out (by kernel_rfl)) (fun _ _ _ h => h) (Or.inl ⟨by rfl, ?_⟩) hHeld ?_ ?_
  rotate_left
  ·
   rintro w' ⟨s0, s1, s2, s3, s4, s5, s6, s7, s8, s9, s10, s11, s12, s13⟩
   go_simp
   with_reducible rfl
  rotate_left
  ·
   simp only [Act.put, List.setIfInBounds_toArray, List.set_cons_zero, List.set_cons_succ, i64_w, i32_w]
   rfl
  refine one_ (i := 1) (N := some 13) #[true, true, false, false, false, false, false, false, false, false, false, false, false, false, false, false, false, false, false, false, false, false, false, false, false, false, false, false, false, false, false] rfl rfl (one_of HT_.out (by kernel_rfl)) (by decide) (fun K hK => ?_)
  refine goes_ Try.func20 (by kernel_rfl) rfl #[.agg #[.int .i64 a0_0, .int .i64 a0_1, .int .i64 a0_2, .int .i64 a0_3, .int .i64 a0_4, .int .i64 a0_5, .int .i64 a0_6, .int .i64 a0_7, .int .i64 a0_8, .int .i64 a0_9, .int .i64 a0_10, .int .i64 a0_11, .int .i64 a0_12, .int .i64 a0_13]] (by rfl) rfl rfl gm_ ?_
  with_reducible refine (impl_ConfigOk.calls k a0_0 a0_1 a0_2 a0_3 a0_4 a0_5 a0_6 a0_7 a0_8 a0_9 a0_10 a0_11 a0_12 a0_13 false _ A22.out).mono ?_
  rintro e w50 ⟨rfl, hb⟩
  refine ⟨_, rfl, ?_⟩
  have n0_ := Aside0.mk (Kd.R_below (ro_ HO227.out) hb)
  have n1_ := Aside0.mk (blk_below (bl_ BK220.out) hb)
  have n2_ := Aside0.mk (blk_below (bl_ BK221.out) hb)
  have n3_ := Aside0.mk (blk_below (bl_ BK222.out) hb)
  have n4_ := Aside0.mk (blk_below (bl_ BK223.out) hb)
  have n5_ := Aside0.mk (blk_below (bl_ BK229.out) hb)
  have n6_ := Aside0.mk (below_step (be_ HB.out) hb)
  clear HO227 BK220 BK221 BK222 BK223 BK229 HB
  have HO227 := n0_
  have BK220 := n1_
  have BK221 := n2_
  have BK222 := n3_
  have BK223 := n4_
  have BK229 := n5_
  have HB := n6_
  clear n0_ n1_ n2_ n3_ n4_ n5_ n6_
  (try clear hb)
  (try clear hb2)
  (try clear hk)
  (try clear hi)
  refine hK.out _ _ (ce14_ BK220.out) (fun hHeld => ?_)
  clear hK K
  refine norm_ (a' := ?_) ?_ ?_
  rotate_left
  ·
   show Act.put _ (some 13) _ = _
   simp only [Act.put, List.setIfInBounds_toArray, List.set_cons_zero, List.set_cons_succ, i64_w, i32_w]
   rfl
  refine pure_ (i := 2) (N := some 14) (v := ?_) (a' := ?_) #[true, true, true, false, false, false, false, false, false, false, false, false, false, false, false, false, false, false, false, false, false, false, false, false, false, false, false, false, false, false, false] rfl rfl (any_of HT_.out (by kernel_rfl)) (fun _ _ _ h => h) (Or.inl ⟨by rfl, ?_⟩) ?_ ?_
  rotate_left
  ·
   intro w'
   go_simp
   with_reducible rfl
  rotate_left
  ·
   simp only [Act.put, List.setIfInBounds_toArray, List.set_cons_zero, List.set_cons_succ, i64_w, i32_w]
   rfl
  refine pure_ (i := 3) (N := some 15) (v := ?_) (a' := ?_) #[true, true, true, true, false, false, false, false, false, false, false, false, false, false, false, false, false, false, false, false, false, false, false, false, false, false, false, false, false, false, false] rfl rfl (any_of HT_.out (by kernel_rfl)) (fun _ _ _ h => h) (Or.inl ⟨by rfl, ?_⟩) ?_ ?_
  rotate_left
  ·
   intro w'
   go_simp
   with_reducible rfl
  rotate_left
  ·
   simp only [Act.put, List.setIfInBounds_toArray, List.set_cons_zero, List.set_cons_succ, i64_w, i32_w]
   rfl
  refine pure_ (i := 4) (N := some 16) (v := undef) (a' := ?_) #[true, true, true, true, true, false, false, false, false, false, false, false, false, false, false, false, false, false, false, false, false, false, false, false, false, false, false, false, false, false, false] rfl rfl (any_of HT_.out (by kernel_rfl)) (fun _ _ _ h => h) (Or.inr ⟨by rfl, rfl⟩) ?_ ?_
  rotate_left
  ·
   simp only [Act.put, List.setIfInBounds_toArray, List.set_cons_zero, List.set_cons_succ, i64_w, i32_w]
   rfl
  refine pure_ (i := 5) (N := some 17) (v := undef) (a' := ?_) #[true, true, true, true, true, true, false, false, false, false, false, false, false, false, false, false, false, false, false, false, false, false, false, false, false, false, false, false, false, false, false] rfl rfl (any_of HT_.out (by kernel_rfl)) (fun _ _ _ h => h) (Or.inr ⟨by rfl, rfl⟩) ?_ ?_
  rotate_left
  ·
   simp only [Act.put, List.setIfInBounds_toArray, List.set_cons_zero, List.set_cons_succ, i64_w, i32_w]
   rfl
  refine pure_ (i := 6) (N := some 18) (v := undef) (a' := ?_) #[true, true, true, true, true, true, true, false, false, false, false, false, false, false, false, false, false, false, false, false, false, false, false, false, false, false, false, false, false, false, false] rfl rfl (any_of HT_.out (by kernel_rfl)) (fun _ _ _ h => h) (Or.inr ⟨by rfl, rfl⟩) ?_ ?_
  rotate_left
  ·
   simp only [Act.put, List.setIfInBounds_toArray, List.set_cons_zero, List.set_cons_succ, i64_w, i32_w]
   rfl
  refine pure_ (i := 7) (N := some 19) (v := ?_) (a' := ?_) #[true, true, true, true, true, true, true, true, false, false, false, false, false, false, false, false, false, false, false, false, false, false, false, false, false, false, false, false, false, false, false] rfl rfl (any_of HT_.out (by kernel_rfl)) (fun _ _ _ h => h) (Or.inl ⟨by rfl, ?_⟩) ?_ ?_
  rotate_left
  ·
   intro w'
   go_simp
   with_reducible rfl
  rotate_left
  ·
   simp only [Act.put, List.setIfInBounds_toArray, List.set_cons_zero, List.set_cons_succ, i64_w, i32_w]
   rfl
  refine pure_ (i := 8) (N := some 20) (v := ?_) (a' := ?_) #[true, true, true, true, true, true, true, true, true, false, false, false, false, false, false, false, false, false, false, false, false, false, false, false, false, false, false, false, false, false, false] rfl rfl (any_of HT_.out (by kernel_rfl)) (fun _ _ _ h => h) (Or.inl ⟨by rfl, ?_⟩) ?_ ?_
  rotate_left
  ·
   intro w'
   go_simp
   with_reducible rfl
  rotate_left
  ·
   simp only [Act.put, List.setIfInBounds_toArray, List.set_cons_zero, List.set_cons_succ, i64_w, i32_w]
   rfl
  refine pure_ (i := 9) (N := some 21) (v := undef) (a' := ?_) #[true, true, true, true, true, true, true, true, true, true, false, false, false, false, false, false, false, false, false, false, false, false, false, false, false, false, false, false, false, false, false] rfl rfl (any_of HT_.out (by kernel_rfl)) (fun _ _ _ h => h) (Or.inr ⟨by rfl, rfl⟩) ?_ ?_
  rotate_left
  ·
   simp only [Act.put, List.setIfInBounds_toArray, List.set_cons_zero, List.set_cons_succ, i64_w, i32_w]
   rfl
  refine pure_ (i := 10) (N := some 22) (v := undef) (a' := ?_) #[true, true, true, true, true, true, true, true, true, true, true, false, false, false, false, false, false, false, false, false, false, false, false, false, false, false, false, false, false, false, false] rfl rfl (any_of HT_.out (by kernel_rfl)) (fun _ _ _ h => h) (Or.inr ⟨by rfl, rfl⟩) ?_ ?_
  rotate_left
  ·
   simp only [Act.put, List.setIfInBounds_toArray, List.set_cons_zero, List.set_cons_succ, i64_w, i32_w]
   rfl
  refine pure_ (i := 11) (N := some 23) (v := undef) (a' := ?_) #[true, true, true, true, true, true, true, true, true, true, true, true, false, false, false, false, false, false, false, false, false, false, false, false, false, false, false, false, false, false, false] rfl rfl (any_of HT_.out (by kernel_rfl)) (fun _ _ _ h => h) (Or.inr ⟨by rfl, rfl⟩) ?_ ?_
  rotate_left
  ·
   simp only [Act.put, List.setIfInBounds_toArray, List.set_cons_zero, List.set_cons_succ, i64_w, i32_w]
   rfl
  refine pure_ (i := 12) (N := some 24) (v := ?_) (a' := ?_) #[true, true, true, true, true, true, true, true, true, true, true, true, true, false, false, false, false, false, false, false, false, false, false, false, false, false, false, false, false, false, false] rfl rfl (any_of HT_.out (by kernel_rfl)) (fun _ _ _ h => h) (Or.inl ⟨by rfl, ?_⟩) ?_ ?_
  rotate_left
  ·
   intro w'
   go_simp
   with_reducible rfl
  rotate_left
  ·
   simp only [Act.put, List.setIfInBounds_toArray, List.set_cons_zero, List.set_cons_succ, i64_w, i32_w]
   rfl
  refine pure_ (i := 13) (N := some 25) (v := ?_) (a' := ?_) #[true, true, true, true, true, true, true, true, true, true, true, true, true, true, false, false, false, false, false, false, false, false, false, false, false, false, false, false, false, false, false] rfl rfl (any_of HT_.out (by kernel_rfl)) (fun _ _ _ h => h) (Or.inl ⟨by rfl, ?_⟩) ?_ ?_
  rotate_left
  ·
   intro w'
   go_simp
   with_reducible rfl
  rotate_left
  ·
   simp only [Act.put, List.setIfInBounds_toArray, List.set_cons_zero, List.set_cons_succ, i64_w, i32_w]
   rfl
  refine pure_ (i := 14) (N := some 26) (v := undef) (a' := ?_) #[true, true, true, true, true, true, true, true, true, true, true, true, true, true, true, false, false, false, false, false, false, false, false, false, false, false, false, false, false, false, false] rfl rfl (any_of HT_.out (by kernel_rfl)) (fun _ _ _ h => h) (Or.inr ⟨by rfl, rfl⟩) ?_ ?_
  rotate_left
  ·
   simp only [Act.put, List.setIfInBounds_toArray, List.set_cons_zero, List.set_cons_succ, i64_w, i32_w]
   rfl
  refine pure_ (i := 15) (N := some 27) (v := undef) (a' := ?_) #[true, true, true, true, true, true, true, true, true, true, true, true, true, true, true, true, false, false, false, false, false, false, false, false, false, false, false, false, false, false, false] rfl rfl (any_of HT_.out (by kernel_rfl)) (fun _ _ _ h => h) (Or.inr ⟨by rfl, rfl⟩) ?_ ?_
  rotate_left
  ·
   simp only [Act.put, List.setIfInBounds_toArray, List.set_cons_zero, List.set_cons_succ, i64_w, i32_w]
   rfl
  refine pure_ (i := 16) (N := some 28) (v := undef) (a' := ?_) #[true, true, true, true, true, true, true, true, true, true, true, true, true, true, true, true, true, false, false, false, false, false, false, false, false, false, false, false, false, false, false] rfl rfl (any_of HT_.out (by kernel_rfl)) (fun _ _ _ h => h) (Or.inr ⟨by rfl, rfl⟩) ?_ ?_
  rotate_left
  ·
   simp only [Act.put, List.setIfInBounds_toArray, List.set_cons_zero, List.set_cons_succ, i64_w, i32_w]
   rfl
  refine pure_ (i := 17) (N := some 29) (v := undef) (a' := ?_) #[true, true, true, true, true, true, true, true, true, true, true, true, true, true, true, true, true, true, false, false, false, false, false, false, false, false, false, false, false, false, false] rfl rfl (any_of HT_.out (by kernel_rfl)) (fun _ _ _ h => h) (Or.inr ⟨by rfl, rfl⟩) ?_ ?_
  rotate_left
  ·
   simp only [Act.put, List.setIfInBounds_toArray, List.set_cons_zero, List.set_cons_succ, i64_w, i32_w]
   rfl
  refine pure_ (i := 18) (N := some 30) (v := undef) (a' := ?_) #[true, true, true, true, true, true, true, true, true, true, true, true, true, true, true, true, true, true, true, false, false, false, false, false, false, false, false, false, false, false, false] rfl rfl (any_of HT_.out (by kernel_rfl)) (fun _ _ _ h => h) (Or.inr ⟨by rfl, rfl⟩) ?_ ?_
  rotate_left
  ·
   simp only [Act.put, List.setIfInBounds_toArray, List.set_cons_zero, List.set_cons_succ, i64_w, i32_w]
   rfl
  refine pure_ (i := 19) (N := some 31) (v := undef) (a' := ?_) #[true, true, true, true, true, true, true, true, true, true, true, true, true, true, true, true, true, true, true, true, false, false, false, false, false, false, false, false, false, false, false] rfl rfl (any_of HT_.out (by kernel_rfl)) (fun _ _ _ h => h) (Or.inr ⟨by rfl, rfl⟩) ?_ ?_
  rotate_left
  ·
   simp only [Act.put, List.setIfInBounds_toArray, List.set_cons_zero, List.set_cons_succ, i64_w, i32_w]
   rfl
  refine pure_ (i := 20) (N := some 32) (v := undef) (a' := ?_) #[true, true, true, true, true, true, true, true, true, true, true, true, true, true, true, true, true, true, true, true, true, false, false, false, false, false, false, false, false, false, false] rfl rfl (any_of HT_.out (by kernel_rfl)) (fun _ _ _ h => h) (Or.inr ⟨by rfl, rfl⟩) ?_ ?_
  rotate_left
  ·
   simp only [Act.put, List.setIfInBounds_toArray, List.set_cons_zero, List.set_cons_succ, i64_w, i32_w]
   rfl
  refine pure_ (i := 21) (N := some 33) (v := undef) (a' := ?_) #[true, true, true, true, true, true, true, true, true, true, true, true, true, true, true, true, true, true, true, true, true, true, false, false, false, false, false, false, false, false, false] rfl rfl (any_of HT_.out (by kernel_rfl)) (fun _ _ _ h => h) (Or.inr ⟨by rfl, rfl⟩) ?_ ?_
  rotate_left
  ·
   simp only [Act.put, List.setIfInBounds_toArray, List.set_cons_zero, List.set_cons_succ, i64_w, i32_w]
   rfl
  refine pure_ (i := 22) (N := some 34) (v := undef) (a' := ?_) #[true, true, true, true, true, true, true, true, true, true, true, true, true, true, true, true, true, true, true, true, true, true, true, false, false, false, false, false, false, false, false] rfl rfl (any_of HT_.out (by kernel_rfl)) (fun _ _ _ h => h) (Or.inr ⟨by rfl, rfl⟩) ?_ ?_
  rotate_left
  ·
   simp only [Act.put, List.setIfInBounds_toArray, List.set_cons_zero, List.set_cons_succ, i64_w, i32_w]
   rfl
  refine pure_ (i := 23) (N := some 35) (v := undef) (a' := ?_) #[true, true, true, true, true, true, true, true, true, true, true, true, true, true, true, true, true, true, true, true, true, true, true, true, false, false, false, false, false, false, false] rfl rfl (any_of HT_.out (by kernel_rfl)) (fun _ _ _ h => h) (Or.inr ⟨by rfl, rfl⟩) ?_ ?_
  rotate_left
  ·
   simp only [Act.put, List.setIfInBounds_toArray, List.set_cons_zero, List.set_cons_succ, i64_w, i32_w]
   rfl
  refine pure_ (i := 24) (N := some 36) (v := undef) (a' := ?_) #[true, true, true, true, true, true, true, true, true, true, true, true, true, true, true, true, true, true, true, true, true, true, true, true, true, false, false, false, false, false, false] rfl rfl (any_of HT_.out (by kernel_rfl)) (fun _ _ _ h => h) (Or.inr ⟨by rfl, rfl⟩) ?_ ?_
  rotate_left
  ·
   simp only [Act.put, List.setIfInBounds_toArray, List.set_cons_zero, List.set_cons_succ, i64_w, i32_w]
   rfl
  refine pure_ (i := 25) (N := some 37) (v := undef) (a' := ?_) #[true, true, true, true, true, true, true, true, true, true, true, true, true, true, true, true, true, true, true, true, true, true, true, true, true, true, false, false, false, false, false] rfl rfl (any_of HT_.out (by kernel_rfl)) (fun _ _ _ h => h) (Or.inr ⟨by rfl, rfl⟩) ?_ ?_
  rotate_left
  ·
   simp only [Act.put, List.setIfInBounds_toArray, List.set_cons_zero, List.set_cons_succ, i64_w, i32_w]
   rfl
  refine pure_ (i := 26) (N := some 38) (v := undef) (a' := ?_) #[true, true, true, true, true, true, true, true, true, true, true, true, true, true, true, true, true, true, true, true, true, true, true, true, true, true, true, false, false, false, false] rfl rfl (any_of HT_.out (by kernel_rfl)) (fun _ _ _ h => h) (Or.inr ⟨by rfl, rfl⟩) ?_ ?_
  rotate_left
  ·
   simp only [Act.put, List.setIfInBounds_toArray, List.set_cons_zero, List.set_cons_succ, i64_w, i32_w]
   rfl
  refine pure_ (i := 27) (N := some 39) (v := undef) (a' := ?_) #[true, true, true, true, true, true, true, true, true, true, true, true, true, true, true, true, true, true, true, true, true, true, true, true, true, true, true, true, false, false, false] rfl rfl (any_of HT_.out (by kernel_rfl)) (fun _ _ _ h => h) (Or.inr ⟨by rfl, rfl⟩) ?_ ?_
  rotate_left
  ·
   simp only [Act.put, List.setIfInBounds_toArray, List.set_cons_zero, List.set_cons_succ, i64_w, i32_w]
   rfl
  refine pure_ (i := 28) (N := some 40) (v := undef) (a' := ?_) #[true, true, true, true, true, true, true, true, true, true, true, true, true, true, true, true, true, true, true, true, true, true, true, true, true, true, true, true, true, false, false] rfl rfl (any_of HT_.out (by kernel_rfl)) (fun _ _ _ h => h) (Or.inr ⟨by rfl, rfl⟩) ?_ ?_
  rotate_left
  ·
   simp only [Act.put, List.setIfInBounds_toArray, List.set_cons_zero, List.set_cons_succ, i64_w, i32_w]
   rfl
  refine pure_ (i := 29) (N := some 41) (v := undef) (a' := ?_) #[true, true, true, true, true, true, true, true, true, true, true, true, true, true, true, true, true, true, true, true, true, true, true, true, true, true, true, true, true, true, false] rfl rfl (any_of HT_.out (by kernel_rfl)) (fun _ _ _ h => h) (Or.inr ⟨by rfl, rfl⟩) ?_ ?_
  rotate_left
  ·
   simp only [Act.put, List.setIfInBounds_toArray, List.set_cons_zero, List.set_cons_succ, i64_w, i32_w]
   rfl
  refine pure_ (i := 30) (N := some 42) (v := ?_) (a' := ?_) #[true, true, true, true, true, true, true, true, true, true, true, true, true, true, true, true, true, true, true, true, true, true, true, true, true, true, true, true, true, true, true] rfl rfl (any_of HT_.out (by kernel_rfl)) (fun _ _ _ h => h) (Or.inl ⟨by rfl, ?_⟩) ?_ ?_
  rotate_left
  ·
   intro w'
   go_simp
   with_reducible rfl
  rotate_left
  ·
   simp only [Act.put, List.setIfInBounds_toArray, List.set_cons_zero, List.set_cons_succ, i64_w, i32_w]
   rfl
  refine done_ (done_of HT_.out (by kernel_rfl)) ?_
  try go_wp2
  go_meet
  case rel => exact ⟨_, (true), (by first | rfl | (simp; done) | (simp [*]; done)), H', ⟨by first | omega | exact Nat.le_refl _⟩, ⟨by (with_reducible repeat (first | apply Kd.R_alloc | apply Kd.R_drewN | apply Kd.R_drew)); exact HO227.out⟩, ⟨by refine bl_ ?_; exact BK220.out⟩, ⟨by refine bl_ ?_; exact BK221.out⟩, ⟨by refine bl_ ?_; exact BK222.out⟩, ⟨by refine bl_ ?_; exact BK223.out⟩, ⟨by refine bl_ ?_; exact BK229.out⟩, ⟨be_ HB.out⟩⟩
 case rest =>
  clear HC5
  try clear c1
  try clear c2
  try clear p2
  try clear c20
  try clear c21
  try clear c23
  try clear c25
  obtain ⟨kq, x42_4, rfl, HA, HJ4, HO_230001, BK220, BK221, BK222, BK223, BK229, HB⟩ := hcut
  cases kq with
  | zero => exact absurd HA.out (by simp [impl_OnFailure.j0])
  | succ kj4 =>
   have H := HA.out
   clear HA
   simp only [impl_OnFailure.j0] at H
   by_cases c51 : x42_4 = true
   ·
    subst c51
    have H1 : (some (t224, t225, t228, false)) = some (r1, r2, r3, r4) := by rw [if_pos rfl] at H; exact H
    clear H
    have H := H1
    clear H1
    simp only [Option.some.injEq, Prod.mk.injEq] at H
    obtain ⟨rfl, rfl, rfl, rfl⟩ := H
    have hnb52 := NB229_220.out
    have hnc52 := NB220_229.out
    have hnb53 := NB229_221.out
    have hnc53 := NB221_229.out
    have hnb54 := NB229_222.out
    have hnc54 := NB222_229.out
    have hnb55 := NB229_223.out
    have hnc55 := NB223_229.out
    obtain ⟨hcz56_0, hcz56_1, hcz56_2, hfz56_0, hfz56_1, hfz56_2⟩ := cz3_ BK229.out
    have hnb57 := NB223_220.out
    have hnc57 := NB220_223.out
    have hnb58 := NB223_221.out
    have hnc58 := NB221_223.out
    have hnb59 := NB223_222.out
    have hnc59 := NB222_223.out
    obtain ⟨hcz60_0, hcz60_1, hcz60_2, hfz60_0, hfz60_1, hfz60_2⟩ := cz3_ BK223.out
    go_wp2
    refine bodyPost_ret (results_ct rfl _ _ gb223 28 #[.int .i64 t224, .slice Ao21 t225.length co21, .int .i64 t228] (0, 0) _ rfl (by refine bl_ ?_; refine blk_put (cs := #[.int .i64 t224, .slice Ao21 t225.length co21, .int .i64 0]) ?_ 2 _ rfl; refine bl_ ?_; refine blk_put (cs := #[.int .i64 t224, .slice none 0 0, .int .i64 0]) ?_ 1 _ rfl; refine bl_ ?_; refine blk_put (cs := #[.int .i64 0, .slice none 0 0, .int .i64 0]) ?_ 0 _ rfl; refine bl_ ?_; exact BK223.out) Try.underlying28 rfl (by kernel_rfl)) rfl ?_
    exact ⟨_, by first | rfl | (simp [errW_none, errW_some] <;> rfl) | (simp [*, errW_none, errW_some] <;> rfl), by (with_reducible repeat (first | apply Kd.R_alloc | apply Kd.R_drewN | apply Kd.R_drew)); exact Kd.R_mono (Kd.R_far (p := ⟨gb223, 2, none⟩) (Kd.R_far (p := ⟨gb223, 1, none⟩) (Kd.R_far (p := ⟨gb223, 0, none⟩) (Kd.R_types HO_230001.out BK223.out (by decide)) (fun _ hk => hk.2) (.int .i64 t224)) (fun _ hk => hk.2) (.slice Ao21 t225.length co21)) (fun _ hk => hk.2) (.int .i64 t228)) (fun _ hk => trivial), be_ HB.out⟩
   replace c51 := Bool.eq_false_iff.mpr c51
   subst c51
   have H1 : ((impl_AddTick.f a2 a0_12).bind fun t234 => (if a1_0 = 2 then (some (1, ([] : List Int), t234, true)) else (if a1_0 = 0 then ((slices_DeleteFunc_int_int.f kj4 t225 (wrap64 (a2 - a0_10))).bind fun t236 => ((some (([a2] : List Int) : List Int)).bind fun y239 => (if t236.length + y239.length < 17592186044416 then ((some (t236 ++ y239 : List Int)).bind fun y242 => (if (y242.length : Int) ≥ a0_11 then (some (1, ([] : List Int), t234, true)) else (some (t224, y242, t228, true)))) else (none)))) else (some (t224, t225, t228, true))))) = some (r1, r2, r3, r4) := by rw [if_neg (show ¬ (false = true) by decide)] at H; exact H
   clear H
   have H := H1
   clear H1
   replace H := Option.bind_eq_some_iff.mp H
   obtain ⟨t234, A610, H⟩ := H
   replace H : (if a1_0 = 2 then (some (1, ([] : List Int), t234, true)) else (if a1_0 = 0 then ((slices_DeleteFunc_int_int.f kj4 t225 (wrap64 (a2 - a0_10))).bind fun t236 => ((some (([a2] : List Int) : List Int)).bind fun y239 => (if t236.length + y239.length < 17592186044416 then ((some (t236 ++ y239 : List Int)).bind fun y242 => (if (y242.length : Int) ≥ a0_11 then (some (1, ([] : List Int), t234, true)) else (some (t224, y242, t228, true)))) else (none)))) else (some (t224, t225, t228, true)))) = some (r1, r2, r3, r4) := H
   have A61 := Aside0.mk A610
   clear A610
   by_cases c62 : a1_0 = 2
   ·
    rw [if_pos c62] at H
    have c62b0 : (a1_0 == 2) = true := beq_iff_eq.mpr c62
    have c62b1 : (a1_0 != 2) = false := bne_eq_false_iff_eq.mpr c62
    clear c62
    simp only [Option.some.injEq, Prod.mk.injEq] at H
    obtain ⟨rfl, rfl, rfl, rfl⟩ := H
    have hnb63 := NB222_220.out
    have hnc63 := NB220_222.out
    have hnb64 := NB222_221.out
    have hnc64 := NB221_222.out
    have hnb65 := NB222_223.out
    have hnc65 := NB223_222.out
    have hnb66 := NB222_229.out
    have hnc66 := NB229_222.out
    obtain ⟨hcz67_0, hfz67_0⟩ := cz1_ BK222.out
    have hnb68 := NB220_221.out
    have hnc68 := NB221_220.out
    have hnb69 := NB220_223.out
    have hnc69 := NB223_220.out
    have hnb70 := NB220_229.out
    have hnc70 := NB229_220.out
    obtain ⟨hcz71_0, hcz71_1, hcz71_2, hcz71_3, hcz71_4, hcz71_5, hcz71_6, hcz71_7, hcz71_8, hcz71_9, hcz71_10, hcz71_11, hcz71_12, hcz71_13, hfz71_0, hfz71_1, hfz71_2, hfz71_3, hfz71_4, hfz71_5, hfz71_6, hfz71_7, hfz71_8, hfz71_9, hfz71_10, hfz71_11, hfz71_12, hfz71_13⟩ := cz14_ BK220.out
    go_wp2_with (first | ((with_reducible refine gate_callee (f := 23) rfl ?_); refine goesL_ (some 47) rfl rfl Try.func23 (by kernel_rfl) rfl #[.int .i64 a2, .int .i64 a0_12] rfl gm_ ?_; (with_reducible refine (impl_AddTick.calls a2 a0_12 t234 _ A61.out).mono ?_); rintro e w72 ⟨rfl, hb⟩; refine ⟨_, rfl, ?_⟩; have n0_ := Aside0.mk (Kd.R_below (ro_ HO_230001.out) hb); have n1_ := Aside0.mk (blk_below (bl_ BK220.out) hb); have n2_ := Aside0.mk (blk_below (bl_ BK221.out) hb); have n3_ := Aside0.mk (blk_below (bl_ BK222.out) hb); have n4_ := Aside0.mk (blk_below (bl_ BK223.out) hb); have n5_ := Aside0.mk (blk_below (bl_ BK229.out) hb); have n6_ := Aside0.mk (below_step (be_ HB.out) hb); clear HO_230001 BK220 BK221 BK222 BK223 BK229 HB; have HO_230001 := n0_; have BK220 := n1_; have BK221 := n2_; have BK222 := n3_; have BK223 := n4_; have BK229 := n5_; have HB := n6_; clear n0_ n1_ n2_ n3_ n4_ n5_ n6_; (try clear hb); (try clear hb2); (try clear hk); (try clear hi)) | ((with_reducible refine gate_dst (N := 9) rfl ?_); (try (refine gate_guard (by rfl) ?_; dsimp only)); refine box_event ?hg (N := 9) ?hd (cs := #[.int .i64 0, .slice none 0 0, .int .i64 0]) (t := 28) ?hr ?_; (case hd => rfl); (case hg => rfl); (case hr => first | (go_simp; done) | (go_simp; rfl)); intro gb235 hg w73 hbox hb; have n0_ := Aside0.mk (Kd.R_below (ro_ HO_230001.out) hb); have n1_ := Aside0.mk (blk_below (bl_ BK220.out) hb); have n2_ := Aside0.mk (blk_below (bl_ BK221.out) hb); have n3_ := Aside0.mk (blk_below (bl_ BK222.out) hb); have n4_ := Aside0.mk (blk_below (bl_ BK223.out) hb); have n5_ := Aside0.mk (blk_below (bl_ BK229.out) hb); have n6_ := Aside0.mk (below_step (be_ HB.out) hb); have n7_ := Aside0.mk (hbox); have n8_ := Aside0.mk (gs_ hg (be_ HB.out)); have n9_ := Aside0.mk (gs_ hg (be_ HB.out)); have n10_ := Aside0.mk (nl_ hg (bl_ BK220.out)); have n11_ := Aside0.mk (ng_ hg (bl_ BK220.out)); have n12_ := Aside0.mk (nl_ hg (bl_ BK221.out)); have n13_ := Aside0.mk (ng_ hg (bl_ BK221.out)); have n14_ := Aside0.mk (nl_ hg (bl_ BK222.out)); have n15_ := Aside0.mk (ng_ hg (bl_ BK222.out)); have n16_ := Aside0.mk (nl_ hg (bl_ BK223.out)); have n17_ := Aside0.mk (ng_ hg (bl_ BK223.out)); have n18_ := Aside0.mk (nl_ hg (bl_ BK229.out)); have n19_ := Aside0.mk (ng_ hg (bl_ BK229.out)); clear HO_230001 BK220 BK221 BK222 BK223 BK229 HB; have HO_230001 := n0_; have BK220 := n1_; have BK221 := n2_; have BK222 := n3_; have BK223 := n4_; have BK229 := n5_; have HB := n6_; have BK235 := n7_; have GW235 := n8_; have GE235 := n9_; have NB220_235 := n10_; have NB235_220 := n11_; have NB221_235 := n12_; have NB235_221 := n13_; have NB222_235 := n14_; have NB235_222 := n15_; have NB223_235 := n16_; have NB235_223 := n17_; have NB229_235 := n18_; have NB235_229 := n19_; clear n0_ n1_ n2_ n3_ n4_ n5_ n6_ n7_ n8_ n9_ n10_ n11_ n12_ n13_ n14_ n15_ n16_ n17_ n18_ n19_; clear hb hbox hg; have hnb74 := NB235_220.out; have hnc74 := NB220_235.out; have hnb75 := NB235_221.out; have hnc75 := NB221_235.out; have hnb76 := NB235_222.out; have hnc76 := NB222_235.out; have hnb77 := NB235_223.out; have hnc77 := NB223_235.out; have hnb78 := NB235_229.out; have hnc78 := NB229_235.out; obtain ⟨hcz79_0, hcz79_1, hcz79_2, hfz79_0, hfz79_1, hfz79_2⟩ := cz3_ BK235.out; have hnb80 := NB221_223.out; have hnc80 := NB223_221.out; have hnb81 := NB221_229.out; have hnc81 := NB229_221.out; obtain ⟨hcz82_0, hcz82_1, hcz82_2, hfz82_0, hfz82_1, hfz82_2⟩ := cz3_ BK221.out; have hnb83 := NB223_229.out; have hnc83 := NB229_223.out; obtain ⟨hcz84_0, hcz84_1, hcz84_2, hfz84_0, hfz84_1, hfz84_2⟩ := cz3_ BK223.out))
    refine bodyPost_ret (results_ct rfl _ _ gb223 28 #[.int .i64 1, .slice none 0 0, .int .i64 t234] (0, 0) _ rfl (by refine bl_ ?_; refine blk_put (cs := #[.int .i64 1, .slice none 0 0, .int .i64 0]) ?_ 2 _ rfl; refine bl_ ?_; refine blk_put (cs := #[.int .i64 1, .slice none 0 0, .int .i64 0]) ?_ 1 _ rfl; refine bl_ ?_; refine blk_put (cs := #[.int .i64 0, .slice none 0 0, .int .i64 0]) ?_ 0 _ rfl; refine bl_ ?_; refine blk_far ?_ NB223_235.out _; refine bl_ ?_; refine blk_far ?_ NB223_235.out _; refine bl_ ?_; refine blk_far ?_ NB223_235.out _; refine bl_ ?_; exact BK223.out) Try.underlying28 rfl (by kernel_rfl)) rfl ?_
    exact ⟨_, by first | rfl | (simp [errW_none, errW_some] <;> rfl) | (simp [*, errW_none, errW_some] <;> rfl), by first | exact Kd.R_nil _ _ _ _ _ | exact Kd.N_nil _ _ _ _ _ | exact Kd.V_nil _ _ _ _ _ | exact Kd.Q_nil _ _ _ _ _ | exact Kd.S_nil _ _ _ _ _, be_ HB.out⟩
   rw [if_neg c62] at H
   have c62b0 : (a1_0 == 2) = false := beq_eq_false_iff_ne.mpr c62
   have c62b1 : (a1_0 != 2) = true := bne_iff_ne.mpr c62
   by_cases c85 : a1_0 = 0
   ·
    rw [if_pos c85] at H
    have c85b0 : (a1_0 == 0) = true := beq_iff_eq.mpr c85
    have c85b1 : (a1_0 != 0) = false := bne_eq_false_iff_eq.mpr c85
    clear c85
    replace H := Option.bind_eq_some_iff.mp H
    obtain ⟨t236, A860, H⟩ := H
    replace H : ((some (([a2] : List Int) : List Int)).bind fun y239 => (if t236.length + y239.length < 17592186044416 then ((some (t236 ++ y239 : List Int)).bind fun y242 => (if (y242.length : Int) ≥ a0_11 then (some (1, ([] : List Int), t234, true)) else (some (t224, y242, t228, true)))) else (none))) = some (r1, r2, r3, r4) := H
    have A86 := Aside0.mk A860
    clear A860
    obtain ⟨y239, hy239⟩ : ∃ y_ : List Int, y_ = (([a2] : List Int)) := ⟨_, rfl⟩
    replace H : (if t236.length + y239.length < 17592186044416 then ((some (t236 ++ y239 : List Int)).bind fun y242 => (if (y242.length : Int) ≥ a0_11 then (some (1, ([] : List Int), t234, true)) else (some (t224, y242, t228, true)))) else (none)) = some (r1, r2, r3, r4) := by first | (rw [hy239]; with_reducible exact H) | (have H2_ := (Option.bind_some _ _).symm.trans H; rw [hy239]; with_reducible exact H2_) | (have H2_ := (Option.bind_some _ _).symm.trans H; with_reducible exact H2_) | with_reducible exact H | (rw [hy239]; exact H) | exact H
    have Ny239 := Aside0.mk hy239
    clear hy239
    by_cases c87 : t236.length + y239.length < 17592186044416
    ·
     rw [if_pos c87] at H
     have LMc87 := Aside0.mk c87
     clear c87
     obtain ⟨y242, hy242⟩ : ∃ y_ : List Int, y_ = (t236 ++ y239) := ⟨_, rfl⟩
     replace H : (if (y242.length : Int) ≥ a0_11 then (some (1, ([] : List Int), t234, true)) else (some (t224, y242, t228, true))) = some (r1, r2, r3, r4) := by first | (rw [hy242]; with_reducible exact H) | (have H2_ := (Option.bind_some _ _).symm.trans H; rw [hy242]; with_reducible exact H2_) | (have H2_ := (Option.bind_some _ _).symm.trans H; with_reducible exact H2_) | with_reducible exact H | (rw [hy242]; exact H) | exact H
     have Ny242 := Aside0.mk hy242
     clear hy242
     have hnb89 := NB222_220.out
     have hnc89 := NB220_222.out
     have hnb90 := NB222_221.out
     have hnc90 := NB221_222.out
     have hnb91 := NB222_223.out
     have hnc91 := NB223_222.out
     have hnb92 := NB222_229.out
     have hnc92 := NB229_222.out
     obtain ⟨hcz93_0, hfz93_0⟩ := cz1_ BK222.out
     have hnb94 := NB220_221.out
     have hnc94 := NB221_220.out
     have hnb95 := NB220_223.out
     have hnc95 := NB223_220.out
     have hnb96 := NB220_229.out
     have hnc96 := NB229_220.out
     obtain ⟨hcz97_0, hcz97_1, hcz97_2, hcz97_3, hcz97_4, hcz97_5, hcz97_6, hcz97_7, hcz97_8, hcz97_9, hcz97_10, hcz97_11, hcz97_12, hcz97_13, hfz97_0, hfz97_1, hfz97_2, hfz97_3, hfz97_4, hfz97_5, hfz97_6, hfz97_7, hfz97_8, hfz97_9, hfz97_10, hfz97_11, hfz97_12, hfz97_13⟩ := cz14_ BK220.out
     try go_wp2_with (first | ((with_reducible refine gate_callee (f := 23) rfl ?_); refine goesL_ (some 47) rfl rfl Try.func23 (by kernel_rfl) rfl #[.int .i64 a2, .int .i64 a0_12] rfl gm_ ?_; (with_reducible refine (impl_AddTick.calls a2 a0_12 t234 _ A61.out).mono ?_); rintro e w98 ⟨rfl, hb⟩; refine ⟨_, rfl, ?_⟩; have n0_ := Aside0.mk (Kd.R_below (ro_ HO_230001.out) hb); have n1_ := Aside0.mk (blk_below (bl_ BK220.out) hb); have n2_ := Aside0.mk (blk_below (bl_ BK221.out) hb); have n3_ := Aside0.mk (blk_below (bl_ BK222.out) hb); have n4_ := Aside0.mk (blk_below (bl_ BK223.out) hb); have n5_ := Aside0.mk (blk_below (bl_ BK229.out) hb); have n6_ := Aside0.mk (below_step (be_ HB.out) hb); clear HO_230001 BK220 BK221 BK222 BK223 BK229 HB; have HO_230001 := n0_; have BK220 := n1_; have BK221 := n2_; have BK222 := n3_; have BK223 := n4_; have BK229 := n5_; have HB := n6_; clear n0_ n1_ n2_ n3_ n4_ n5_ n6_; (try clear hb); (try clear hb2); (try clear hk); (try clear hi)) | ((with_reducible refine gate_dst (N := 9) rfl ?_); (try (refine gate_guard (by rfl) ?_; dsimp only)); refine box_event ?hg (N := 9) ?hd (cs := #[.int .i64 0, .slice none 0 0, .int .i64 0]) (t := 28) ?hr ?_; (case hd => rfl); (case hg => rfl); (case hr => first | (go_simp; done) | (go_simp; rfl)); intro gb235 hg w99 hbox hb; have n0_ := Aside0.mk (Kd.R_below (ro_ HO_230001.out) hb); have n1_ := Aside0.mk (blk_below (bl_ BK220.out) hb); have n2_ := Aside0.mk (blk_below (bl_ BK221.out) hb); have n3_ := Aside0.mk (blk_below (bl_ BK222.out) hb); have n4_ := Aside0.mk (blk_below (bl_ BK223.out) hb); have n5_ := Aside0.mk (blk_below (bl_ BK229.out) hb); have n6_ := Aside0.mk (below_step (be_ HB.out) hb); have n7_ := Aside0.mk (hbox); have n8_ := Aside0.mk (gs_ hg (be_ HB.out)); have n9_ := Aside0.mk (gs_ hg (be_ HB.out)); have n10_ := Aside0.mk (nl_ hg (bl_ BK220.out)); have n11_ := Aside0.mk (ng_ hg (bl_ BK220.out)); have n12_ := Aside0.mk (nl_ hg (bl_ BK221.out)); have n13_ := Aside0.mk (ng_ hg (bl_ BK221.out)); have n14_ := Aside0.mk (nl_ hg (bl_ BK222.out)); have n15_ := Aside0.mk (ng_ hg (bl_ BK222.out)); have n16_ := Aside0.mk (nl_ hg (bl_ BK223.out)); have n17_ := Aside0.mk (ng_ hg (bl_ BK223.out)); have n18_ := Aside0.mk (nl_ hg (bl_ BK229.out)); have n19_ := Aside0.mk (ng_ hg (bl_ BK229.out)); clear HO_230001 BK220 BK221 BK222 BK223 BK229 HB; have HO_230001 := n0_; have BK220 := n1_; have BK221 := n2_; have BK222 := n3_; have BK223 := n4_; have BK229 := n5_; have HB := n6_; have BK235 := n7_; have GW235 := n8_; have GE235 := n9_; have NB220_235 := n10_; have NB235_220 := n11_; have NB221_235 := n12_; have NB235_221 := n13_; have NB222_235 := n14_; have NB235_222 := n15_; have NB223_235 := n16_; have NB235_223 := n17_; have NB229_235 := n18_; have NB235_229 := n19_; clear n0_ n1_ n2_ n3_ n4_ n5_ n6_ n7_ n8_ n9_ n10_ n11_ n12_ n13_ n14_ n15_ n16_ n17_ n18_ n19_; clear hb hbox hg; have hnb100 := NB235_220.out; have hnc100 := NB220_235.out; have hnb101 := NB235_221.out; have hnc101 := NB221_235.out; have hnb102 := NB235_222.out; have hnc102 := NB222_235.out; have hnb103 := NB235_223.out; have hnc103 := NB223_235.out; have hnb104 := NB235_229.out; have hnc104 := NB229_235.out; obtain ⟨hcz105_0, hcz105_1, hcz105_2, hfz105_0, hfz105_1, hfz105_2⟩ := cz3_ BK235.out; have hnb106 := NB221_223.out; have hnc106 := NB223_221.out; have hnb107 := NB221_229.out; have hnc107 := NB229_221.out; obtain ⟨hcz108_0, hcz108_1, hcz108_2, hfz108_0, hfz108_1, hfz108_2⟩ := cz3_ BK221.out; obtain ⟨hcz109_0, hfz109_0⟩ := cz1_ BK222.out; obtain ⟨hcz110_0, hcz110_1, hcz110_2, hcz110_3, hcz110_4, hcz110_5, hcz110_6, hcz110_7, hcz110_8, hcz110_9, hcz110_10, hcz110_11, hcz110_12, hcz110_13, hfz110_0, hfz110_1, hfz110_2, hfz110_3, hfz110_4, hfz110_5, hfz110_6, hfz110_7, hfz110_8, hfz110_9, hfz110_10, hfz110_11, hfz110_12, hfz110_13⟩ := cz14_ BK220.out))
     have n0_ : Aside0 (Kd.R (Kd.int .i64) 3 (((w99.setCell ⟨gb235, 0, none⟩ (.int .i64 1)).setCell ⟨gb235, 1, none⟩ (.slice none 0 0)).setCell ⟨gb235, 2, none⟩ (.int .i64 t234)) w.heap.size (fun _ => True) (.slice Ao21 t225.length co21) t225) := ⟨by (with_reducible repeat (first | apply Kd.R_alloc | apply Kd.R_drewN | apply Kd.R_drew)); exact Kd.R_mono (Kd.R_far (p := ⟨gb235, 2, none⟩) (Kd.R_far (p := ⟨gb235, 1, none⟩) (Kd.R_far (p := ⟨gb235, 0, none⟩) (Kd.R_types HO_230001.out BK235.out (by decide)) (fun _ hk => hk.2) (.int .i64 1)) (fun _ hk => hk.2) (.slice none 0 0)) (fun _ hk => hk.2) (.int .i64 t234)) (fun _ hk => trivial)⟩
     have n1_ : Aside0 ((((w99.setCell ⟨gb235, 0, none⟩ (.int .i64 1)).setCell ⟨gb235, 1, none⟩ (.slice none 0 0)).setCell ⟨gb235, 2, none⟩ (.int .i64 t234)).heap[gb220]? = some (.cells #[.int .i64 a0_0, .int .i64 a0_1, .int .i64 a0_2, .int .i64 a0_3, .int .i64 a0_4, .int .i64 a0_5, .int .i64 a0_6, .int .i64 a0_7, .int .i64 a0_8, .int .i64 a0_9, .int .i64 a0_10, .int .i64 a0_11, .int .i64 a0_12, .int .i64 a0_13] 31 (0, 0))) := ⟨by refine bl_ ?_; refine blk_far ?_ NB220_235.out _; refine bl_ ?_; refine blk_far ?_ NB220_235.out _; refine bl_ ?_; refine blk_far ?_ NB220_235.out _; refine bl_ ?_; exact BK220.out⟩
     have n2_ : Aside0 ((((w99.setCell ⟨gb235, 0, none⟩ (.int .i64 1)).setCell ⟨gb235, 1, none⟩ (.slice none 0 0)).setCell ⟨gb235, 2, none⟩ (.int .i64 t234)).heap[gb221]? = some (.cells #[.int .i64 a1_0, .slice A1_1 l1_1.length c1_1, .int .i64 a1_2] 28 (0, 0))) := ⟨by refine bl_ ?_; refine blk_far ?_ NB221_235.out _; refine bl_ ?_; refine blk_far ?_ NB221_235.out _; refine bl_ ?_; refine blk_far ?_ NB221_235.out _; refine bl_ ?_; exact BK221.out⟩
     have n3_ : Aside0 ((((w99.setCell ⟨gb235, 0, none⟩ (.int .i64 1)).setCell ⟨gb235, 1, none⟩ (.slice none 0 0)).setCell ⟨gb235, 2, none⟩ (.int .i64 t234)).heap[gb222]? = some (.cells #[.int .i64 a2] 3 (0, 0))) := ⟨by refine bl_ ?_; refine blk_far ?_ NB222_235.out _; refine bl_ ?_; refine blk_far ?_ NB222_235.out _; refine bl_ ?_; refine blk_far ?_ NB222_235.out _; refine bl_ ?_; exact BK222.out⟩
     have n4_ : Aside0 ((((w99.setCell ⟨gb235, 0, none⟩ (.int .i64 1)).setCell ⟨gb235, 1, none⟩ (.slice none 0 0)).setCell ⟨gb235, 2, none⟩ (.int .i64 t234)).heap[gb223]? = some (.cells #[.int .i64 0, .slice none 0 0, .int .i64 0] 28 (0, 0))) := ⟨by refine bl_ ?_; refine blk_far ?_ NB223_235.out _; refine bl_ ?_; refine blk_far ?_ NB223_235.out _; refine bl_ ?_; refine blk_far ?_ NB223_235.out _; refine bl_ ?_; exact BK223.out⟩
     have n5_ : Aside0 ((((w99.setCell ⟨gb235, 0, none⟩ (.int .i64 1)).setCell ⟨gb235, 1, none⟩ (.slice none 0 0)).setCell ⟨gb235, 2, none⟩ (.int .i64 t234)).heap[gb229]? = some (.cells #[.int .i64 t224, .slice Ao21 t225.length co21, .int .i64 t228] 28 (0, 0))) := ⟨by refine bl_ ?_; refine blk_far ?_ NB229_235.out _; refine bl_ ?_; refine blk_far ?_ NB229_235.out _; refine bl_ ?_; refine blk_far ?_ NB229_235.out _; refine bl_ ?_; exact BK229.out⟩
     have n6_ : Aside0 ((((w99.setCell ⟨gb235, 0, none⟩ (.int .i64 1)).setCell ⟨gb235, 1, none⟩ (.slice none 0 0)).setCell ⟨gb235, 2, none⟩ (.int .i64 t234)).heap[gb235]? = some (.cells #[.int .i64 1, .slice none 0 0, .int .i64 t234] 28 (0, 0))) := ⟨by refine bl_ ?_; refine blk_put (cs := #[.int .i64 1, .slice none 0 0, .int .i64 0]) ?_ 2 _ rfl; refine bl_ ?_; refine blk_put (cs := #[.int .i64 1, .slice none 0 0, .int .i64 0]) ?_ 1 _ rfl; refine bl_ ?_; refine blk_put (cs := #[.int .i64 0, .slice none 0 0, .int .i64 0]) ?_ 0 _ rfl; refine bl_ ?_; exact BK235.out⟩
     have n7_ : Aside0 (Below w.heap.size w (((w99.setCell ⟨gb235, 0, none⟩ (.int .i64 1)).setCell ⟨gb235, 1, none⟩ (.slice none 0 0)).setCell ⟨gb235, 2, none⟩ (.int .i64 t234))) := ⟨be_ HB.out⟩
     (try clear HO_230001)
     (try clear BK220)
     (try clear BK221)
     (try clear BK222)
     (try clear BK223)
     (try clear BK229)
     (try clear BK235)
     (try clear HB)
     generalize (((w99.setCell ⟨gb235, 0, none⟩ (.int .i64 1)).setCell ⟨gb235, 1, none⟩ (.slice none 0 0)).setCell ⟨gb235, 2, none⟩ (.int .i64 t234)) = w111 at n0_ n1_ n2_ n3_ n4_ n5_ n6_ n7_ ⊢
     have HO_230001 := n0_
     have BK220 := n1_
     have BK221 := n2_
     have BK222 := n3_
     have BK223 := n4_
     have BK229 := n5_
     have BK235 := n6_
     have HB := n7_
     clear n0_ n1_ n2_ n3_ n4_ n5_ n6_ n7_
     have n0_ := Aside0.mk (Kd.R_drew HO_230001.out)
     have n1_ := Aside0.mk (blk_drew BK220.out)
     have n2_ := Aside0.mk (blk_drew BK221.out)
     have n3_ := Aside0.mk (blk_drew BK222.out)
     have n4_ := Aside0.mk (blk_drew BK223.out)
     have n5_ := Aside0.mk (blk_drew BK229.out)
     have n6_ := Aside0.mk (blk_drew BK235.out)
     have n7_ := Aside0.mk (below_drew1 HB.out)
     clear HO_230001 BK220 BK221 BK222 BK223 BK229 BK235 HB
     have HO_230001 := n0_
     have BK220 := n1_
     have BK221 := n2_
     have BK222 := n3_
     have BK223 := n4_
     have BK229 := n5_
     have BK235 := n6_
     have HB := n7_
     clear n0_ n1_ n2_ n3_ n4_ n5_ n6_ n7_
     refine start_ (n := 9) (S := fun w' => w'.cell? ⟨gb229, 0, none⟩ = some (.int .i64 t224) ∧ w'.cell? ⟨gb229, 1, none⟩ = some (.slice Ao21 t225.length co21) ∧ w'.cell? ⟨gb229, 2, none⟩ = some (.int .i64 t228) ∧ w'.cell? ⟨gb222, 0, none⟩ = some (.int .i64 a2)) (ds := [8]) #[false, false, false, false, false, false, false, false, false] (by kernel_rfl) rfl rfl (ck3_ BK229.out (ce1_ BK222.out)) (fun hHeld => ?_); refine with_tabW impl_OnFailure.tab9 impl_OnFailure.bits9 (fun HT_ HW_ => ?_)
     generalize w111.drew = w112 at HO_230001 BK220 BK221 BK222 BK223 BK229 BK235 HB hHeld ⊢
     refine pure_ (i := 0) (N := some 56) (v := ?_) (a' := ?_) #[true, false, false, false, false, false, false, false, false] rfl rfl (any_of HT_.out (by kernel_rfl)) (fun _ _ _ h => h) (Or.inl ⟨by rfl, ?_⟩) ?_ ?_
     rotate_left
     ·
      intro w'
      go_simp
      with_reducible rfl
     rotate_left
     ·
      simp only [Act.put, List.setIfInBounds_toArray, List.set_cons_zero, List.set_cons_succ, i64_w, i32_w]
      rfl
     refine pure_ (i := 2) (N := some 58) (v := ?_) (a' := ?_) #[true, false, true, false, false, false, false, false, false] rfl rfl (any_of HT_.out (by kernel_rfl)) (fun _ _ _ h => h) (Or.inl ⟨by rfl, ?_⟩) ?_ ?_
     rotate_left
     ·
      intro w'
      go_simp
      with_reducible rfl
     rotate_left
     ·
      simp only [Act.put, List.setIfInBounds_toArray, List.set_cons_zero, List.set_cons_succ, i64_w, i32_w]
      rfl
     refine take_ (i := 1) (N := some 57) (v := ?_) (a' := ?_) #[true, true, true, false, false, false, false, false, false] rfl rfl (take_ofW HT_.out HW_.out (by kernel_rfl)) (fun _ _ _ h => h) (Or.inl ⟨by rfl, ?_⟩) hHeld ?_ ?_
     rotate_left
     ·
      rintro w' ⟨s0, s1, s2, s3⟩
      go_simp
      with_reducible rfl
     rotate_left
     ·
      simp only [Act.put, List.setIfInBounds_toArray, List.set_cons_zero, List.set_cons_succ, i64_w, i32_w]
      rfl
     refine take_ (i := 4) (N := some 60) (v := ?_) (a' := ?_) #[true, true, true, false, true, false, false, false, false] rfl rfl (take_ofW HT_.out HW_.out (by kernel_rfl)) (fun _ _ _ h => h) (Or.inl ⟨by rfl, ?_⟩) hHeld ?_ ?_
     rotate_left
     ·
      rintro w' ⟨s0, s1, s2, s3⟩
      go_simp
      with_reducible rfl
     rotate_left
     ·
      simp only [Act.put, List.setIfInBounds_toArray, List.set_cons_zero, List.set_cons_succ, i64_w, i32_w]
      rfl
     refine join_ (σ := Value × Value) 3 #[true, true, true, true, true, true, false, false, false] (fun s_ => [(59, s_.1), (61, s_.2)]) (fun s_ w' => (w'.cell? ⟨gb229, 0, none⟩ = some (.int .i64 t224) ∧ w'.cell? ⟨gb229, 1, none⟩ = some (.slice Ao21 t225.length co21) ∧ w'.cell? ⟨gb229, 2, none⟩ = some (.int .i64 t228) ∧ w'.cell? ⟨gb222, 0, none⟩ = some (.int .i64 a2)) ∧ (Kd.R (Kd.int .i64) 3 w' w.heap.size (fun k_ => some k_ ≠ (s_.2 : Value).ownBlock ∧ k_ ≠ gb222) s_.1 t236) ∧ (Kd.R (Kd.int .i64) 3 w' w.heap.size (fun k_ => some k_ ≠ (s_.1 : Value).ownBlock ∧ k_ ≠ gb222) s_.2 y239) ∧ (Kd.R (Kd.int .i64) 3 w' w.heap.size (fun k_ => some k_ ≠ (s_.1 : Value).ownBlock ∧ some k_ ≠ (s_.2 : Value).ownBlock) (.slice none 0 0) ([] : List Int)) ∧ (w'.heap[gb220]? = some (.cells #[.int .i64 a0_0, .int .i64 a0_1, .int .i64 a0_2, .int .i64 a0_3, .int .i64 a0_4, .int .i64 a0_5, .int .i64 a0_6, .int .i64 a0_7, .int .i64 a0_8, .int .i64 a0_9, .int .i64 a0_10, .int .i64 a0_11, .int .i64 a0_12, .int .i64 a0_13] 31 (0, 0))) ∧ (w'.heap[gb221]? = some (.cells #[.int .i64 a1_0, .slice A1_1 l1_1.length c1_1, .int .i64 a1_2] 28 (0, 0))) ∧ (w'.heap[gb222]? = some (.cells #[.int .i64 a2] 3 (0, 0))) ∧ (w'.heap[gb223]? = some (.cells #[.int .i64 0, .slice none 0 0, .int .i64 0] 28 (0, 0))) ∧ (w'.heap[gb229]? = some (.cells #[.int .i64 t224, .slice Ao21 t225.length co21, .int .i64 t228] 28 (0, 0))) ∧ (w'.heap[gb235]? = some (.cells #[.int .i64 1, .slice none 0 0, .int .i64 t234] 28 (0, 0))) ∧ (Below w.heap.size w w')) ?_ ?_
     rotate_left
     ·
      intro hCont
      refine two_ (i := 3) (j := 5) (Ni := some 59) (Nj := some 61) #[true, true, true, true, true, false, false, false, false] #[true, true, true, false, true, true, false, false, false] rfl rfl rfl rfl (two_of HT_.out (by kernel_rfl)) (by decide) (by decide) (fun K hK => ?_) (fun K hK => ?_)
      ·
       skip
       refine goes_ Try.func24 (by kernel_rfl) rfl #[.slice Ao21 t225.length co21, .func (.func 25) #[] #[.pointer (some ⟨gb222, 0, none⟩), .pointer (some ⟨gb220, 0, none⟩)]] (by rfl) rfl rfl gm_ ?_
       refine (slices_DeleteFunc_int_int.calls kj4 gb222 gb220 _ _ t225 a2 a0_10 t236 w _ _ HO_230001.out ((blk_cell BK222.out 0).trans rfl) ((blk_cell BK220.out 10).trans rfl) NEn.out (Kd.R_ne HO_230001.out BK220.out (by decide)) HB.out A86.out).mono ?_
       rintro e w113 ⟨v237, rfl, ho0, hb, hg, hat⟩
       refine ⟨_, rfl, ?_⟩
       have n0_ := Aside0.mk (Kd.R_nil (Kd.int .i64) 3 w113 w.heap.size (fun k_ => True ∧ some k_ ≠ v237.ownBlock))
       have n1_ := Aside0.mk (Kd.R_reok (ok := fun k_ => True ∧ k_ ≠ gb222) rfl ho0 (fun k hk => ⟨trivial, fun e => NEn.out (by rw [← hat, hk, e])⟩))
       have n2_ := Aside0.mk (blk_grown BK220.out hg (Kd.R_ne HO_230001.out BK220.out (by decide)))
       have n3_ := Aside0.mk (blk_grown BK221.out hg (Kd.R_ne HO_230001.out BK221.out (by decide)))
       have n4_ := Aside0.mk (blk_grown BK222.out hg NEn.out)
       have n5_ := Aside0.mk (blk_grown BK223.out hg (Kd.R_ne HO_230001.out BK223.out (by decide)))
       have n6_ := Aside0.mk (blk_grown BK229.out hg (Kd.R_ne HO_230001.out BK229.out (by decide)))
       have n7_ := Aside0.mk (blk_grown BK235.out hg (Kd.R_ne HO_230001.out BK235.out (by decide)))
       have n8_ := Aside0.mk hb
       clear HO_230001 BK220 BK221 BK222 BK223 BK229 BK235 HB
       have HO_230001 := n0_
       have HO238 := n1_
       have BK220 := n2_
       have BK221 := n3_
       have BK222 := n4_
       have BK223 := n5_
       have BK229 := n6_
       have BK235 := n7_
       have HB := n8_
       clear n0_ n1_ n2_ n3_ n4_ n5_ n6_ n7_ n8_
       (try clear hb)
       (try clear hb2)
       (try clear hk)
       (try clear hi)
       (try clear ho0)
       refine hK.out _ _ (ck3_ BK229.out (ce1_ BK222.out)) (fun hHeld => ?_)
       clear hK K
       refine norm_ (a' := ?_) ?_ ?_
       rotate_left
       ·
        show Act.put _ (some 59) _ = _
        simp only [Act.put, List.setIfInBounds_toArray, List.set_cons_zero, List.set_cons_succ, i64_w, i32_w]
        rfl
       refine one_ (i := 5) (N := some 61) #[true, true, true, true, true, true, false, false, false] rfl rfl (one_of HT_.out (by kernel_rfl)) (by decide) (fun K hK => ?_)
       refine Kd.R_lit_step (Kd.int .i64) _ 3 ?hg (N := 61) ?hd (xs := ([a2] : List Int)) (inner := [.int .i64 a2]) (ok := fun _ => True) (okp := fun _ => True) ?hr ?hp (fun _ hk => hk) trivial (Below.refl _ _) (Nat.le_refl _) (by simp) ?_; (case hd => rfl); (case hg => rfl); (case hr => first | (go_simp; done) | (go_simp; rfl)); (case hp => exact (Reps.one (show Kd.M (Kd.int .i64) _ _ _ a2 [.int .i64 a2] from rfl) (Reps.none _ _)))
       intro v240 w114 ho115 hb hg_ hnew_
       clear hg_ hnew_
       (first | rw [← Ny239.out] at ho115 | (simp only [Int.reduceToNat] at ho115; rw [← Ny239.out] at ho115))
       have n0_ := Aside0.mk (Kd.R_elder' (ro_ HO_230001.out) (Kd.R_base ho115) hb)
       have n1_ := Aside0.mk (Kd.R_elder' (ro_ HO238.out) (Kd.R_base ho115) hb)
       have n2_ := Aside0.mk (Kd.R_lower (Kd.R_new' (Kd.R_newB ho115 BK222.out) (Kd.R_lt (ro_ HO238.out))) (below_size (be_ HB.out)))
       have n3_ := Aside0.mk (blk_below (bl_ BK220.out) hb)
       have n4_ := Aside0.mk (blk_below (bl_ BK221.out) hb)
       have n5_ := Aside0.mk (blk_below (bl_ BK222.out) hb)
       have n6_ := Aside0.mk (blk_below (bl_ BK223.out) hb)
       have n7_ := Aside0.mk (blk_below (bl_ BK229.out) hb)
       have n8_ := Aside0.mk (blk_below (bl_ BK235.out) hb)
       have n9_ := Aside0.mk (below_step (be_ HB.out) hb)
       clear HO_230001 HO238 BK220 BK221 BK222 BK223 BK229 BK235 HB
       have HO_230001 := n0_
       have HO238 := n1_
       have HO241 := n2_
       have BK220 := n3_
       have BK221 := n4_
       have BK222 := n5_
       have BK223 := n6_
       have BK229 := n7_
       have BK235 := n8_
       have HB := n9_
       clear n0_ n1_ n2_ n3_ n4_ n5_ n6_ n7_ n8_ n9_
       clear hb ho115
       refine hK.out _ _ (ck3_ BK229.out (ce1_ BK222.out)) (fun hHeld => ?_)
       clear hK K
       refine norm_ (a' := ?_) ?_ ?_
       rotate_left
       ·
        show Act.put _ (some 61) _ = _
        simp only [Act.put, List.setIfInBounds_toArray, List.set_cons_zero, List.set_cons_succ, i64_w, i32_w]
        rfl
       exact norm_ (by simp only [putAll, Act.put, List.setIfInBounds_toArray, List.set_cons_zero, List.set_cons_succ]) (hCont (v237, v240) _ ⟨hHeld, (by (with_reducible repeat (first | apply Kd.R_alloc | apply Kd.R_drewN | apply Kd.R_drew)); exact Kd.R_mono HO238.out (fun _ hk => ⟨hk.2, hk.1.2⟩)), (by (with_reducible repeat (first | apply Kd.R_alloc | apply Kd.R_drewN | apply Kd.R_drew)); exact Kd.R_mono HO241.out (fun _ hk => ⟨hk.2, hk.1.2⟩)), (by (with_reducible repeat (first | apply Kd.R_alloc | apply Kd.R_drewN | apply Kd.R_drew)); exact Kd.R_mono HO_230001.out (fun _ hk => ⟨hk.1.2, hk.2⟩)), (bl_ BK220.out), (bl_ BK221.out), (bl_ BK222.out), (bl_ BK223.out), (bl_ BK229.out), (bl_ BK235.out), (be_ HB.out)⟩)
      skip
      refine Kd.R_lit_step (Kd.int .i64) _ 3 ?hg (N := 61) ?hd (xs := ([a2] : List Int)) (inner := [.int .i64 a2]) (ok := fun _ => True) (okp := fun _ => True) ?hr ?hp (fun _ hk => hk) trivial (Below.refl _ _) (Nat.le_refl _) (by simp) ?_; (case hd => rfl); (case hg => rfl); (case hr => first | (go_simp; done) | (go_simp; rfl)); (case hp => exact (Reps.one (show Kd.M (Kd.int .i64) _ _ _ a2 [.int .i64 a2] from rfl) (Reps.none _ _)))
      intro v240 w113 ho114 hb hg_ hnew_
      clear hg_ hnew_
      (first | rw [← Ny239.out] at ho114 | (simp only [Int.reduceToNat] at ho114; rw [← Ny239.out] at ho114))
      have n0_ := Aside0.mk (Kd.R_elder' (ro_ HO_230001.out) (Kd.R_base ho114) hb)
      have NLn := Aside0.mk (show some gb222 ≠ Value.ownBlock v240 from fun e_ => by have q1_ := Kd.R_base ho114 gb222 e_.symm; have q2_ := blk_lt BK222.out; omega)
      have n1_ := Aside0.mk (Kd.R_lower (Kd.R_new' ho114 (Kd.R_lt (ro_ HO_230001.out))) (below_size (be_ HB.out)))
      have n2_ := Aside0.mk (blk_below (bl_ BK220.out) hb)
      have n3_ := Aside0.mk (blk_below (bl_ BK221.out) hb)
      have n4_ := Aside0.mk (blk_below (bl_ BK222.out) hb)
      have n5_ := Aside0.mk (blk_below (bl_ BK223.out) hb)
      have n6_ := Aside0.mk (blk_below (bl_ BK229.out) hb)
      have n7_ := Aside0.mk (blk_below (bl_ BK235.out) hb)
      have n8_ := Aside0.mk (below_step (be_ HB.out) hb)
      clear HO_230001 BK220 BK221 BK222 BK223 BK229 BK235 HB
      have HO_230001 := n0_
      have HO241 := n1_
      have BK220 := n2_
      have BK221 := n3_
      have BK222 := n4_
      have BK223 := n5_
      have BK229 := n6_
      have BK235 := n7_
      have HB := n8_
      clear n0_ n1_ n2_ n3_ n4_ n5_ n6_ n7_ n8_
      clear hb ho114
      refine hK.out _ _ (ck3_ BK229.out (ce1_ BK222.out)) (fun hHeld => ?_)
      clear hK K
      refine norm_ (a' := ?_) ?_ ?_
      rotate_left
      ·
       show Act.put _ (some 61) _ = _
       simp only [Act.put, List.setIfInBounds_toArray, List.set_cons_zero, List.set_cons_succ, i64_w, i32_w]
       rfl
      refine one_ (i := 3) (N := some 59) #[true, true, true, true, true, true, false, false, false] rfl rfl (one_of HT_.out (by kernel_rfl)) (by decide) (fun K hK => ?_)
      refine goes_ Try.func24 (by kernel_rfl) rfl #[.slice Ao21 t225.length co21, .func (.func 25) #[] #[.pointer (some ⟨gb222, 0, none⟩), .pointer (some ⟨gb220, 0, none⟩)]] (by rfl) rfl rfl gm_ ?_
      refine (slices_DeleteFunc_int_int.calls kj4 gb222 gb220 _ _ t225 a2 a0_10 t236 w _ _ HO_230001.out ((blk_cell BK222.out 0).trans rfl) ((blk_cell BK220.out 10).trans rfl) NEn.out (Kd.R_ne HO_230001.out BK220.out (by decide)) HB.out A86.out).mono ?_
      rintro e w115 ⟨v237, rfl, ho0, hb, hg, hat⟩
      refine ⟨_, rfl, ?_⟩
      have n0_ := Aside0.mk (Kd.R_nil (Kd.int .i64) 3 w115 w.heap.size (fun k_ => (True ∧ some k_ ≠ v240.ownBlock) ∧ some k_ ≠ v237.ownBlock))
      have n1_ := Aside0.mk (Kd.R_reok (ok := fun k_ => (True ∧ k_ ≠ gb222) ∧ some k_ ≠ v237.ownBlock) rfl (Kd.R_grown HO241.out hg (fun _ ho => ho.2)) (fun k hk => ⟨⟨trivial, fun e => NLn.out (by rw [hk, e])⟩, by rw [hat]; exact (HO241.out.1 k hk).2⟩))
      have n2_ := Aside0.mk (Kd.R_reok (ok := fun k_ => (True ∧ k_ ≠ gb222) ∧ some k_ ≠ v240.ownBlock) rfl ho0 (fun k hk => ⟨⟨trivial, fun e => NEn.out (by rw [← hat, hk, e])⟩, (ho0.1 k hk).2⟩))
      have n3_ := Aside0.mk (blk_grown BK220.out hg (Kd.R_ne HO_230001.out BK220.out (by decide)))
      have n4_ := Aside0.mk (blk_grown BK221.out hg (Kd.R_ne HO_230001.out BK221.out (by decide)))
      have n5_ := Aside0.mk (blk_grown BK222.out hg NEn.out)
      have n6_ := Aside0.mk (blk_grown BK223.out hg (Kd.R_ne HO_230001.out BK223.out (by decide)))
      have n7_ := Aside0.mk (blk_grown BK229.out hg (Kd.R_ne HO_230001.out BK229.out (by decide)))
      have n8_ := Aside0.mk (blk_grown BK235.out hg (Kd.R_ne HO_230001.out BK235.out (by decide)))
      have n9_ := Aside0.mk hb
      clear HO_230001 HO241 BK220 BK221 BK222 BK223 BK229 BK235 HB
      have HO_230001 := n0_
      have HO241 := n1_
      have HO238 := n2_
      have BK220 := n3_
      have BK221 := n4_
      have BK222 := n5_
      have BK223 := n6_
      have BK229 := n7_
      have BK235 := n8_
      have HB := n9_
      clear n0_ n1_ n2_ n3_ n4_ n5_ n6_ n7_ n8_ n9_
      (try clear hb)
      (try clear hb2)
      (try clear hk)
      (try clear hi)
      (try clear ho0)
      refine hK.out _ _ (ck3_ BK229.out (ce1_ BK222.out)) (fun hHeld => ?_)
      clear hK K
      refine norm_ (a' := ?_) ?_ ?_
      rotate_left
      ·
       show Act.put _ (some 59) _ = _
       simp only [Act.put, List.setIfInBounds_toArray, List.set_cons_zero, List.set_cons_succ, i64_w, i32_w]
       rfl
      exact norm_ (by simp only [putAll, Act.put, List.setIfInBounds_toArray, List.set_cons_zero, List.set_cons_succ]) (hCont (v237, v240) _ ⟨hHeld, (by (with_reducible repeat (first | apply Kd.R_alloc | apply Kd.R_drewN | apply Kd.R_drew)); exact Kd.R_mono HO238.out (fun _ hk => ⟨hk.2, hk.1.2⟩)), (by (with_reducible repeat (first | apply Kd.R_alloc | apply Kd.R_drewN | apply Kd.R_drew)); exact Kd.R_mono HO241.out (fun _ hk => ⟨hk.2, hk.1.2⟩)), (by (with_reducible repeat (first | apply Kd.R_alloc | apply Kd.R_drewN | apply Kd.R_drew)); exact Kd.R_mono HO_230001.out (fun _ hk => ⟨hk.2, hk.1.2⟩)), (bl_ BK220.out), (bl_ BK221.out), (bl_ BK222.out), (bl_ BK223.out), (bl_ BK229.out), (bl_ BK235.out), (be_ HB.out)⟩)
     rintro ⟨v237, v240⟩ w116 ⟨hS_, h0_, h1_, h2_, h3_, h4_, h5_, h6_, h7_, h8_, h9_⟩
     have n0_ : Aside0 (Kd.R (Kd.int .i64) 3 w116 w.heap.size (fun k_ => some k_ ≠ (v240 : Value).ownBlock ∧ k_ ≠ gb222) v237 t236) := ⟨h0_⟩
     have n1_ : Aside0 (Kd.R (Kd.int .i64) 3 w116 w.heap.size (fun k_ => some k_ ≠ (v237 : Value).ownBlock ∧ k_ ≠ gb222) v240 y239) := ⟨h1_⟩
     have n2_ : Aside0 (Kd.R (Kd.int .i64) 3 w116 w.heap.size (fun k_ => some k_ ≠ (v237 : Value).ownBlock ∧ some k_ ≠ (v240 : Value).ownBlock) (.slice none 0 0) ([] : List Int)) := ⟨h2_⟩
     have n3_ : Aside0 (w116.heap[gb220]? = some (.cells #[.int .i64 a0_0, .int .i64 a0_1, .int .i64 a0_2, .int .i64 a0_3, .int .i64 a0_4, .int .i64 a0_5, .int .i64 a0_6, .int .i64 a0_7, .int .i64 a0_8, .int .i64 a0_9, .int .i64 a0_10, .int .i64 a0_11, .int .i64 a0_12, .int .i64 a0_13] 31 (0, 0))) := ⟨h3_⟩
     have n4_ : Aside0 (w116.heap[gb221]? = some (.cells #[.int .i64 a1_0, .slice A1_1 l1_1.length c1_1, .int .i64 a1_2] 28 (0, 0))) := ⟨h4_⟩
     have n5_ : Aside0 (w116.heap[gb222]? = some (.cells #[.int .i64 a2] 3 (0, 0))) := ⟨h5_⟩
     have n6_ : Aside0 (w116.heap[gb223]? = some (.cells #[.int .i64 0, .slice none 0 0, .int .i64 0] 28 (0, 0))) := ⟨h6_⟩
     have n7_ : Aside0 (w116.heap[gb229]? = some (.cells #[.int .i64 t224, .slice Ao21 t225.length co21, .int .i64 t228] 28 (0, 0))) := ⟨h7_⟩
     have n8_ : Aside0 (w116.heap[gb235]? = some (.cells #[.int .i64 1, .slice none 0 0, .int .i64 t234] 28 (0, 0))) := ⟨h8_⟩
     have n9_ : Aside0 (Below w.heap.size w w116) := ⟨h9_⟩
     clear HO_230001 BK220 BK221 BK222 BK223 BK229 BK235 HB
     clear h0_ h1_ h2_ h3_ h4_ h5_ h6_ h7_ h8_ h9_
     have HO238 := n0_
     have HO241 := n1_
     have HO_230001 := n2_
     have BK220 := n3_
     have BK221 := n4_
     have BK222 := n5_
     have BK223 := n6_
     have BK229 := n7_
     have BK235 := n8_
     have HB := n9_
     clear n0_ n1_ n2_ n3_ n4_ n5_ n6_ n7_ n8_ n9_
     have hHeld : w116.cell? ⟨gb229, 0, none⟩ = some (.int .i64 t224) ∧ w116.cell? ⟨gb229, 1, none⟩ = some (.slice Ao21 t225.length co21) ∧ w116.cell? ⟨gb229, 2, none⟩ = some (.int .i64 t228) ∧ w116.cell? ⟨gb222, 0, none⟩ = some (.int .i64 a2) := hS_
     obtain ⟨Ao118, co118, eo118⟩ := Kd.R_slice HO241.out
     (first | subst eo118 | (injection eo118 with f1_ f2_ f3_; have f4_ := f1_.symm; have f5_ := f3_.symm; clear f1_ f2_ f3_; subst f4_; subst f5_))
     refine norm_ (a' := ?_) ?_ ?_
     rotate_left
     ·
      simp only [putAll, Act.put, List.setIfInBounds_toArray, List.set_cons_zero, List.set_cons_succ]
      rfl
     refine one_ (i := 6) (N := some 62) #[true, true, true, true, true, true, true, false, false] rfl rfl (one_of HT_.out (by kernel_rfl)) (by decide) (fun K hK => ?_)
     refine Kd.R_append_rows_step (Kd.int .i64) (w0 := w) w.heap.size (by rfl) (.tmp 59) (.tmp 61) 24 3 (.int .i64 0) 8 rfl Try.underlying24 info3 rfl (by decide) (by omega) v237 t236 y239 _ _ _ (fun k_ => k_ ≠ gb222 ∧ some k_ ≠ (.slice Ao118 y239.length co118 : Value).ownBlock) (fun _ => False) rfl rfl ?aO ?aR (fun _ _ h => h) (fun _ h => h.elim) ?aF ?aB ?aS ?aL ?_
     (case aR => repeat (first | exact (Kd.R_reads' HO241.out).2.2 | (with_reducible refine Kd.C_alloc ?_ _) | (with_reducible refine Kd.C_drewN ?_ _) | (with_reducible refine Kd.C_drew ?_)))
     (case aB => exact (be_ HB.out))
     (case aF => exact (fun k_ hk => ⟨(fun e_ => by have q_ := blk_lt BK222.out; omega), Kd.fresh' (Kd.R_lt (ro_ HO241.out)) k_ hk⟩))
     (case aO => exact (by (with_reducible repeat (first | apply Kd.R_alloc | apply Kd.R_drewN | apply Kd.R_drew)); exact Kd.R_mono HO238.out (fun _ hk => ⟨hk.2, hk.1⟩)))
     (case aS => exact (below_size (be_ HB.out)))
     (case aL => have := LMc87.out; omega)
     intro v243 w117 ho hb hg hat
     rw [← Ny242.out] at ho
     have n0_ := Aside0.mk (Kd.R_after (ok := (fun k_ => some k_ ≠ (.slice Ao118 y239.length co118 : Value).ownBlock)) (by (with_reducible repeat (first | apply Kd.R_alloc | apply Kd.R_drewN | apply Kd.R_drew)); exact Kd.R_mono HO_230001.out (fun _ hk => ⟨hk.2, hk.1⟩)) hg hat)
     have n1_ := Aside0.mk (blk_grown (g := gb220) (o := .cells #[.int .i64 a0_0, .int .i64 a0_1, .int .i64 a0_2, .int .i64 a0_3, .int .i64 a0_4, .int .i64 a0_5, .int .i64 a0_6, .int .i64 a0_7, .int .i64 a0_8, .int .i64 a0_9, .int .i64 a0_10, .int .i64 a0_11, .int .i64 a0_12, .int .i64 a0_13] 31 (0, 0)) (bl_ BK220.out) hg (Kd.R_ne HO238.out BK220.out (by decide)))
     have n2_ := Aside0.mk (blk_grown (g := gb221) (o := .cells #[.int .i64 a1_0, .slice A1_1 l1_1.length c1_1, .int .i64 a1_2] 28 (0, 0)) (bl_ BK221.out) hg (Kd.R_ne HO238.out BK221.out (by decide)))
     have n3_ := Aside0.mk (blk_grown (g := gb222) (o := .cells #[.int .i64 a2] 3 (0, 0)) (bl_ BK222.out) hg (Kd.R_away HO238.out (fun _ hk => hk.2)))
     have n4_ := Aside0.mk (blk_grown (g := gb223) (o := .cells #[.int .i64 0, .slice none 0 0, .int .i64 0] 28 (0, 0)) (bl_ BK223.out) hg (Kd.R_ne HO238.out BK223.out (by decide)))
     have n5_ := Aside0.mk (blk_grown (g := gb229) (o := .cells #[.int .i64 t224, .slice Ao21 t225.length co21, .int .i64 t228] 28 (0, 0)) (bl_ BK229.out) hg (Kd.R_ne HO238.out BK229.out (by decide)))
     have n6_ := Aside0.mk (blk_grown (g := gb235) (o := .cells #[.int .i64 1, .slice none 0 0, .int .i64 t234] 28 (0, 0)) (bl_ BK235.out) hg (Kd.R_ne HO238.out BK235.out (by decide)))
     have n7_ := Aside0.mk (Kd.R_after (ok := (fun k_ => k_ ≠ gb222)) (by (with_reducible repeat (first | apply Kd.R_alloc | apply Kd.R_drewN | apply Kd.R_drew)); exact Kd.R_mono HO241.out (fun _ hk => ⟨hk.2, hk.1⟩)) hg hat)
     have n8_ := Aside0.mk (hb)
     have n9_ := Aside0.mk (ho)
     clear HO_230001 BK220 BK221 BK222 BK223 BK229 BK235 HO241 HB HO238
     have HO_230001 := n0_
     have BK220 := n1_
     have BK221 := n2_
     have BK222 := n3_
     have BK223 := n4_
     have BK229 := n5_
     have BK235 := n6_
     have HO241 := n7_
     have HB := n8_
     have HO244 := n9_
     clear n0_ n1_ n2_ n3_ n4_ n5_ n6_ n7_ n8_ n9_
     clear ho hb hg hat
     obtain ⟨Ao119, co119, eo119⟩ := Kd.R_slice HO244.out
     (first | subst eo119 | (injection eo119 with f1_ f2_ f3_; have f4_ := f1_.symm; have f5_ := f3_.symm; clear f1_ f2_ f3_; subst f4_; subst f5_))
     refine hK.out _ _ (ck3_ BK229.out (ce1_ BK222.out)) (fun hHeld => ?_)
     clear hK K
     refine norm_ (a' := ?_) ?_ ?_
     rotate_left
     ·
      show Act.put _ (some 62) _ = _
      simp only [Act.put, List.setIfInBounds_toArray, List.set_cons_zero, List.set_cons_succ, i64_w, i32_w]
      rfl
     refine pure_ (i := 7) (N := some 63) (v := ?_) (a' := ?_) #[true, true, true, true, true, true, true, true, false] rfl rfl (any_of HT_.out (by kernel_rfl)) (fun _ _ _ h => h) (Or.inl ⟨by rfl, ?_⟩) ?_ ?_
     rotate_left
     ·
      intro w'
      go_simp
      with_reducible rfl
     rotate_left
     ·
      simp only [Act.put, List.setIfInBounds_toArray, List.set_cons_zero, List.set_cons_succ, i64_w, i32_w]
      rfl
     refine last_ (i := 8) (N := none) #[true, true, true, true, true, true, true, true, true] rfl rfl (one_of HT_.out (by kernel_rfl)) (by decide) (fun K hK => ?_)
     have hs120 : w117.cell? ⟨gb229, 1, none⟩ = some (.slice Ao21 t225.length co21) := (blk_cell BK229.out 1).trans rfl
     have hfs120 := blk_frozen BK229.out 1
     have hns120_0 := NB220_229.out
     have hns120_1 := NB221_229.out
     have hns120_2 := NB222_229.out
     have hns120_3 := NB223_229.out
     have hns120_5 := NB235_229.out
     have hms120_0 := NB229_220.out
     have hms120_1 := NB229_221.out
     have hms120_2 := NB229_222.out
     have hms120_3 := NB229_223.out
     have hms120_5 := NB229_235.out
     refine skip_ (w1 := ?_) (by rfl) rfl ?_ ?_
     rotate_left
     ·
      go_simp
      rfl
     refine hK.out _ _ ?_
     clear hK K
     refine done_ (done_of HT_.out (by kernel_rfl)) ?_
     by_cases c88 : (y242.length : Int) ≥ a0_11
     ·
      rw [if_pos c88] at H
      have c88b0 : decide (a0_11 ≤ (y242.length : Int)) = true := decide_eq_true c88
      clear c88
      simp only [Option.some.injEq, Prod.mk.injEq] at H
      obtain ⟨rfl, rfl, rfl, rfl⟩ := H
      have hnb121 := NB229_223.out
      have hnc121 := NB223_229.out
      obtain ⟨hcz122_0, hcz122_1, hcz122_2, hfz122_0, hfz122_1, hfz122_2⟩ := cz3_ BK229.out
      obtain ⟨hcz123_0, hcz123_1, hcz123_2, hcz123_3, hcz123_4, hcz123_5, hcz123_6, hcz123_7, hcz123_8, hcz123_9, hcz123_10, hcz123_11, hcz123_12, hcz123_13, hfz123_0, hfz123_1, hfz123_2, hfz123_3, hfz123_4, hfz123_5, hfz123_6, hfz123_7, hfz123_8, hfz123_9, hfz123_10, hfz123_11, hfz123_12, hfz123_13⟩ := cz14_ BK220.out
      obtain ⟨hcz124_0, hcz124_1, hcz124_2, hfz124_0, hfz124_1, hfz124_2⟩ := cz3_ BK235.out
      obtain ⟨hcz125_0, hcz125_1, hcz125_2, hfz125_0, hfz125_1, hfz125_2⟩ := cz3_ BK223.out
      try go_wp2
      refine bodyPost_ret (results_ct rfl _ _ gb223 28 #[.int .i64 1, .slice none 0 0, .int .i64 t234] (0, 0) _ rfl (by refine bl_ ?_; refine blk_put (cs := #[.int .i64 1, .slice none 0 0, .int .i64 0]) ?_ 2 _ rfl; refine bl_ ?_; refine blk_put (cs := #[.int .i64 1, .slice none 0 0, .int .i64 0]) ?_ 1 _ rfl; refine bl_ ?_; refine blk_put (cs := #[.int .i64 0, .slice none 0 0, .int .i64 0]) ?_ 0 _ rfl; refine bl_ ?_; refine blk_far ?_ NB223_229.out _; refine bl_ ?_; exact BK223.out) Try.underlying28 rfl (by kernel_rfl)) rfl ?_
      exact ⟨_, by first | rfl | (simp [errW_none, errW_some] <;> rfl) | (simp [*, errW_none, errW_some] <;> rfl), by first | exact Kd.R_nil _ _ _ _ _ | exact Kd.N_nil _ _ _ _ _ | exact Kd.V_nil _ _ _ _ _ | exact Kd.Q_nil _ _ _ _ _ | exact Kd.S_nil _ _ _ _ _, be_ HB.out⟩
     rw [if_neg c88] at H
     have c88b0 : decide (a0_11 ≤ (y242.length : Int)) = false := decide_eq_false c88
     clear c88
     simp only [Option.some.injEq, Prod.mk.injEq] at H
     obtain ⟨rfl, rfl, rfl, rfl⟩ := H
     have hnb158 := NB229_223.out
     have hnc158 := NB223_229.out
     obtain ⟨hcz159_0, hcz159_1, hcz159_2, hfz159_0, hfz159_1, hfz159_2⟩ := cz3_ BK229.out
     obtain ⟨hcz160_0, hcz160_1, hcz160_2, hcz160_3, hcz160_4, hcz160_5, hcz160_6, hcz160_7, hcz160_8, hcz160_9, hcz160_10, hcz160_11, hcz160_12, hcz160_13, hfz160_0, hfz160_1, hfz160_2, hfz160_3, hfz160_4, hfz160_5, hfz160_6, hfz160_7, hfz160_8, hfz160_9, hfz160_10, hfz160_11, hfz160_12, hfz160_13⟩ := cz14_ BK220.out
     obtain ⟨hcz161_0, hcz161_1, hcz161_2, hfz161_0, hfz161_1, hfz161_2⟩ := cz3_ BK223.out
     try go_wp2
     refine bodyPost_ret (results_ct rfl _ _ gb223 28 #[.int .i64 t224, .slice Ao119 y242.length co119, .int .i64 t228] (0, 0) _ rfl (by refine bl_ ?_; refine blk_put (cs := #[.int .i64 t224, .slice Ao119 y242.length co119, .int .i64 0]) ?_ 2 _ rfl; refine bl_ ?_; refine blk_put (cs := #[.int .i64 t224, .slice none 0 0, .int .i64 0]) ?_ 1 _ rfl; refine bl_ ?_; refine blk_put (cs := #[.int .i64 0, .slice none 0 0, .int .i64 0]) ?_ 0 _ rfl; refine bl_ ?_; refine blk_far ?_ NB223_229.out _; refine bl_ ?_; exact BK223.out) Try.underlying28 rfl (by kernel_rfl)) rfl ?_
     exact ⟨_, by first | rfl | (simp [errW_none, errW_some] <;> rfl) | (simp [*, errW_none, errW_some] <;> rfl), by (with_reducible repeat (first | apply Kd.R_alloc | apply Kd.R_drewN | apply Kd.R_drew)); exact Kd.R_mono (Kd.R_far (p := ⟨gb223, 2, none⟩) (Kd.R_far (p := ⟨gb223, 1, none⟩) (Kd.R_far (p := ⟨gb223, 0, none⟩) (Kd.R_far (p := ⟨gb229, 1, none⟩) (Kd.R_types (Kd.R_types HO244.out BK229.out (by decide)) BK223.out (by decide)) (fun _ hk => hk.1.2) (.slice Ao119 y242.length co119)) (fun _ hk => hk.2) (.int .i64 t224)) (fun _ hk => hk.2) (.slice Ao119 y242.length co119)) (fun _ hk => hk.2) (.int .i64 t228)) (fun _ hk => trivial), be_ HB.out⟩
    rw [if_neg c87] at H
    exact absurd H (by simp)
   rw [if_neg c85] at H
   have c85b0 : (a1_0 == 0) = false := beq_eq_false_iff_ne.mpr c85
   have c85b1 : (a1_0 != 0) = true := bne_iff_ne.mpr c85
   simp only [Option.some.injEq, Prod.mk.injEq] at H
   obtain ⟨rfl, rfl, rfl, rfl⟩ := H
   have hnb162 := NB222_220.out
   have hnc162 := NB220_222.out
   have hnb163 := NB222_221.out
   have hnc163 := NB221_222.out
   have hnb164 := NB222_223.out
   have hnc164 := NB223_222.out
   have hnb165 := NB222_229.out
   have hnc165 := NB229_222.out
   obtain ⟨hcz166_0, hfz166_0⟩ := cz1_ BK222.out
   have hnb167 := NB220_221.out
   have hnc167 := NB221_220.out
   have hnb168 := NB220_223.out
   have hnc168 := NB223_220.out
   have hnb169 := NB220_229.out
   have hnc169 := NB229_220.out
   obtain ⟨hcz170_0, hcz170_1, hcz170_2, hcz170_3, hcz170_4, hcz170_5, hcz170_6, hcz170_7, hcz170_8, hcz170_9, hcz170_10, hcz170_11, hcz170_12, hcz170_13, hfz170_0, hfz170_1, hfz170_2, hfz170_3, hfz170_4, hfz170_5, hfz170_6, hfz170_7, hfz170_8, hfz170_9, hfz170_10, hfz170_11, hfz170_12, hfz170_13⟩ := cz14_ BK220.out
   go_wp2_with (first | ((with_reducible refine gate_callee (f := 23) rfl ?_); refine goesL_ (some 47) rfl rfl Try.func23 (by kernel_rfl) rfl #[.int .i64 a2, .int .i64 a0_12] rfl gm_ ?_; (with_reducible refine (impl_AddTick.calls a2 a0_12 t234 _ A61.out).mono ?_); rintro e w171 ⟨rfl, hb⟩; refine ⟨_, rfl, ?_⟩; have n0_ := Aside0.mk (Kd.R_below (ro_ HO_230001.out) hb); have n1_ := Aside0.mk (blk_below (bl_ BK220.out) hb); have n2_ := Aside0.mk (blk_below (bl_ BK221.out) hb); have n3_ := Aside0.mk (blk_below (bl_ BK222.out) hb); have n4_ := Aside0.mk (blk_below (bl_ BK223.out) hb); have n5_ := Aside0.mk (blk_below (bl_ BK229.out) hb); have n6_ := Aside0.mk (below_step (be_ HB.out) hb); clear HO_230001 BK220 BK221 BK222 BK223 BK229 HB; have HO_230001 := n0_; have BK220 := n1_; have BK221 := n2_; have BK222 := n3_; have BK223 := n4_; have BK229 := n5_; have HB := n6_; clear n0_ n1_ n2_ n3_ n4_ n5_ n6_; (try clear hb); (try clear hb2); (try clear hk); (try clear hi)) | ((with_reducible refine gate_dst (N := 9) rfl ?_); (try (refine gate_guard (by rfl) ?_; dsimp only)); refine box_event ?hg (N := 9) ?hd (cs := #[.int .i64 0, .slice none 0 0, .int .i64 0]) (t := 28) ?hr ?_; (case hd => rfl); (case hg => rfl); (case hr => first | (go_simp; done) | (go_simp; rfl)); intro gb235 hg w172 hbox hb; have n0_ := Aside0.mk (Kd.R_below (ro_ HO_230001.out) hb); have n1_ := Aside0.mk (blk_below (bl_ BK220.out) hb); have n2_ := Aside0.mk (blk_below (bl_ BK221.out) hb); have n3_ := Aside0.mk (blk_below (bl_ BK222.out) hb); have n4_ := Aside0.mk (blk_below (bl_ BK223.out) hb); have n5_ := Aside0.mk (blk_below (bl_ BK229.out) hb); have n6_ := Aside0.mk (below_step (be_ HB.out) hb); have n7_ := Aside0.mk (hbox); have n8_ := Aside0.mk (gs_ hg (be_ HB.out)); have n9_ := Aside0.mk (gs_ hg (be_ HB.out)); have n10_ := Aside0.mk (nl_ hg (bl_ BK220.out)); have n11_ := Aside0.mk (ng_ hg (bl_ BK220.out)); have n12_ := Aside0.mk (nl_ hg (bl_ BK221.out)); have n13_ := Aside0.mk (ng_ hg (bl_ BK221.out)); have n14_ := Aside0.mk (nl_ hg (bl_ BK222.out)); have n15_ := Aside0.mk (ng_ hg (bl_ BK222.out)); have n16_ := Aside0.mk (nl_ hg (bl_ BK223.out)); have n17_ := Aside0.mk (ng_ hg (bl_ BK223.out)); have n18_ := Aside0.mk (nl_ hg (bl_ BK229.out)); have n19_ := Aside0.mk (ng_ hg (bl_ BK229.out)); clear HO_230001 BK220 BK221 BK222 BK223 BK229 HB; have HO_230001 := n0_; have BK220 := n1_; have BK221 := n2_; have BK222 := n3_; have BK223 := n4_; have BK229 := n5_; have HB := n6_; have BK235 := n7_; have GW235 := n8_; have GE235 := n9_; have NB220_235 := n10_; have NB235_220 := n11_; have NB221_235 := n12_; have NB235_221 := n13_; have NB222_235 := n14_; have NB235_222 := n15_; have NB223_235 := n16_; have NB235_223 := n17_; have NB229_235 := n18_; have NB235_229 := n19_; clear n0_ n1_ n2_ n3_ n4_ n5_ n6_ n7_ n8_ n9_ n10_ n11_ n12_ n13_ n14_ n15_ n16_ n17_ n18_ n19_; clear hb hbox hg; have hnb173 := NB235_220.out; have hnc173 := NB220_235.out; have hnb174 := NB235_221.out; have hnc174 := NB221_235.out; have hnb175 := NB235_222.out; have hnc175 := NB222_235.out; have hnb176 := NB235_223.out; have hnc176 := NB223_235.out; have hnb177 := NB235_229.out; have hnc177 := NB229_235.out; obtain ⟨hcz178_0, hcz178_1, hcz178_2, hfz178_0, hfz178_1, hfz178_2⟩ := cz3_ BK235.out; have hnb179 := NB221_223.out; have hnc179 := NB223_221.out; have hnb180 := NB221_229.out; have hnc180 := NB229_221.out; obtain ⟨hcz181_0, hcz181_1, hcz181_2, hfz181_0, hfz181_1, hfz181_2⟩ := cz3_ BK221.out; have hnb182 := NB229_223.out; have hnc182 := NB223_229.out; obtain ⟨hcz183_0, hcz183_1, hcz183_2, hfz183_0, hfz183_1, hfz183_2⟩ := cz3_ BK229.out; obtain ⟨hcz184_0, hcz184_1, hcz184_2, hfz184_0, hfz184_1, hfz184_2⟩ := cz3_ BK223.out))
   refine bodyPost_ret (results_ct rfl _ _ gb223 28 #[.int .i64 t224, .slice Ao21 t225.length co21, .int .i64 t228] (0, 0) _ rfl (by refine bl_ ?_; refine blk_put (cs := #[.int .i64 t224, .slice Ao21 t225.length co21, .int .i64 0]) ?_ 2 _ rfl; refine bl_ ?_; refine blk_put (cs := #[.int .i64 t224, .slice none 0 0, .int .i64 0]) ?_ 1 _ rfl; refine bl_ ?_; refine blk_put (cs := #[.int .i64 0, .slice none 0 0, .int .i64 0]) ?_ 0 _ rfl; refine bl_ ?_; refine blk_far ?_ NB223_235.out _; refine bl_ ?_; refine blk_far ?_ NB223_235.out _; refine bl_ ?_; refine blk_far ?_ NB223_235.out _; refine bl_ ?_; exact BK223.out) Try.underlying28 rfl (by kernel_rfl)) rfl ?_
   exact ⟨_, by first | rfl | (simp [errW_none, errW_some] <;> rfl) | (simp [*, errW_none, errW_some] <;> rfl), by (with_reducible repeat (first | apply Kd.R_alloc | apply Kd.R_drewN | apply Kd.R_drew)); exact Kd.R_mono (Kd.R_far (p := ⟨gb223, 2, none⟩) (Kd.R_far (p := ⟨gb223, 1, none⟩) (Kd.R_far (p := ⟨gb223, 0, none⟩) (Kd.R_far (p := ⟨gb235, 2, none⟩) (Kd.R_far (p := ⟨gb235, 1, none⟩) (Kd.R_far (p := ⟨gb235, 0, none⟩) (Kd.R_types (Kd.R_types HO_230001.out BK235.out (by decide)) BK223.out (by decide)) (fun _ hk => hk.1.2) (.int .i64 1)) (fun _ hk => hk.1.2) (.slice none 0 0)) (fun _ hk => hk.1.2) (.int .i64 t234)) (fun _ hk => hk.2) (.int .i64 t224)) (fun _ hk => hk.2) (.slice Ao21 t225.length co21)) (fun _ hk => hk.2) (.int .i64 t228)) (fun _ hk => trivial), be_ HB.out⟩

end Go.Proofs.Ythafbkpoepblgae.MFnExactOnFailure
