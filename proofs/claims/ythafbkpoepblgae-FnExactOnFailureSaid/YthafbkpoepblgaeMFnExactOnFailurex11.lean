-- Written by a program of this session over the kit's print, with stand-ins for the functions that the print leaves; Lean checks it.
import Derived.Test.YthafbkpoepblgaeMFnExactOnFailurex10
import Derived.Test.YthafbkpoepblgaeMFnExactOnFailurex1
import Derived.Test.YthafbkpoepblgaeMFnExactOnFailurex4
import Derived.Test.YthafbkpoepblgaeMFnExactOnFailurex5
import Derived.Test.YthafbkpoepblgaeMFnExactOnFailurex8
import Derived.Test.YthafbkpoepblgaeMFnExactOnFailurex9
namespace Go.Proofs.Ythafbkpoepblgae.MFnExactOnFailure
open Go.RowKit Go.Proofs.YthafbkpoepblgaeW.PrintWords Go.Proofs.YthafbkpoepblgaeW.PrintLast Go.Proofs.YthafbkpoepblgaeW.PrintMore
attribute [local go_sem] max2_int min2_int max_two min_two max_three min_three max_four min_four   -- for this text's walks alone
set_option linter.unusedVariables false
set_option linter.unusedSimpArgs false

set_option maxHeartbeats 40000000 in
set_option maxRecDepth 100000 in
theorem laws_FnExactOnFailure.calls (k : Nat) (a0_0 : Int) (a0_1 : Int) (a0_2 : Int) (a0_3 : Int) (a0_4 : Int) (a0_5 : Int) (a0_6 : Int) (a0_7 : Int) (a0_8 : Int) (a0_9 : Int) (a0_10 : Int) (a0_11 : Int) (a0_12 : Int) (a0_13 : Int) (a1_0 : Int) (A1_1 : Option Addr) (c1_1 : Nat) (l1_1 : List Int) (a1_2 : Int) (a2 : Int) (r : Bool) (w : World) (hr1_1 : Kd.C (Kd.int .i64) w A1_1 l1_1.length l1_1) (hc1_1 : l1_1.length ≤ c1_1) (h : laws_FnExactOnFailure.f k a0_0 a0_1 a0_2 a0_3 a0_4 a0_5 a0_6 a0_7 a0_8 a0_9 a0_10 a0_11 a0_12 a0_13 a1_0 l1_1 a1_2 a2 = some r) :
 Calls Try.prog 3 #[.agg #[.int .i64 a0_0, .int .i64 a0_1, .int .i64 a0_2, .int .i64 a0_3, .int .i64 a0_4, .int .i64 a0_5, .int .i64 a0_6, .int .i64 a0_7, .int .i64 a0_8, .int .i64 a0_9, .int .i64 a0_10, .int .i64 a0_11, .int .i64 a0_12, .int .i64 a0_13], .agg #[.int .i64 a1_0, .slice A1_1 l1_1.length c1_1, .int .i64 a1_2], .int .i64 a2] w fun e w' => e = .returned (.bool r) ∧ Below w.heap.size w w' := by
 have hu23 := Try.underlying23
 have hu26 := Try.underlying26
 have hu28 := Try.underlying28
 have HR1_1 := Aside0.mk hr1_1
 have HC1_1 := Aside0.mk hc1_1
 clear hr1_1 hc1_1
 have HB := Aside0.mk (Below.refl w.heap.size w)
 have H : ((laws_szBreaker.f a1_0 l1_1 a1_2 1048576).bind fun t259 => (if t259 < 0 then (some true) else ((laws_toConfig.f a0_0 a0_1 a0_2 a0_3 a0_4 a0_5 a0_6 a0_7 a0_8 a0_9 a0_10 a0_11 a0_12 a0_13).bind fun bt260 => ((laws_toBreaker.f k a1_0 l1_1 a1_2).bind fun bt274 => ((spec_OnFailure.f k bt260.1 bt260.2.1 bt260.2.2.1 bt260.2.2.2.1 bt260.2.2.2.2.1 bt260.2.2.2.2.2.1 bt260.2.2.2.2.2.2.1 bt260.2.2.2.2.2.2.2.1 bt260.2.2.2.2.2.2.2.2.1 bt260.2.2.2.2.2.2.2.2.2.1 bt260.2.2.2.2.2.2.2.2.2.2.1 bt260.2.2.2.2.2.2.2.2.2.2.2.1 bt260.2.2.2.2.2.2.2.2.2.2.2.2.1 bt260.2.2.2.2.2.2.2.2.2.2.2.2.2 bt274.1 bt274.2.1 bt274.2.2 a2).bind fun bt279 => ((laws_toBreaker.f k a1_0 l1_1 a1_2).bind fun bt286 => ((laws_toConfig.f a0_0 a0_1 a0_2 a0_3 a0_4 a0_5 a0_6 a0_7 a0_8 a0_9 a0_10 a0_11 a0_12 a0_13).bind fun bt292 => ((impl_OnFailure.f k bt292.1 bt292.2.1 bt292.2.2.1 bt292.2.2.2.1 bt292.2.2.2.2.1 bt292.2.2.2.2.2.1 bt292.2.2.2.2.2.2.1 bt292.2.2.2.2.2.2.2.1 bt292.2.2.2.2.2.2.2.2.1 bt292.2.2.2.2.2.2.2.2.2.1 bt292.2.2.2.2.2.2.2.2.2.2.1 bt292.2.2.2.2.2.2.2.2.2.2.2.1 bt292.2.2.2.2.2.2.2.2.2.2.2.2.1 bt292.2.2.2.2.2.2.2.2.2.2.2.2.2 bt286.1 bt286.2.1 bt286.2.2 a2).bind fun bt306 => ((laws_eqBreaker.f k bt306.1 bt306.2.1 bt306.2.2.1 bt279.1 bt279.2.1 bt279.2.2.1).bind fun t313 => (if t313 = true then (laws_FnExactOnFailure.j0 k a2 bt279.2.2.2 bt306.2.2.2 (bt306.2.2.2 != bt279.2.2.2) a0_0 a0_1 a0_2 a0_3 a0_4 a0_5 a0_6 a0_7 a0_8 a0_9 a0_10 a0_11 a0_12 a0_13 a1_0 l1_1 a1_2 bt279.1 bt279.2.1 bt279.2.2.1 bt286.1 bt286.2.1 bt286.2.2 bt306.1 bt306.2.1 bt306.2.2.1) else (laws_FnExactOnFailure.j0 k a2 bt279.2.2.2 bt306.2.2.2 true a0_0 a0_1 a0_2 a0_3 a0_4 a0_5 a0_6 a0_7 a0_8 a0_9 a0_10 a0_11 a0_12 a0_13 a1_0 l1_1 a1_2 bt279.1 bt279.2.1 bt279.2.2.1 bt286.1 bt286.2.1 bt286.2.2 bt306.1 bt306.2.1 bt306.2.2.1))))))))))) = some r := h
 clear h
 replace H := Option.bind_eq_some_iff.mp H
 obtain ⟨t259, A40, H⟩ := H
 replace H : (if t259 < 0 then (some true) else ((laws_toConfig.f a0_0 a0_1 a0_2 a0_3 a0_4 a0_5 a0_6 a0_7 a0_8 a0_9 a0_10 a0_11 a0_12 a0_13).bind fun bt260 => ((laws_toBreaker.f k a1_0 l1_1 a1_2).bind fun bt274 => ((spec_OnFailure.f k bt260.1 bt260.2.1 bt260.2.2.1 bt260.2.2.2.1 bt260.2.2.2.2.1 bt260.2.2.2.2.2.1 bt260.2.2.2.2.2.2.1 bt260.2.2.2.2.2.2.2.1 bt260.2.2.2.2.2.2.2.2.1 bt260.2.2.2.2.2.2.2.2.2.1 bt260.2.2.2.2.2.2.2.2.2.2.1 bt260.2.2.2.2.2.2.2.2.2.2.2.1 bt260.2.2.2.2.2.2.2.2.2.2.2.2.1 bt260.2.2.2.2.2.2.2.2.2.2.2.2.2 bt274.1 bt274.2.1 bt274.2.2 a2).bind fun bt279 => ((laws_toBreaker.f k a1_0 l1_1 a1_2).bind fun bt286 => ((laws_toConfig.f a0_0 a0_1 a0_2 a0_3 a0_4 a0_5 a0_6 a0_7 a0_8 a0_9 a0_10 a0_11 a0_12 a0_13).bind fun bt292 => ((impl_OnFailure.f k bt292.1 bt292.2.1 bt292.2.2.1 bt292.2.2.2.1 bt292.2.2.2.2.1 bt292.2.2.2.2.2.1 bt292.2.2.2.2.2.2.1 bt292.2.2.2.2.2.2.2.1 bt292.2.2.2.2.2.2.2.2.1 bt292.2.2.2.2.2.2.2.2.2.1 bt292.2.2.2.2.2.2.2.2.2.2.1 bt292.2.2.2.2.2.2.2.2.2.2.2.1 bt292.2.2.2.2.2.2.2.2.2.2.2.2.1 bt292.2.2.2.2.2.2.2.2.2.2.2.2.2 bt286.1 bt286.2.1 bt286.2.2 a2).bind fun bt306 => ((laws_eqBreaker.f k bt306.1 bt306.2.1 bt306.2.2.1 bt279.1 bt279.2.1 bt279.2.2.1).bind fun t313 => (if t313 = true then (laws_FnExactOnFailure.j0 k a2 bt279.2.2.2 bt306.2.2.2 (bt306.2.2.2 != bt279.2.2.2) a0_0 a0_1 a0_2 a0_3 a0_4 a0_5 a0_6 a0_7 a0_8 a0_9 a0_10 a0_11 a0_12 a0_13 a1_0 l1_1 a1_2 bt279.1 bt279.2.1 bt279.2.2.1 bt286.1 bt286.2.1 bt286.2.2 bt306.1 bt306.2.1 bt306.2.2.1) else (laws_FnExactOnFailure.j0 k a2 bt279.2.2.2 bt306.2.2.2 true a0_0 a0_1 a0_2 a0_3 a0_4 a0_5 a0_6 a0_7 a0_8 a0_9 a0_10 a0_11 a0_12 a0_13 a1_0 l1_1 a1_2 bt279.1 bt279.2.1 bt279.2.2.1 bt286.1 bt286.2.1 bt286.2.2 bt306.1 bt306.2.1 bt306.2.2.1)))))))))) = some r := H
 have A4 := Aside0.mk A40
 clear A40
 by_cases c5 : t259 < 0
 ·
  rw [if_pos c5] at H
  have c5b0 : decide (t259 < 0) = true := decide_eq_true c5
  clear c5
  obtain rfl := Option.some.inj H
  go_enter Try.func3, Try.ntmps3
  go_wp2_with (first | ((with_reducible refine gate_dst (N := 3) rfl ?_); refine box_event ?hg (N := 3) ?hd (cs := #[.int .i64 a0_0, .int .i64 a0_1, .int .i64 a0_2, .int .i64 a0_3, .int .i64 a0_4, .int .i64 a0_5, .int .i64 a0_6, .int .i64 a0_7, .int .i64 a0_8, .int .i64 a0_9, .int .i64 a0_10, .int .i64 a0_11, .int .i64 a0_12, .int .i64 a0_13]) (t := 23) ?hr ?_; (case hd => rfl); (case hg => rfl); (case hr => first | (go_simp; done) | (go_simp; rfl)); intro gb257 hg w6 hbox hb; have n0_ := Aside0.mk (below_step (be_ HB.out) hb); have n1_ := Aside0.mk (hbox); have n2_ := Aside0.mk (gs_ hg (be_ HB.out)); have n3_ := Aside0.mk (gs_ hg (be_ HB.out)); clear HB; have HB := n0_; have BK257 := n1_; have GW257 := n2_; have GE257 := n3_; clear n0_ n1_ n2_ n3_; clear hb hbox hg) | ((with_reducible refine gate_dst (N := 4) rfl ?_); refine box_event ?hg (N := 4) ?hd (cs := #[.int .i64 a1_0, .slice A1_1 l1_1.length c1_1, .int .i64 a1_2]) (t := 26) ?hr ?_; (case hd => rfl); (case hg => rfl); (case hr => first | (go_simp; done) | (go_simp; rfl)); intro gb258 hg w7 hbox hb; have n0_ := Aside0.mk (blk_below (bl_ BK257.out) hb); have n1_ := Aside0.mk (below_step (be_ HB.out) hb); have n2_ := Aside0.mk (hbox); have n3_ := Aside0.mk (gs_ hg (be_ HB.out)); have n4_ := Aside0.mk (gs_ hg (be_ HB.out)); have n5_ := Aside0.mk (nl_ hg (bl_ BK257.out)); have n6_ := Aside0.mk (ng_ hg (bl_ BK257.out)); clear BK257 HB; have BK257 := n0_; have HB := n1_; have BK258 := n2_; have GW258 := n3_; have GE258 := n4_; have NB257_258 := n5_; have NB258_257 := n6_; clear n0_ n1_ n2_ n3_ n4_ n5_ n6_; clear hb hbox hg; have hnb8 := NB258_257.out; have hnc8 := NB257_258.out; obtain ⟨hcz9_0, hcz9_1, hcz9_2, hfz9_0, hfz9_1, hfz9_2⟩ := cz3_ BK258.out) | ((with_reducible refine gate_callee (f := 4) rfl ?_); refine goesL_ (some 20) rfl rfl Try.func4 (by kernel_rfl) rfl #[.agg #[.int .i64 a1_0, .slice A1_1 l1_1.length c1_1, .int .i64 a1_2], .int .i64 1048576] rfl gm_ ?_; (with_reducible refine (laws_szBreaker.calls a1_0 _ _ l1_1 a1_2 1048576 t259 _ ?side1 ?side2 A4.out).mono ?_); (case side1 => repeat (first | exact (Kd.C_below HR1_1.out HB.out) | (with_reducible refine Kd.C_alloc ?_ _) | (with_reducible refine Kd.C_drewN ?_ _) | (with_reducible refine Kd.C_drew ?_))); (case side2 => exact HC1_1.out); rintro e w10 ⟨rfl, hb⟩; refine ⟨_, rfl, ?_⟩; have n0_ := Aside0.mk (blk_below (bl_ BK257.out) hb); have n1_ := Aside0.mk (blk_below (bl_ BK258.out) hb); have n2_ := Aside0.mk (below_step (be_ HB.out) hb); clear BK257 BK258 HB; have BK257 := n0_; have BK258 := n1_; have HB := n2_; clear n0_ n1_ n2_; (try clear hb); (try clear hb2); (try clear hk); (try clear hi)))
  go_ret
  exact ⟨by first | rfl | (simp [errW_none, errW_some] <;> rfl) | (simp [*, errW_none, errW_some] <;> rfl), be_ HB.out⟩
 rw [if_neg c5] at H
 have c5b0 : decide (t259 < 0) = false := decide_eq_false c5
 clear c5
 replace H := Option.bind_eq_some_iff.mp H
 obtain ⟨⟨t260, t261, t262, t263, t264, t265, t266, t267, t268, t269, t270, t271, t272, t273⟩, A110, H⟩ := H
 replace H : ((laws_toBreaker.f k a1_0 l1_1 a1_2).bind fun bt274 => ((spec_OnFailure.f k t260 t261 t262 t263 t264 t265 t266 t267 t268 t269 t270 t271 t272 t273 bt274.1 bt274.2.1 bt274.2.2 a2).bind fun bt279 => ((laws_toBreaker.f k a1_0 l1_1 a1_2).bind fun bt286 => ((laws_toConfig.f a0_0 a0_1 a0_2 a0_3 a0_4 a0_5 a0_6 a0_7 a0_8 a0_9 a0_10 a0_11 a0_12 a0_13).bind fun bt292 => ((impl_OnFailure.f k bt292.1 bt292.2.1 bt292.2.2.1 bt292.2.2.2.1 bt292.2.2.2.2.1 bt292.2.2.2.2.2.1 bt292.2.2.2.2.2.2.1 bt292.2.2.2.2.2.2.2.1 bt292.2.2.2.2.2.2.2.2.1 bt292.2.2.2.2.2.2.2.2.2.1 bt292.2.2.2.2.2.2.2.2.2.2.1 bt292.2.2.2.2.2.2.2.2.2.2.2.1 bt292.2.2.2.2.2.2.2.2.2.2.2.2.1 bt292.2.2.2.2.2.2.2.2.2.2.2.2.2 bt286.1 bt286.2.1 bt286.2.2 a2).bind fun bt306 => ((laws_eqBreaker.f k bt306.1 bt306.2.1 bt306.2.2.1 bt279.1 bt279.2.1 bt279.2.2.1).bind fun t313 => (if t313 = true then (laws_FnExactOnFailure.j0 k a2 bt279.2.2.2 bt306.2.2.2 (bt306.2.2.2 != bt279.2.2.2) a0_0 a0_1 a0_2 a0_3 a0_4 a0_5 a0_6 a0_7 a0_8 a0_9 a0_10 a0_11 a0_12 a0_13 a1_0 l1_1 a1_2 bt279.1 bt279.2.1 bt279.2.2.1 bt286.1 bt286.2.1 bt286.2.2 bt306.1 bt306.2.1 bt306.2.2.1) else (laws_FnExactOnFailure.j0 k a2 bt279.2.2.2 bt306.2.2.2 true a0_0 a0_1 a0_2 a0_3 a0_4 a0_5 a0_6 a0_7 a0_8 a0_9 a0_10 a0_11 a0_12 a0_13 a1_0 l1_1 a1_2 bt279.1 bt279.2.1 bt279.2.2.1 bt286.1 bt286.2.1 bt286.2.2 bt306.1 bt306.2.1 bt306.2.2.1)))))))) = some r := H
 have A11 := Aside0.mk A110
 clear A110
 replace H := Option.bind_eq_some_iff.mp H
 obtain ⟨⟨t274, t275, t278⟩, A120, H⟩ := H
 replace H : ((spec_OnFailure.f k t260 t261 t262 t263 t264 t265 t266 t267 t268 t269 t270 t271 t272 t273 t274 t275 t278 a2).bind fun bt279 => ((laws_toBreaker.f k a1_0 l1_1 a1_2).bind fun bt286 => ((laws_toConfig.f a0_0 a0_1 a0_2 a0_3 a0_4 a0_5 a0_6 a0_7 a0_8 a0_9 a0_10 a0_11 a0_12 a0_13).bind fun bt292 => ((impl_OnFailure.f k bt292.1 bt292.2.1 bt292.2.2.1 bt292.2.2.2.1 bt292.2.2.2.2.1 bt292.2.2.2.2.2.1 bt292.2.2.2.2.2.2.1 bt292.2.2.2.2.2.2.2.1 bt292.2.2.2.2.2.2.2.2.1 bt292.2.2.2.2.2.2.2.2.2.1 bt292.2.2.2.2.2.2.2.2.2.2.1 bt292.2.2.2.2.2.2.2.2.2.2.2.1 bt292.2.2.2.2.2.2.2.2.2.2.2.2.1 bt292.2.2.2.2.2.2.2.2.2.2.2.2.2 bt286.1 bt286.2.1 bt286.2.2 a2).bind fun bt306 => ((laws_eqBreaker.f k bt306.1 bt306.2.1 bt306.2.2.1 bt279.1 bt279.2.1 bt279.2.2.1).bind fun t313 => (if t313 = true then (laws_FnExactOnFailure.j0 k a2 bt279.2.2.2 bt306.2.2.2 (bt306.2.2.2 != bt279.2.2.2) a0_0 a0_1 a0_2 a0_3 a0_4 a0_5 a0_6 a0_7 a0_8 a0_9 a0_10 a0_11 a0_12 a0_13 a1_0 l1_1 a1_2 bt279.1 bt279.2.1 bt279.2.2.1 bt286.1 bt286.2.1 bt286.2.2 bt306.1 bt306.2.1 bt306.2.2.1) else (laws_FnExactOnFailure.j0 k a2 bt279.2.2.2 bt306.2.2.2 true a0_0 a0_1 a0_2 a0_3 a0_4 a0_5 a0_6 a0_7 a0_8 a0_9 a0_10 a0_11 a0_12 a0_13 a1_0 l1_1 a1_2 bt279.1 bt279.2.1 bt279.2.2.1 bt286.1 bt286.2.1 bt286.2.2 bt306.1 bt306.2.1 bt306.2.2.1))))))) = some r := H
 have A12 := Aside0.mk A120
 clear A120
 replace H := Option.bind_eq_some_iff.mp H
 obtain ⟨⟨t279, t280, t283, t284⟩, A130, H⟩ := H
 replace H : ((laws_toBreaker.f k a1_0 l1_1 a1_2).bind fun bt286 => ((laws_toConfig.f a0_0 a0_1 a0_2 a0_3 a0_4 a0_5 a0_6 a0_7 a0_8 a0_9 a0_10 a0_11 a0_12 a0_13).bind fun bt292 => ((impl_OnFailure.f k bt292.1 bt292.2.1 bt292.2.2.1 bt292.2.2.2.1 bt292.2.2.2.2.1 bt292.2.2.2.2.2.1 bt292.2.2.2.2.2.2.1 bt292.2.2.2.2.2.2.2.1 bt292.2.2.2.2.2.2.2.2.1 bt292.2.2.2.2.2.2.2.2.2.1 bt292.2.2.2.2.2.2.2.2.2.2.1 bt292.2.2.2.2.2.2.2.2.2.2.2.1 bt292.2.2.2.2.2.2.2.2.2.2.2.2.1 bt292.2.2.2.2.2.2.2.2.2.2.2.2.2 bt286.1 bt286.2.1 bt286.2.2 a2).bind fun bt306 => ((laws_eqBreaker.f k bt306.1 bt306.2.1 bt306.2.2.1 t279 t280 t283).bind fun t313 => (if t313 = true then (laws_FnExactOnFailure.j0 k a2 t284 bt306.2.2.2 (bt306.2.2.2 != t284) a0_0 a0_1 a0_2 a0_3 a0_4 a0_5 a0_6 a0_7 a0_8 a0_9 a0_10 a0_11 a0_12 a0_13 a1_0 l1_1 a1_2 t279 t280 t283 bt286.1 bt286.2.1 bt286.2.2 bt306.1 bt306.2.1 bt306.2.2.1) else (laws_FnExactOnFailure.j0 k a2 t284 bt306.2.2.2 true a0_0 a0_1 a0_2 a0_3 a0_4 a0_5 a0_6 a0_7 a0_8 a0_9 a0_10 a0_11 a0_12 a0_13 a1_0 l1_1 a1_2 t279 t280 t283 bt286.1 bt286.2.1 bt286.2.2 bt306.1 bt306.2.1 bt306.2.2.1)))))) = some r := H
 have A13 := Aside0.mk A130
 clear A130
 replace H := Option.bind_eq_some_iff.mp H
 obtain ⟨⟨t286, t287, t290⟩, A140, H⟩ := H
 replace H : ((laws_toConfig.f a0_0 a0_1 a0_2 a0_3 a0_4 a0_5 a0_6 a0_7 a0_8 a0_9 a0_10 a0_11 a0_12 a0_13).bind fun bt292 => ((impl_OnFailure.f k bt292.1 bt292.2.1 bt292.2.2.1 bt292.2.2.2.1 bt292.2.2.2.2.1 bt292.2.2.2.2.2.1 bt292.2.2.2.2.2.2.1 bt292.2.2.2.2.2.2.2.1 bt292.2.2.2.2.2.2.2.2.1 bt292.2.2.2.2.2.2.2.2.2.1 bt292.2.2.2.2.2.2.2.2.2.2.1 bt292.2.2.2.2.2.2.2.2.2.2.2.1 bt292.2.2.2.2.2.2.2.2.2.2.2.2.1 bt292.2.2.2.2.2.2.2.2.2.2.2.2.2 t286 t287 t290 a2).bind fun bt306 => ((laws_eqBreaker.f k bt306.1 bt306.2.1 bt306.2.2.1 t279 t280 t283).bind fun t313 => (if t313 = true then (laws_FnExactOnFailure.j0 k a2 t284 bt306.2.2.2 (bt306.2.2.2 != t284) a0_0 a0_1 a0_2 a0_3 a0_4 a0_5 a0_6 a0_7 a0_8 a0_9 a0_10 a0_11 a0_12 a0_13 a1_0 l1_1 a1_2 t279 t280 t283 t286 t287 t290 bt306.1 bt306.2.1 bt306.2.2.1) else (laws_FnExactOnFailure.j0 k a2 t284 bt306.2.2.2 true a0_0 a0_1 a0_2 a0_3 a0_4 a0_5 a0_6 a0_7 a0_8 a0_9 a0_10 a0_11 a0_12 a0_13 a1_0 l1_1 a1_2 t279 t280 t283 t286 t287 t290 bt306.1 bt306.2.1 bt306.2.2.1))))) = some r := H
 have A14 := Aside0.mk A140
 clear A140
 replace H := Option.bind_eq_some_iff.mp H
 obtain ⟨⟨t292, t293, t294, t295, t296, t297, t298, t299, t300, t301, t302, t303, t304, t305⟩, A150, H⟩ := H
 replace H : ((impl_OnFailure.f k t292 t293 t294 t295 t296 t297 t298 t299 t300 t301 t302 t303 t304 t305 t286 t287 t290 a2).bind fun bt306 => ((laws_eqBreaker.f k bt306.1 bt306.2.1 bt306.2.2.1 t279 t280 t283).bind fun t313 => (if t313 = true then (laws_FnExactOnFailure.j0 k a2 t284 bt306.2.2.2 (bt306.2.2.2 != t284) a0_0 a0_1 a0_2 a0_3 a0_4 a0_5 a0_6 a0_7 a0_8 a0_9 a0_10 a0_11 a0_12 a0_13 a1_0 l1_1 a1_2 t279 t280 t283 t286 t287 t290 bt306.1 bt306.2.1 bt306.2.2.1) else (laws_FnExactOnFailure.j0 k a2 t284 bt306.2.2.2 true a0_0 a0_1 a0_2 a0_3 a0_4 a0_5 a0_6 a0_7 a0_8 a0_9 a0_10 a0_11 a0_12 a0_13 a1_0 l1_1 a1_2 t279 t280 t283 t286 t287 t290 bt306.1 bt306.2.1 bt306.2.2.1)))) = some r := H
 have A15 := Aside0.mk A150
 clear A150
 replace H := Option.bind_eq_some_iff.mp H
 obtain ⟨⟨t306, t307, t310, t311⟩, A160, H⟩ := H
 replace H : ((laws_eqBreaker.f k t306 t307 t310 t279 t280 t283).bind fun t313 => (if t313 = true then (laws_FnExactOnFailure.j0 k a2 t284 t311 (t311 != t284) a0_0 a0_1 a0_2 a0_3 a0_4 a0_5 a0_6 a0_7 a0_8 a0_9 a0_10 a0_11 a0_12 a0_13 a1_0 l1_1 a1_2 t279 t280 t283 t286 t287 t290 t306 t307 t310) else (laws_FnExactOnFailure.j0 k a2 t284 t311 true a0_0 a0_1 a0_2 a0_3 a0_4 a0_5 a0_6 a0_7 a0_8 a0_9 a0_10 a0_11 a0_12 a0_13 a1_0 l1_1 a1_2 t279 t280 t283 t286 t287 t290 t306 t307 t310))) = some r := H
 have A16 := Aside0.mk A160
 clear A160
 have HC17 := Aside0.mk H
 clear H
 go_enter Try.func3, Try.ntmps3
 try go_wp2_with (first | ((with_reducible refine gate_dst (N := 3) rfl ?_); refine box_event ?hg (N := 3) ?hd (cs := #[.int .i64 a0_0, .int .i64 a0_1, .int .i64 a0_2, .int .i64 a0_3, .int .i64 a0_4, .int .i64 a0_5, .int .i64 a0_6, .int .i64 a0_7, .int .i64 a0_8, .int .i64 a0_9, .int .i64 a0_10, .int .i64 a0_11, .int .i64 a0_12, .int .i64 a0_13]) (t := 23) ?hr ?_; (case hd => rfl); (case hg => rfl); (case hr => first | (go_simp; done) | (go_simp; rfl)); intro gb257 hg w18 hbox hb; have n0_ := Aside0.mk (below_step (be_ HB.out) hb); have n1_ := Aside0.mk (hbox); have n2_ := Aside0.mk (gs_ hg (be_ HB.out)); have n3_ := Aside0.mk (gs_ hg (be_ HB.out)); clear HB; have HB := n0_; have BK257 := n1_; have GW257 := n2_; have GE257 := n3_; clear n0_ n1_ n2_ n3_; clear hb hbox hg) | ((with_reducible refine gate_dst (N := 4) rfl ?_); refine box_event ?hg (N := 4) ?hd (cs := #[.int .i64 a1_0, .slice A1_1 l1_1.length c1_1, .int .i64 a1_2]) (t := 26) ?hr ?_; (case hd => rfl); (case hg => rfl); (case hr => first | (go_simp; done) | (go_simp; rfl)); intro gb258 hg w19 hbox hb; have n0_ := Aside0.mk (blk_below (bl_ BK257.out) hb); have n1_ := Aside0.mk (below_step (be_ HB.out) hb); have n2_ := Aside0.mk (hbox); have n3_ := Aside0.mk (gs_ hg (be_ HB.out)); have n4_ := Aside0.mk (gs_ hg (be_ HB.out)); have n5_ := Aside0.mk (nl_ hg (bl_ BK257.out)); have n6_ := Aside0.mk (ng_ hg (bl_ BK257.out)); clear BK257 HB; have BK257 := n0_; have HB := n1_; have BK258 := n2_; have GW258 := n3_; have GE258 := n4_; have NB257_258 := n5_; have NB258_257 := n6_; clear n0_ n1_ n2_ n3_ n4_ n5_ n6_; clear hb hbox hg; have hnb20 := NB258_257.out; have hnc20 := NB257_258.out; obtain ⟨hcz21_0, hcz21_1, hcz21_2, hfz21_0, hfz21_1, hfz21_2⟩ := cz3_ BK258.out) | ((with_reducible refine gate_callee (f := 4) rfl ?_); refine goesL_ (some 20) rfl rfl Try.func4 (by kernel_rfl) rfl #[.agg #[.int .i64 a1_0, .slice A1_1 l1_1.length c1_1, .int .i64 a1_2], .int .i64 1048576] rfl gm_ ?_; (with_reducible refine (laws_szBreaker.calls a1_0 _ _ l1_1 a1_2 1048576 t259 _ ?side1 ?side2 A4.out).mono ?_); (case side1 => repeat (first | exact (Kd.C_below HR1_1.out HB.out) | (with_reducible refine Kd.C_alloc ?_ _) | (with_reducible refine Kd.C_drewN ?_ _) | (with_reducible refine Kd.C_drew ?_))); (case side2 => exact HC1_1.out); rintro e w22 ⟨rfl, hb⟩; refine ⟨_, rfl, ?_⟩; have n0_ := Aside0.mk (blk_below (bl_ BK257.out) hb); have n1_ := Aside0.mk (blk_below (bl_ BK258.out) hb); have n2_ := Aside0.mk (below_step (be_ HB.out) hb); clear BK257 BK258 HB; have BK257 := n0_; have BK258 := n1_; have HB := n2_; clear n0_ n1_ n2_; (try clear hb); (try clear hb2); (try clear hk); (try clear hi)))
 have n0_ := Aside0.mk (blk_drew BK257.out)
 have n1_ := Aside0.mk (blk_drew BK258.out)
 have n2_ := Aside0.mk (below_drew1 HB.out)
 clear BK257 BK258 HB
 have BK257 := n0_
 have BK258 := n1_
 have HB := n2_
 clear n0_ n1_ n2_
 refine start_ (n := 12) (S := fun w' => w'.cell? ⟨gb257, 0, none⟩ = some (.int .i64 a0_0) ∧ w'.cell? ⟨gb257, 1, none⟩ = some (.int .i64 a0_1) ∧ w'.cell? ⟨gb257, 2, none⟩ = some (.int .i64 a0_2) ∧ w'.cell? ⟨gb257, 3, none⟩ = some (.int .i64 a0_3) ∧ w'.cell? ⟨gb257, 4, none⟩ = some (.int .i64 a0_4) ∧ w'.cell? ⟨gb257, 5, none⟩ = some (.int .i64 a0_5) ∧ w'.cell? ⟨gb257, 6, none⟩ = some (.int .i64 a0_6) ∧ w'.cell? ⟨gb257, 7, none⟩ = some (.int .i64 a0_7) ∧ w'.cell? ⟨gb257, 8, none⟩ = some (.int .i64 a0_8) ∧ w'.cell? ⟨gb257, 9, none⟩ = some (.int .i64 a0_9) ∧ w'.cell? ⟨gb257, 10, none⟩ = some (.int .i64 a0_10) ∧ w'.cell? ⟨gb257, 11, none⟩ = some (.int .i64 a0_11) ∧ w'.cell? ⟨gb257, 12, none⟩ = some (.int .i64 a0_12) ∧ w'.cell? ⟨gb257, 13, none⟩ = some (.int .i64 a0_13) ∧ w'.cell? ⟨gb258, 0, none⟩ = some (.int .i64 a1_0) ∧ w'.cell? ⟨gb258, 1, none⟩ = some (.slice A1_1 l1_1.length c1_1) ∧ w'.cell? ⟨gb258, 2, none⟩ = some (.int .i64 a1_2)) (ds := []) #[false, false, false, false, false, false, false, false, false, false, false, false] (by kernel_rfl) rfl rfl (ck14_ BK257.out (ce3_ BK258.out)) (fun hHeld => ?_); refine with_tabW laws_FnExactOnFailure.tab5 laws_FnExactOnFailure.bits5 (fun HT_ HW_ => ?_)
 generalize w22.drew = w23 at BK257 BK258 HB hHeld ⊢
 refine pure_ (i := 4) (N := some 28) (v := ?_) (a' := ?_) #[false, false, false, false, true, false, false, false, false, false, false, false] rfl rfl (any_of HT_.out (by kernel_rfl)) (fun _ _ _ h => h) (Or.inl ⟨by rfl, ?_⟩) ?_ ?_
 rotate_left
 ·
  intro w'
  go_simp
  with_reducible rfl
 rotate_left
 ·
  simp only [Act.put, List.setIfInBounds_toArray, List.set_cons_zero, List.set_cons_succ, i64_w, i32_w]
  rfl
 refine take_ (i := 0) (N := some 24) (v := ?_) (a' := ?_) #[true, false, false, false, true, false, false, false, false, false, false, false] rfl rfl (take_ofW HT_.out HW_.out (by kernel_rfl)) (fun _ _ _ h => h) (Or.inl ⟨by rfl, ?_⟩) hHeld ?_ ?_
 rotate_left
 ·
  rintro w' ⟨s0, s1, s2, s3, s4, s5, s6, s7, s8, s9, s10, s11, s12, s13, s14, s15, s16⟩
  go_simp
  with_reducible rfl
 rotate_left
 ·
  simp only [Act.put, List.setIfInBounds_toArray, List.set_cons_zero, List.set_cons_succ, i64_w, i32_w]
  rfl
 refine take_ (i := 2) (N := some 26) (v := ?_) (a' := ?_) #[true, false, true, false, true, false, false, false, false, false, false, false] rfl rfl (take_ofW HT_.out HW_.out (by kernel_rfl)) (fun _ _ _ h => h) (Or.inl ⟨by rfl, ?_⟩) hHeld ?_ ?_
 rotate_left
 ·
  rintro w' ⟨s0, s1, s2, s3, s4, s5, s6, s7, s8, s9, s10, s11, s12, s13, s14, s15, s16⟩
  go_simp
  with_reducible rfl
 rotate_left
 ·
  simp only [Act.put, List.setIfInBounds_toArray, List.set_cons_zero, List.set_cons_succ, i64_w, i32_w]
  rfl
 refine join_ (σ := Value × Value × Nat) 2 #[true, true, true, true, true, true, true, true, true, true, false, false] (fun s_ => [(25, .agg #[.int .i64 t260, .int .i64 t261, .int .i64 t262, .int .i64 t263, .int .i64 t264, .int .i64 t265, .int .i64 t266, .int .i64 t267, .int .i64 t268, .int .i64 t269, .int .i64 t270, .int .i64 t271, .int .i64 t272, .int .i64 t273]), (27, .agg #[.int .i64 t274, s_.1, .int .i64 t278]), (29, .tuple #[.agg #[.int .i64 t279, s_.2.1, .int .i64 t283], .bool t284]), (8, .pointer (some ⟨s_.2.2, 0, none⟩)), (23, .tuple #[.agg #[.int .i64 t279, s_.2.1, .int .i64 t283], .bool t284]), (30, .agg #[.int .i64 t279, s_.2.1, .int .i64 t283]), (31, .bool t284)]) (fun s_ w' => (w'.cell? ⟨gb257, 0, none⟩ = some (.int .i64 a0_0) ∧ w'.cell? ⟨gb257, 1, none⟩ = some (.int .i64 a0_1) ∧ w'.cell? ⟨gb257, 2, none⟩ = some (.int .i64 a0_2) ∧ w'.cell? ⟨gb257, 3, none⟩ = some (.int .i64 a0_3) ∧ w'.cell? ⟨gb257, 4, none⟩ = some (.int .i64 a0_4) ∧ w'.cell? ⟨gb257, 5, none⟩ = some (.int .i64 a0_5) ∧ w'.cell? ⟨gb257, 6, none⟩ = some (.int .i64 a0_6) ∧ w'.cell? ⟨gb257, 7, none⟩ = some (.int .i64 a0_7) ∧ w'.cell? ⟨gb257, 8, none⟩ = some (.int .i64 a0_8) ∧ w'.cell? ⟨gb257, 9, none⟩ = some (.int .i64 a0_9) ∧ w'.cell? ⟨gb257, 10, none⟩ = some (.int .i64 a0_10) ∧ w'.cell? ⟨gb257, 11, none⟩ = some (.int .i64 a0_11) ∧ w'.cell? ⟨gb257, 12, none⟩ = some (.int .i64 a0_12) ∧ w'.cell? ⟨gb257, 13, none⟩ = some (.int .i64 a0_13) ∧ w'.cell? ⟨gb258, 0, none⟩ = some (.int .i64 a1_0) ∧ w'.cell? ⟨gb258, 1, none⟩ = some (.slice A1_1 l1_1.length c1_1) ∧ w'.cell? ⟨gb258, 2, none⟩ = some (.int .i64 a1_2)) ∧ (Kd.R (Kd.int .i64) 3 w' w.heap.size (fun k_ => some k_ ≠ (s_.2.1 : Value).ownBlock) s_.1 t275) ∧ (Kd.R (Kd.int .i64) 3 w' w.heap.size (fun k_ => some k_ ≠ (s_.1 : Value).ownBlock) s_.2.1 t280) ∧ (w'.heap[gb257]? = some (.cells #[.int .i64 a0_0, .int .i64 a0_1, .int .i64 a0_2, .int .i64 a0_3, .int .i64 a0_4, .int .i64 a0_5, .int .i64 a0_6, .int .i64 a0_7, .int .i64 a0_8, .int .i64 a0_9, .int .i64 a0_10, .int .i64 a0_11, .int .i64 a0_12, .int .i64 a0_13] 23 (0, 0))) ∧ (w'.heap[gb258]? = some (.cells #[.int .i64 a1_0, .slice A1_1 l1_1.length c1_1, .int .i64 a1_2] 26 (0, 0))) ∧ (w'.heap[s_.2.2]? = some (.cells #[.int .i64 0, .slice none 0 0, .int .i64 0] 28 (0, 0))) ∧ (w.heap.size ≤ s_.2.2) ∧ (w.heap.size ≤ s_.2.2) ∧ (gb257 ≠ s_.2.2) ∧ (s_.2.2 ≠ gb257) ∧ (gb258 ≠ s_.2.2) ∧ (s_.2.2 ≠ gb258) ∧ (Below w.heap.size w w')) ?_ ?_
 rotate_left
 ·
  intro hCont
  refine two_ (i := 1) (j := 9) (Ni := some 25) (Nj := some 8) #[true, true, true, false, true, false, false, false, false, false, false, false] #[true, false, true, false, true, false, false, false, false, true, false, false] rfl rfl rfl rfl (two_of HT_.out (by kernel_rfl)) (by decide) (by decide) (fun K hK => ?_) (fun K hK => ?_)
  ·
   skip
   refine goes_ Try.func6 (by kernel_rfl) rfl #[.agg #[.int .i64 a0_0, .int .i64 a0_1, .int .i64 a0_2, .int .i64 a0_3, .int .i64 a0_4, .int .i64 a0_5, .int .i64 a0_6, .int .i64 a0_7, .int .i64 a0_8, .int .i64 a0_9, .int .i64 a0_10, .int .i64 a0_11, .int .i64 a0_12, .int .i64 a0_13]] (by rfl) rfl rfl gm_ ?_
   with_reducible refine (laws_toConfig.calls a0_0 a0_1 a0_2 a0_3 a0_4 a0_5 a0_6 a0_7 a0_8 a0_9 a0_10 a0_11 a0_12 a0_13 t260 t261 t262 t263 t264 t265 t266 t267 t268 t269 t270 t271 t272 t273 _ A11.out).mono ?_
   rintro e w24 ⟨rfl, hb⟩
   refine ⟨_, rfl, ?_⟩
   have n0_ := Aside0.mk (blk_below (bl_ BK257.out) hb)
   have n1_ := Aside0.mk (blk_below (bl_ BK258.out) hb)
   have n2_ := Aside0.mk (below_step (be_ HB.out) hb)
   clear BK257 BK258 HB
   have BK257 := n0_
   have BK258 := n1_
   have HB := n2_
   clear n0_ n1_ n2_
   (try clear hb)
   (try clear hb2)
   (try clear hk)
   (try clear hi)
   refine hK.out _ _ (ck14_ BK257.out (ce3_ BK258.out)) (fun hHeld => ?_)
   clear hK K
   refine norm_ (a' := ?_) ?_ ?_
   rotate_left
   ·
    show Act.put _ (some 25) _ = _
    simp only [Act.put, List.setIfInBounds_toArray, List.set_cons_zero, List.set_cons_succ, i64_w, i32_w]
    rfl
   refine two_ (i := 3) (j := 9) (Ni := some 27) (Nj := some 8) #[true, true, true, true, true, false, false, false, false, false, false, false] #[true, true, true, false, true, false, false, false, false, true, false, false] rfl rfl rfl rfl (two_of HT_.out (by kernel_rfl)) (by decide) (by decide) (fun K hK => ?_) (fun K hK => ?_)
   ·
    skip
    refine goes_ Try.func7 (by kernel_rfl) rfl #[.agg #[.int .i64 a1_0, .slice A1_1 l1_1.length c1_1, .int .i64 a1_2]] (by rfl) rfl rfl gm_ ?_
    with_reducible refine (laws_toBreaker.calls k a1_0 _ _ l1_1 a1_2 t274 t275 t278 _ ?side1 ?side2 A12.out).mono ?_
    (case side1 => repeat (first | exact (Kd.C_below HR1_1.out HB.out) | (with_reducible refine Kd.C_alloc ?_ _) | (with_reducible refine Kd.C_drewN ?_ _) | (with_reducible refine Kd.C_drew ?_)))
    (case side2 => exact HC1_1.out)
    rintro e w25 ⟨v276, rfl, ho0, hb⟩
    refine ⟨_, rfl, ?_⟩
    have n0_ := Aside0.mk (Kd.R_lower ho0 (below_size (be_ HB.out)))
    have n1_ := Aside0.mk (blk_below (bl_ BK257.out) hb)
    have n2_ := Aside0.mk (blk_below (bl_ BK258.out) hb)
    have n3_ := Aside0.mk (below_step (be_ HB.out) hb)
    clear BK257 BK258 HB
    have HO277 := n0_
    have BK257 := n1_
    have BK258 := n2_
    have HB := n3_
    clear n0_ n1_ n2_ n3_
    (try clear hb)
    (try clear hb2)
    (try clear hk)
    (try clear hi)
    (try clear ho0)
    obtain ⟨Ao26, co26, eo26⟩ := Kd.R_slice HO277.out
    (first | subst eo26 | (injection eo26 with f1_ f2_ f3_; have f4_ := f1_.symm; have f5_ := f3_.symm; clear f1_ f2_ f3_; subst f4_; subst f5_))
    refine hK.out _ _ (ck14_ BK257.out (ce3_ BK258.out)) (fun hHeld => ?_)
    clear hK K
    refine norm_ (a' := ?_) ?_ ?_
    rotate_left
    ·
     show Act.put _ (some 27) _ = _
     simp only [Act.put, List.setIfInBounds_toArray, List.set_cons_zero, List.set_cons_succ, i64_w, i32_w]
     rfl
    refine two_ (i := 5) (j := 9) (Ni := some 29) (Nj := some 8) #[true, true, true, true, true, true, false, false, false, false, false, false] #[true, true, true, true, true, false, false, false, false, true, false, false] rfl rfl rfl rfl (two_of HT_.out (by kernel_rfl)) (by decide) (by decide) (fun K hK => ?_) (fun K hK => ?_)
    ·
     skip
     refine goes_ Try.func5 (by kernel_rfl) rfl #[.agg #[.int .i64 t260, .int .i64 t261, .int .i64 t262, .int .i64 t263, .int .i64 t264, .int .i64 t265, .int .i64 t266, .int .i64 t267, .int .i64 t268, .int .i64 t269, .int .i64 t270, .int .i64 t271, .int .i64 t272, .int .i64 t273], .agg #[.int .i64 t274, .slice Ao26 t275.length co26, .int .i64 t278], .int .i64 a2] (by rfl) rfl rfl gm_ ?_
     with_reducible refine (spec_OnFailure.calls k t260 t261 t262 t263 t264 t265 t266 t267 t268 t269 t270 t271 t272 t273 t274 _ _ t275 t278 a2 t279 t280 t283 t284 _ ?side1 ?side2 A13.out).mono ?_
     (case side1 => repeat (first | exact (Kd.R_reads' HO277.out).2.2 | (with_reducible refine Kd.C_alloc ?_ _) | (with_reducible refine Kd.C_drewN ?_ _) | (with_reducible refine Kd.C_drew ?_)))
     (case side2 => exact (Kd.R_reads' HO277.out).2.1)
     rintro e w27 ⟨v281, rfl, ho0, hb⟩
     refine ⟨_, rfl, ?_⟩
     have n0_ := Aside0.mk (Kd.R_elder' (ro_ HO277.out) (Kd.R_base ho0) hb)
     have n1_ := Aside0.mk (Kd.R_lower (Kd.R_new' ho0 (Kd.R_lt (ro_ HO277.out))) (below_size (be_ HB.out)))
     have n2_ := Aside0.mk (blk_below (bl_ BK257.out) hb)
     have n3_ := Aside0.mk (blk_below (bl_ BK258.out) hb)
     have n4_ := Aside0.mk (below_step (be_ HB.out) hb)
     clear HO277 BK257 BK258 HB
     have HO277 := n0_
     have HO282 := n1_
     have BK257 := n2_
     have BK258 := n3_
     have HB := n4_
     clear n0_ n1_ n2_ n3_ n4_
     (try clear hb)
     (try clear hb2)
     (try clear hk)
     (try clear hi)
     (try clear ho0)
     refine hK.out _ _ (ck14_ BK257.out (ce3_ BK258.out)) (fun hHeld => ?_)
     clear hK K
     refine norm_ (a' := ?_) ?_ ?_
     rotate_left
     ·
      show Act.put _ (some 29) _ = _
      simp only [Act.put, List.setIfInBounds_toArray, List.set_cons_zero, List.set_cons_succ, i64_w, i32_w]
      rfl
     refine pure_ (i := 6) (N := some 23) (v := ?_) (a' := ?_) #[true, true, true, true, true, true, true, false, false, false, false, false] rfl rfl (any_of HT_.out (by kernel_rfl)) (fun _ _ _ h => h) (Or.inl ⟨by rfl, ?_⟩) ?_ ?_
     rotate_left
     ·
      intro w'
      go_simp
      with_reducible rfl
     rotate_left
     ·
      simp only [Act.put, List.setIfInBounds_toArray, List.set_cons_zero, List.set_cons_succ, i64_w, i32_w]
      rfl
     refine pure_ (i := 7) (N := some 30) (v := ?_) (a' := ?_) #[true, true, true, true, true, true, true, true, false, false, false, false] rfl rfl (any_of HT_.out (by kernel_rfl)) (fun _ _ _ h => h) (Or.inl ⟨by rfl, ?_⟩) ?_ ?_
     rotate_left
     ·
      intro w'
      go_simp
      with_reducible rfl
     rotate_left
     ·
      simp only [Act.put, List.setIfInBounds_toArray, List.set_cons_zero, List.set_cons_succ, i64_w, i32_w]
      rfl
     refine pure_ (i := 8) (N := some 31) (v := ?_) (a' := ?_) #[true, true, true, true, true, true, true, true, true, false, false, false] rfl rfl (any_of HT_.out (by kernel_rfl)) (fun _ _ _ h => h) (Or.inl ⟨by rfl, ?_⟩) ?_ ?_
     rotate_left
     ·
      intro w'
      go_simp
      with_reducible rfl
     rotate_left
     ·
      simp only [Act.put, List.setIfInBounds_toArray, List.set_cons_zero, List.set_cons_succ, i64_w, i32_w]
      rfl
     refine one_ (i := 9) (N := some 8) #[true, true, true, true, true, true, true, true, true, true, false, false] rfl rfl (one_of HT_.out (by kernel_rfl)) (by decide) (fun K hK => ?_)
     refine box_step ?hg (N := 8) ?hd (cs := #[.int .i64 0, .slice none 0 0, .int .i64 0]) (t := 28) ?hr ?_; (case hd => rfl); (case hg => rfl); (case hr => first | (go_simp; done) | (go_simp; rfl))
     intro gb285 hg w28 hbox hb
     have n0_ := Aside0.mk (Kd.R_below (ro_ HO277.out) hb)
     have n1_ := Aside0.mk (Kd.R_below (ro_ HO282.out) hb)
     have n2_ := Aside0.mk (blk_below (bl_ BK257.out) hb)
     have n3_ := Aside0.mk (blk_below (bl_ BK258.out) hb)
     have n4_ := Aside0.mk (below_step (be_ HB.out) hb)
     have n5_ := Aside0.mk (hbox)
     have n6_ := Aside0.mk (gs_ hg (be_ HB.out))
     have n7_ := Aside0.mk (gs_ hg (be_ HB.out))
     have n8_ := Aside0.mk (nl_ hg (bl_ BK257.out))
     have n9_ := Aside0.mk (ng_ hg (bl_ BK257.out))
     have n10_ := Aside0.mk (nl_ hg (bl_ BK258.out))
     have n11_ := Aside0.mk (ng_ hg (bl_ BK258.out))
     clear HO277 HO282 BK257 BK258 HB
     have HO277 := n0_
     have HO282 := n1_
     have BK257 := n2_
     have BK258 := n3_
     have HB := n4_
     have BK285 := n5_
     have GW285 := n6_
     have GE285 := n7_
     have NB257_285 := n8_
     have NB285_257 := n9_
     have NB258_285 := n10_
     have NB285_258 := n11_
     clear n0_ n1_ n2_ n3_ n4_ n5_ n6_ n7_ n8_ n9_ n10_ n11_
     clear hb hbox hg
     refine hK.out _ _ (ck14_ BK257.out (ce3_ BK258.out)) (fun hHeld => ?_)
     clear hK K
     refine norm_ (a' := ?_) ?_ ?_
     rotate_left
     ·
      show Act.put _ (some 8) _ = _
      simp only [Act.put, List.setIfInBounds_toArray, List.set_cons_zero, List.set_cons_succ, i64_w, i32_w]
      rfl
     exact norm_ (by simp only [putAll, Act.put, List.setIfInBounds_toArray, List.set_cons_zero, List.set_cons_succ]) (hCont (.slice Ao26 t275.length co26, v281, gb285) _ ⟨hHeld, (by (with_reducible repeat (first | apply Kd.R_alloc | apply Kd.R_drewN | apply Kd.R_drew)); exact Kd.R_mono HO277.out (fun _ hk => hk.2)), (by (with_reducible repeat (first | apply Kd.R_alloc | apply Kd.R_drewN | apply Kd.R_drew)); exact Kd.R_mono HO282.out (fun _ hk => hk.2)), (bl_ BK257.out), (bl_ BK258.out), (bl_ BK285.out), GW285.out, GE285.out, NB257_285.out, NB285_257.out, NB258_285.out, NB285_258.out, (be_ HB.out)⟩)
    skip
    refine box_step ?hg (N := 8) ?hd (cs := #[.int .i64 0, .slice none 0 0, .int .i64 0]) (t := 28) ?hr ?_; (case hd => rfl); (case hg => rfl); (case hr => first | (go_simp; done) | (go_simp; rfl))
    intro gb285 hg w26 hbox hb
    have n0_ := Aside0.mk (Kd.R_below (ro_ HO277.out) hb)
    have n1_ := Aside0.mk (blk_below (bl_ BK257.out) hb)
    have n2_ := Aside0.mk (blk_below (bl_ BK258.out) hb)
    have n3_ := Aside0.mk (below_step (be_ HB.out) hb)
    have n4_ := Aside0.mk (hbox)
    have n5_ := Aside0.mk (gs_ hg (be_ HB.out))
    have n6_ := Aside0.mk (gs_ hg (be_ HB.out))
    have n7_ := Aside0.mk (nl_ hg (bl_ BK257.out))
    have n8_ := Aside0.mk (ng_ hg (bl_ BK257.out))
    have n9_ := Aside0.mk (nl_ hg (bl_ BK258.out))
    have n10_ := Aside0.mk (ng_ hg (bl_ BK258.out))
    clear HO277 BK257 BK258 HB
    have HO277 := n0_
    have BK257 := n1_
    have BK258 := n2_
    have HB := n3_
    have BK285 := n4_
    have GW285 := n5_
    have GE285 := n6_
    have NB257_285 := n7_
    have NB285_257 := n8_
    have NB258_285 := n9_
    have NB285_258 := n10_
    clear n0_ n1_ n2_ n3_ n4_ n5_ n6_ n7_ n8_ n9_ n10_
    clear hb hbox hg
    obtain ⟨Ao27, co27, eo27⟩ := Kd.R_slice HO277.out
    (first | subst eo27 | (injection eo27 with f1_ f2_ f3_; have f4_ := f1_.symm; have f5_ := f3_.symm; clear f1_ f2_ f3_; subst f4_; subst f5_))
    refine hK.out _ _ (ck14_ BK257.out (ce3_ BK258.out)) (fun hHeld => ?_)
    clear hK K
    refine norm_ (a' := ?_) ?_ ?_
    rotate_left
    ·
     show Act.put _ (some 8) _ = _
     simp only [Act.put, List.setIfInBounds_toArray, List.set_cons_zero, List.set_cons_succ, i64_w, i32_w]
     rfl
    refine one_ (i := 5) (N := some 29) #[true, true, true, true, true, true, false, false, false, true, false, false] rfl rfl (one_of HT_.out (by kernel_rfl)) (by decide) (fun K hK => ?_)
    refine goes_ Try.func5 (by kernel_rfl) rfl #[.agg #[.int .i64 t260, .int .i64 t261, .int .i64 t262, .int .i64 t263, .int .i64 t264, .int .i64 t265, .int .i64 t266, .int .i64 t267, .int .i64 t268, .int .i64 t269, .int .i64 t270, .int .i64 t271, .int .i64 t272, .int .i64 t273], .agg #[.int .i64 t274, .slice Ao27 t275.length co27, .int .i64 t278], .int .i64 a2] (by rfl) rfl rfl gm_ ?_
    with_reducible refine (spec_OnFailure.calls k t260 t261 t262 t263 t264 t265 t266 t267 t268 t269 t270 t271 t272 t273 t274 _ _ t275 t278 a2 t279 t280 t283 t284 _ ?side1 ?side2 A13.out).mono ?_
    (case side1 => repeat (first | exact (Kd.R_reads' HO277.out).2.2 | (with_reducible refine Kd.C_alloc ?_ _) | (with_reducible refine Kd.C_drewN ?_ _) | (with_reducible refine Kd.C_drew ?_)))
    (case side2 => exact (Kd.R_reads' HO277.out).2.1)
    rintro e w28 ⟨v281, rfl, ho0, hb⟩
    refine ⟨_, rfl, ?_⟩
    have n0_ := Aside0.mk (Kd.R_elder' (ro_ HO277.out) (Kd.R_base ho0) hb)
    have n1_ := Aside0.mk (Kd.R_lower (Kd.R_new' ho0 (Kd.R_lt (ro_ HO277.out))) (below_size (be_ HB.out)))
    have n2_ := Aside0.mk (blk_below (bl_ BK257.out) hb)
    have n3_ := Aside0.mk (blk_below (bl_ BK258.out) hb)
    have n4_ := Aside0.mk (blk_below (bl_ BK285.out) hb)
    have n5_ := Aside0.mk (below_step (be_ HB.out) hb)
    clear HO277 BK257 BK258 BK285 HB
    have HO277 := n0_
    have HO282 := n1_
    have BK257 := n2_
    have BK258 := n3_
    have BK285 := n4_
    have HB := n5_
    clear n0_ n1_ n2_ n3_ n4_ n5_
    (try clear hb)
    (try clear hb2)
    (try clear hk)
    (try clear hi)
    (try clear ho0)
    refine hK.out _ _ (ck14_ BK257.out (ce3_ BK258.out)) (fun hHeld => ?_)
    clear hK K
    refine norm_ (a' := ?_) ?_ ?_
    rotate_left
    ·
     show Act.put _ (some 29) _ = _
     simp only [Act.put, List.setIfInBounds_toArray, List.set_cons_zero, List.set_cons_succ, i64_w, i32_w]
     rfl
    refine pure_ (i := 6) (N := some 23) (v := ?_) (a' := ?_) #[true, true, true, true, true, true, true, false, false, true, false, false] rfl rfl (any_of HT_.out (by kernel_rfl)) (fun _ _ _ h => h) (Or.inl ⟨by rfl, ?_⟩) ?_ ?_
    rotate_left
    ·
     intro w'
     go_simp
     with_reducible rfl
    rotate_left
    ·
     simp only [Act.put, List.setIfInBounds_toArray, List.set_cons_zero, List.set_cons_succ, i64_w, i32_w]
     rfl
    refine pure_ (i := 7) (N := some 30) (v := ?_) (a' := ?_) #[true, true, true, true, true, true, true, true, false, true, false, false] rfl rfl (any_of HT_.out (by kernel_rfl)) (fun _ _ _ h => h) (Or.inl ⟨by rfl, ?_⟩) ?_ ?_
    rotate_left
    ·
     intro w'
     go_simp
     with_reducible rfl
    rotate_left
    ·
     simp only [Act.put, List.setIfInBounds_toArray, List.set_cons_zero, List.set_cons_succ, i64_w, i32_w]
     rfl
    refine pure_ (i := 8) (N := some 31) (v := ?_) (a' := ?_) #[true, true, true, true, true, true, true, true, true, true, false, false] rfl rfl (any_of HT_.out (by kernel_rfl)) (fun _ _ _ h => h) (Or.inl ⟨by rfl, ?_⟩) ?_ ?_
    rotate_left
    ·
     intro w'
     go_simp
     with_reducible rfl
    rotate_left
    ·
     simp only [Act.put, List.setIfInBounds_toArray, List.set_cons_zero, List.set_cons_succ, i64_w, i32_w]
     rfl
    exact norm_ (by simp only [putAll, Act.put, List.setIfInBounds_toArray, List.set_cons_zero, List.set_cons_succ]) (hCont (.slice Ao27 t275.length co27, v281, gb285) _ ⟨hHeld, (by (with_reducible repeat (first | apply Kd.R_alloc | apply Kd.R_drewN | apply Kd.R_drew)); exact Kd.R_mono HO277.out (fun _ hk => hk.2)), (by (with_reducible repeat (first | apply Kd.R_alloc | apply Kd.R_drewN | apply Kd.R_drew)); exact Kd.R_mono HO282.out (fun _ hk => hk.2)), (bl_ BK257.out), (bl_ BK258.out), (bl_ BK285.out), GW285.out, GE285.out, NB257_285.out, NB285_257.out, NB258_285.out, NB285_258.out, (be_ HB.out)⟩)
   skip
   refine box_step ?hg (N := 8) ?hd (cs := #[.int .i64 0, .slice none 0 0, .int .i64 0]) (t := 28) ?hr ?_; (case hd => rfl); (case hg => rfl); (case hr => first | (go_simp; done) | (go_simp; rfl))
   intro gb285 hg w25 hbox hb
   have n0_ := Aside0.mk (blk_below (bl_ BK257.out) hb)
   have n1_ := Aside0.mk (blk_below (bl_ BK258.out) hb)
   have n2_ := Aside0.mk (below_step (be_ HB.out) hb)
   have n3_ := Aside0.mk (hbox)
   have n4_ := Aside0.mk (gs_ hg (be_ HB.out))
   have n5_ := Aside0.mk (gs_ hg (be_ HB.out))
   have n6_ := Aside0.mk (nl_ hg (bl_ BK257.out))
   have n7_ := Aside0.mk (ng_ hg (bl_ BK257.out))
   have n8_ := Aside0.mk (nl_ hg (bl_ BK258.out))
   have n9_ := Aside0.mk (ng_ hg (bl_ BK258.out))
   clear BK257 BK258 HB
   have BK257 := n0_
   have BK258 := n1_
   have HB := n2_
   have BK285 := n3_
   have GW285 := n4_
   have GE285 := n5_
   have NB257_285 := n6_
   have NB285_257 := n7_
   have NB258_285 := n8_
   have NB285_258 := n9_
   clear n0_ n1_ n2_ n3_ n4_ n5_ n6_ n7_ n8_ n9_
   clear hb hbox hg
   refine hK.out _ _ (ck14_ BK257.out (ce3_ BK258.out)) (fun hHeld => ?_)
   clear hK K
   refine norm_ (a' := ?_) ?_ ?_
   rotate_left
   ·
    show Act.put _ (some 8) _ = _
    simp only [Act.put, List.setIfInBounds_toArray, List.set_cons_zero, List.set_cons_succ, i64_w, i32_w]
    rfl
   refine one_ (i := 3) (N := some 27) #[true, true, true, true, true, false, false, false, false, true, false, false] rfl rfl (one_of HT_.out (by kernel_rfl)) (by decide) (fun K hK => ?_)
   refine goes_ Try.func7 (by kernel_rfl) rfl #[.agg #[.int .i64 a1_0, .slice A1_1 l1_1.length c1_1, .int .i64 a1_2]] (by rfl) rfl rfl gm_ ?_
   with_reducible refine (laws_toBreaker.calls k a1_0 _ _ l1_1 a1_2 t274 t275 t278 _ ?side1 ?side2 A12.out).mono ?_
   (case side1 => repeat (first | exact (Kd.C_below HR1_1.out HB.out) | (with_reducible refine Kd.C_alloc ?_ _) | (with_reducible refine Kd.C_drewN ?_ _) | (with_reducible refine Kd.C_drew ?_)))
   (case side2 => exact HC1_1.out)
   rintro e w26 ⟨v276, rfl, ho0, hb⟩
   refine ⟨_, rfl, ?_⟩
   have n0_ := Aside0.mk (Kd.R_lower ho0 (below_size (be_ HB.out)))
   have n1_ := Aside0.mk (blk_below (bl_ BK257.out) hb)
   have n2_ := Aside0.mk (blk_below (bl_ BK258.out) hb)
   have n3_ := Aside0.mk (blk_below (bl_ BK285.out) hb)
   have n4_ := Aside0.mk (below_step (be_ HB.out) hb)
   clear BK257 BK258 BK285 HB
   have HO277 := n0_
   have BK257 := n1_
   have BK258 := n2_
   have BK285 := n3_
   have HB := n4_
   clear n0_ n1_ n2_ n3_ n4_
   (try clear hb)
   (try clear hb2)
   (try clear hk)
   (try clear hi)
   (try clear ho0)
   obtain ⟨Ao27, co27, eo27⟩ := Kd.R_slice HO277.out
   (first | subst eo27 | (injection eo27 with f1_ f2_ f3_; have f4_ := f1_.symm; have f5_ := f3_.symm; clear f1_ f2_ f3_; subst f4_; subst f5_))
   refine hK.out _ _ (ck14_ BK257.out (ce3_ BK258.out)) (fun hHeld => ?_)
   clear hK K
   refine norm_ (a' := ?_) ?_ ?_
   rotate_left
   ·
    show Act.put _ (some 27) _ = _
    simp only [Act.put, List.setIfInBounds_toArray, List.set_cons_zero, List.set_cons_succ, i64_w, i32_w]
    rfl
   refine one_ (i := 5) (N := some 29) #[true, true, true, true, true, true, false, false, false, true, false, false] rfl rfl (one_of HT_.out (by kernel_rfl)) (by decide) (fun K hK => ?_)
   refine goes_ Try.func5 (by kernel_rfl) rfl #[.agg #[.int .i64 t260, .int .i64 t261, .int .i64 t262, .int .i64 t263, .int .i64 t264, .int .i64 t265, .int .i64 t266, .int .i64 t267, .int .i64 t268, .int .i64 t269, .int .i64 t270, .int .i64 t271, .int .i64 t272, .int .i64 t273], .agg #[.int .i64 t274, .slice Ao27 t275.length co27, .int .i64 t278], .int .i64 a2] (by rfl) rfl rfl gm_ ?_
   with_reducible refine (spec_OnFailure.calls k t260 t261 t262 t263 t264 t265 t266 t267 t268 t269 t270 t271 t272 t273 t274 _ _ t275 t278 a2 t279 t280 t283 t284 _ ?side1 ?side2 A13.out).mono ?_
   (case side1 => repeat (first | exact (Kd.R_reads' HO277.out).2.2 | (with_reducible refine Kd.C_alloc ?_ _) | (with_reducible refine Kd.C_drewN ?_ _) | (with_reducible refine Kd.C_drew ?_)))
   (case side2 => exact (Kd.R_reads' HO277.out).2.1)
   rintro e w28 ⟨v281, rfl, ho0, hb⟩
   refine ⟨_, rfl, ?_⟩
   have n0_ := Aside0.mk (Kd.R_elder' (ro_ HO277.out) (Kd.R_base ho0) hb)
   have n1_ := Aside0.mk (Kd.R_lower (Kd.R_new' ho0 (Kd.R_lt (ro_ HO277.out))) (below_size (be_ HB.out)))
   have n2_ := Aside0.mk (blk_below (bl_ BK257.out) hb)
   have n3_ := Aside0.mk (blk_below (bl_ BK258.out) hb)
   have n4_ := Aside0.mk (blk_below (bl_ BK285.out) hb)
   have n5_ := Aside0.mk (below_step (be_ HB.out) hb)
   clear HO277 BK257 BK258 BK285 HB
   have HO277 := n0_
   have HO282 := n1_
   have BK257 := n2_
   have BK258 := n3_
   have BK285 := n4_
   have HB := n5_
   clear n0_ n1_ n2_ n3_ n4_ n5_
   (try clear hb)
   (try clear hb2)
   (try clear hk)
   (try clear hi)
   (try clear ho0)
   refine hK.out _ _ (ck14_ BK257.out (ce3_ BK258.out)) (fun hHeld => ?_)
   clear hK K
   refine norm_ (a' := ?_) ?_ ?_
   rotate_left
   ·
    show Act.put _ (some 29) _ = _
    simp only [Act.put, List.setIfInBounds_toArray, List.set_cons_zero, List.set_cons_succ, i64_w, i32_w]
    rfl
   refine pure_ (i := 6) (N := some 23) (v := ?_) (a' := ?_) #[true, true, true, true, true, true, true, false, false, true, false, false] rfl rfl (any_of HT_.out (by kernel_rfl)) (fun _ _ _ h => h) (Or.inl ⟨by rfl, ?_⟩) ?_ ?_
   rotate_left
   ·
    intro w'
    go_simp
    with_reducible rfl
   rotate_left
   ·
    simp only [Act.put, List.setIfInBounds_toArray, List.set_cons_zero, List.set_cons_succ, i64_w, i32_w]
    rfl
   refine pure_ (i := 7) (N := some 30) (v := ?_) (a' := ?_) #[true, true, true, true, true, true, true, true, false, true, false, false] rfl rfl (any_of HT_.out (by kernel_rfl)) (fun _ _ _ h => h) (Or.inl ⟨by rfl, ?_⟩) ?_ ?_
   rotate_left
   ·
    intro w'
    go_simp
    with_reducible rfl
   rotate_left
   ·
    simp only [Act.put, List.setIfInBounds_toArray, List.set_cons_zero, List.set_cons_succ, i64_w, i32_w]
    rfl
   refine pure_ (i := 8) (N := some 31) (v := ?_) (a' := ?_) #[true, true, true, true, true, true, true, true, true, true, false, false] rfl rfl (any_of HT_.out (by kernel_rfl)) (fun _ _ _ h => h) (Or.inl ⟨by rfl, ?_⟩) ?_ ?_
   rotate_left
   ·
    intro w'
    go_simp
    with_reducible rfl
   rotate_left
   ·
    simp only [Act.put, List.setIfInBounds_toArray, List.set_cons_zero, List.set_cons_succ, i64_w, i32_w]
    rfl
   exact norm_ (by simp only [putAll, Act.put, List.setIfInBounds_toArray, List.set_cons_zero, List.set_cons_succ]) (hCont (.slice Ao27 t275.length co27, v281, gb285) _ ⟨hHeld, (by (with_reducible repeat (first | apply Kd.R_alloc | apply Kd.R_drewN | apply Kd.R_drew)); exact Kd.R_mono HO277.out (fun _ hk => hk.2)), (by (with_reducible repeat (first | apply Kd.R_alloc | apply Kd.R_drewN | apply Kd.R_drew)); exact Kd.R_mono HO282.out (fun _ hk => hk.2)), (bl_ BK257.out), (bl_ BK258.out), (bl_ BK285.out), GW285.out, GE285.out, NB257_285.out, NB285_257.out, NB258_285.out, NB285_258.out, (be_ HB.out)⟩)
  skip
  refine box_step ?hg (N := 8) ?hd (cs := #[.int .i64 0, .slice none 0 0, .int .i64 0]) (t := 28) ?hr ?_; (case hd => rfl); (case hg => rfl); (case hr => first | (go_simp; done) | (go_simp; rfl))
  intro gb285 hg w24 hbox hb
  have n0_ := Aside0.mk (blk_below (bl_ BK257.out) hb)
  have n1_ := Aside0.mk (blk_below (bl_ BK258.out) hb)
  have n2_ := Aside0.mk (below_step (be_ HB.out) hb)
  have n3_ := Aside0.mk (hbox)
  have n4_ := Aside0.mk (gs_ hg (be_ HB.out))
  have n5_ := Aside0.mk (gs_ hg (be_ HB.out))
  have n6_ := Aside0.mk (nl_ hg (bl_ BK257.out))
  have n7_ := Aside0.mk (ng_ hg (bl_ BK257.out))
  have n8_ := Aside0.mk (nl_ hg (bl_ BK258.out))
  have n9_ := Aside0.mk (ng_ hg (bl_ BK258.out))
  clear BK257 BK258 HB
  have BK257 := n0_
  have BK258 := n1_
  have HB := n2_
  have BK285 := n3_
  have GW285 := n4_
  have GE285 := n5_
  have NB257_285 := n6_
  have NB285_257 := n7_
  have NB258_285 := n8_
  have NB285_258 := n9_
  clear n0_ n1_ n2_ n3_ n4_ n5_ n6_ n7_ n8_ n9_
  clear hb hbox hg
  refine hK.out _ _ (ck14_ BK257.out (ce3_ BK258.out)) (fun hHeld => ?_)
  clear hK K
  refine norm_ (a' := ?_) ?_ ?_
  rotate_left
  ·
   show Act.put _ (some 8) _ = _
   simp only [Act.put, List.setIfInBounds_toArray, List.set_cons_zero, List.set_cons_succ, i64_w, i32_w]
   rfl
  refine one_ (i := 1) (N := some 25) #[true, true, true, false, true, false, false, false, false, true, false, false] rfl rfl (one_of HT_.out (by kernel_rfl)) (by decide) (fun K hK => ?_)
  refine goes_ Try.func6 (by kernel_rfl) rfl #[.agg #[.int .i64 a0_0, .int .i64 a0_1, .int .i64 a0_2, .int .i64 a0_3, .int .i64 a0_4, .int .i64 a0_5, .int .i64 a0_6, .int .i64 a0_7, .int .i64 a0_8, .int .i64 a0_9, .int .i64 a0_10, .int .i64 a0_11, .int .i64 a0_12, .int .i64 a0_13]] (by rfl) rfl rfl gm_ ?_
  with_reducible refine (laws_toConfig.calls a0_0 a0_1 a0_2 a0_3 a0_4 a0_5 a0_6 a0_7 a0_8 a0_9 a0_10 a0_11 a0_12 a0_13 t260 t261 t262 t263 t264 t265 t266 t267 t268 t269 t270 t271 t272 t273 _ A11.out).mono ?_
  rintro e w25 ⟨rfl, hb⟩
  refine ⟨_, rfl, ?_⟩
  have n0_ := Aside0.mk (blk_below (bl_ BK257.out) hb)
  have n1_ := Aside0.mk (blk_below (bl_ BK258.out) hb)
  have n2_ := Aside0.mk (blk_below (bl_ BK285.out) hb)
  have n3_ := Aside0.mk (below_step (be_ HB.out) hb)
  clear BK257 BK258 BK285 HB
  have BK257 := n0_
  have BK258 := n1_
  have BK285 := n2_
  have HB := n3_
  clear n0_ n1_ n2_ n3_
  (try clear hb)
  (try clear hb2)
  (try clear hk)
  (try clear hi)
  refine hK.out _ _ (ck14_ BK257.out (ce3_ BK258.out)) (fun hHeld => ?_)
  clear hK K
  refine norm_ (a' := ?_) ?_ ?_
  rotate_left
  ·
   show Act.put _ (some 25) _ = _
   simp only [Act.put, List.setIfInBounds_toArray, List.set_cons_zero, List.set_cons_succ, i64_w, i32_w]
   rfl
  refine one_ (i := 3) (N := some 27) #[true, true, true, true, true, false, false, false, false, true, false, false] rfl rfl (one_of HT_.out (by kernel_rfl)) (by decide) (fun K hK => ?_)
  refine goes_ Try.func7 (by kernel_rfl) rfl #[.agg #[.int .i64 a1_0, .slice A1_1 l1_1.length c1_1, .int .i64 a1_2]] (by rfl) rfl rfl gm_ ?_
  with_reducible refine (laws_toBreaker.calls k a1_0 _ _ l1_1 a1_2 t274 t275 t278 _ ?side1 ?side2 A12.out).mono ?_
  (case side1 => repeat (first | exact (Kd.C_below HR1_1.out HB.out) | (with_reducible refine Kd.C_alloc ?_ _) | (with_reducible refine Kd.C_drewN ?_ _) | (with_reducible refine Kd.C_drew ?_)))
  (case side2 => exact HC1_1.out)
  rintro e w26 ⟨v276, rfl, ho0, hb⟩
  refine ⟨_, rfl, ?_⟩
  have n0_ := Aside0.mk (Kd.R_lower ho0 (below_size (be_ HB.out)))
  have n1_ := Aside0.mk (blk_below (bl_ BK257.out) hb)
  have n2_ := Aside0.mk (blk_below (bl_ BK258.out) hb)
  have n3_ := Aside0.mk (blk_below (bl_ BK285.out) hb)
  have n4_ := Aside0.mk (below_step (be_ HB.out) hb)
  clear BK257 BK258 BK285 HB
  have HO277 := n0_
  have BK257 := n1_
  have BK258 := n2_
  have BK285 := n3_
  have HB := n4_
  clear n0_ n1_ n2_ n3_ n4_
  (try clear hb)
  (try clear hb2)
  (try clear hk)
  (try clear hi)
  (try clear ho0)
  obtain ⟨Ao27, co27, eo27⟩ := Kd.R_slice HO277.out
  (first | subst eo27 | (injection eo27 with f1_ f2_ f3_; have f4_ := f1_.symm; have f5_ := f3_.symm; clear f1_ f2_ f3_; subst f4_; subst f5_))
  refine hK.out _ _ (ck14_ BK257.out (ce3_ BK258.out)) (fun hHeld => ?_)
  clear hK K
  refine norm_ (a' := ?_) ?_ ?_
  rotate_left
  ·
   show Act.put _ (some 27) _ = _
   simp only [Act.put, List.setIfInBounds_toArray, List.set_cons_zero, List.set_cons_succ, i64_w, i32_w]
   rfl
  refine one_ (i := 5) (N := some 29) #[true, true, true, true, true, true, false, false, false, true, false, false] rfl rfl (one_of HT_.out (by kernel_rfl)) (by decide) (fun K hK => ?_)
  refine goes_ Try.func5 (by kernel_rfl) rfl #[.agg #[.int .i64 t260, .int .i64 t261, .int .i64 t262, .int .i64 t263, .int .i64 t264, .int .i64 t265, .int .i64 t266, .int .i64 t267, .int .i64 t268, .int .i64 t269, .int .i64 t270, .int .i64 t271, .int .i64 t272, .int .i64 t273], .agg #[.int .i64 t274, .slice Ao27 t275.length co27, .int .i64 t278], .int .i64 a2] (by rfl) rfl rfl gm_ ?_
  with_reducible refine (spec_OnFailure.calls k t260 t261 t262 t263 t264 t265 t266 t267 t268 t269 t270 t271 t272 t273 t274 _ _ t275 t278 a2 t279 t280 t283 t284 _ ?side1 ?side2 A13.out).mono ?_
  (case side1 => repeat (first | exact (Kd.R_reads' HO277.out).2.2 | (with_reducible refine Kd.C_alloc ?_ _) | (with_reducible refine Kd.C_drewN ?_ _) | (with_reducible refine Kd.C_drew ?_)))
  (case side2 => exact (Kd.R_reads' HO277.out).2.1)
  rintro e w28 ⟨v281, rfl, ho0, hb⟩
  refine ⟨_, rfl, ?_⟩
  have n0_ := Aside0.mk (Kd.R_elder' (ro_ HO277.out) (Kd.R_base ho0) hb)
  have n1_ := Aside0.mk (Kd.R_lower (Kd.R_new' ho0 (Kd.R_lt (ro_ HO277.out))) (below_size (be_ HB.out)))
  have n2_ := Aside0.mk (blk_below (bl_ BK257.out) hb)
  have n3_ := Aside0.mk (blk_below (bl_ BK258.out) hb)
  have n4_ := Aside0.mk (blk_below (bl_ BK285.out) hb)
  have n5_ := Aside0.mk (below_step (be_ HB.out) hb)
  clear HO277 BK257 BK258 BK285 HB
  have HO277 := n0_
  have HO282 := n1_
  have BK257 := n2_
  have BK258 := n3_
  have BK285 := n4_
  have HB := n5_
  clear n0_ n1_ n2_ n3_ n4_ n5_
  (try clear hb)
  (try clear hb2)
  (try clear hk)
  (try clear hi)
  (try clear ho0)
  refine hK.out _ _ (ck14_ BK257.out (ce3_ BK258.out)) (fun hHeld => ?_)
  clear hK K
  refine norm_ (a' := ?_) ?_ ?_
  rotate_left
  ·
   show Act.put _ (some 29) _ = _
   simp only [Act.put, List.setIfInBounds_toArray, List.set_cons_zero, List.set_cons_succ, i64_w, i32_w]
   rfl
  refine pure_ (i := 6) (N := some 23) (v := ?_) (a' := ?_) #[true, true, true, true, true, true, true, false, false, true, false, false] rfl rfl (any_of HT_.out (by kernel_rfl)) (fun _ _ _ h => h) (Or.inl ⟨by rfl, ?_⟩) ?_ ?_
  rotate_left
  ·
   intro w'
   go_simp
   with_reducible rfl
  rotate_left
  ·
   simp only [Act.put, List.setIfInBounds_toArray, List.set_cons_zero, List.set_cons_succ, i64_w, i32_w]
   rfl
  refine pure_ (i := 7) (N := some 30) (v := ?_) (a' := ?_) #[true, true, true, true, true, true, true, true, false, true, false, false] rfl rfl (any_of HT_.out (by kernel_rfl)) (fun _ _ _ h => h) (Or.inl ⟨by rfl, ?_⟩) ?_ ?_
  rotate_left
  ·
   intro w'
   go_simp
   with_reducible rfl
  rotate_left
  ·
   simp only [Act.put, List.setIfInBounds_toArray, List.set_cons_zero, List.set_cons_succ, i64_w, i32_w]
   rfl
  refine pure_ (i := 8) (N := some 31) (v := ?_) (a' := ?_) #[true, true, true, true, true, true, true, true, true, true, false, false] rfl rfl (any_of HT_.out (by kernel_rfl)) (fun _ _ _ h => h) (Or.inl ⟨by rfl, ?_⟩) ?_ ?_
  rotate_left
  ·
   intro w'
   go_simp
   with_reducible rfl
  rotate_left
  ·
   simp only [Act.put, List.setIfInBounds_toArray, List.set_cons_zero, List.set_cons_succ, i64_w, i32_w]
   rfl
  exact norm_ (by simp only [putAll, Act.put, List.setIfInBounds_toArray, List.set_cons_zero, List.set_cons_succ]) (hCont (.slice Ao27 t275.length co27, v281, gb285) _ ⟨hHeld, (by (with_reducible repeat (first | apply Kd.R_alloc | apply Kd.R_drewN | apply Kd.R_drew)); exact Kd.R_mono HO277.out (fun _ hk => hk.2)), (by (with_reducible repeat (first | apply Kd.R_alloc | apply Kd.R_drewN | apply Kd.R_drew)); exact Kd.R_mono HO282.out (fun _ hk => hk.2)), (bl_ BK257.out), (bl_ BK258.out), (bl_ BK285.out), GW285.out, GE285.out, NB257_285.out, NB285_257.out, NB258_285.out, NB285_258.out, (be_ HB.out)⟩)
 rintro ⟨v276, v281, gb285⟩ w29 ⟨hS_, h0_, h1_, h2_, h3_, h4_, h5_, h6_, h7_, h8_, h9_, h10_, h11_⟩
 have n0_ : Aside0 (Kd.R (Kd.int .i64) 3 w29 w.heap.size (fun k_ => some k_ ≠ (v281 : Value).ownBlock) v276 t275) := ⟨h0_⟩
 have n1_ : Aside0 (Kd.R (Kd.int .i64) 3 w29 w.heap.size (fun k_ => some k_ ≠ (v276 : Value).ownBlock) v281 t280) := ⟨h1_⟩
 have n2_ : Aside0 (w29.heap[gb257]? = some (.cells #[.int .i64 a0_0, .int .i64 a0_1, .int .i64 a0_2, .int .i64 a0_3, .int .i64 a0_4, .int .i64 a0_5, .int .i64 a0_6, .int .i64 a0_7, .int .i64 a0_8, .int .i64 a0_9, .int .i64 a0_10, .int .i64 a0_11, .int .i64 a0_12, .int .i64 a0_13] 23 (0, 0))) := ⟨h2_⟩
 have n3_ : Aside0 (w29.heap[gb258]? = some (.cells #[.int .i64 a1_0, .slice A1_1 l1_1.length c1_1, .int .i64 a1_2] 26 (0, 0))) := ⟨h3_⟩
 have n4_ : Aside0 (w29.heap[gb285]? = some (.cells #[.int .i64 0, .slice none 0 0, .int .i64 0] 28 (0, 0))) := ⟨h4_⟩
 have n5_ : Aside0 (w.heap.size ≤ gb285) := ⟨h5_⟩
 have n6_ : Aside0 (w.heap.size ≤ gb285) := ⟨h6_⟩
 have n7_ : Aside0 (gb257 ≠ gb285) := ⟨h7_⟩
 have n8_ : Aside0 (gb285 ≠ gb257) := ⟨h8_⟩
 have n9_ : Aside0 (gb258 ≠ gb285) := ⟨h9_⟩
 have n10_ : Aside0 (gb285 ≠ gb258) := ⟨h10_⟩
 have n11_ : Aside0 (Below w.heap.size w w29) := ⟨h11_⟩
 clear BK257 BK258 HB
 clear h0_ h1_ h2_ h3_ h4_ h5_ h6_ h7_ h8_ h9_ h10_ h11_
 have HO277 := n0_
 have HO282 := n1_
 have BK257 := n2_
 have BK258 := n3_
 have BK285 := n4_
 have GW285 := n5_
 have GE285 := n6_
 have NB257_285 := n7_
 have NB285_257 := n8_
 have NB258_285 := n9_
 have NB285_258 := n10_
 have HB := n11_
 clear n0_ n1_ n2_ n3_ n4_ n5_ n6_ n7_ n8_ n9_ n10_ n11_
 have hHeld : w29.cell? ⟨gb257, 0, none⟩ = some (.int .i64 a0_0) ∧ w29.cell? ⟨gb257, 1, none⟩ = some (.int .i64 a0_1) ∧ w29.cell? ⟨gb257, 2, none⟩ = some (.int .i64 a0_2) ∧ w29.cell? ⟨gb257, 3, none⟩ = some (.int .i64 a0_3) ∧ w29.cell? ⟨gb257, 4, none⟩ = some (.int .i64 a0_4) ∧ w29.cell? ⟨gb257, 5, none⟩ = some (.int .i64 a0_5) ∧ w29.cell? ⟨gb257, 6, none⟩ = some (.int .i64 a0_6) ∧ w29.cell? ⟨gb257, 7, none⟩ = some (.int .i64 a0_7) ∧ w29.cell? ⟨gb257, 8, none⟩ = some (.int .i64 a0_8) ∧ w29.cell? ⟨gb257, 9, none⟩ = some (.int .i64 a0_9) ∧ w29.cell? ⟨gb257, 10, none⟩ = some (.int .i64 a0_10) ∧ w29.cell? ⟨gb257, 11, none⟩ = some (.int .i64 a0_11) ∧ w29.cell? ⟨gb257, 12, none⟩ = some (.int .i64 a0_12) ∧ w29.cell? ⟨gb257, 13, none⟩ = some (.int .i64 a0_13) ∧ w29.cell? ⟨gb258, 0, none⟩ = some (.int .i64 a1_0) ∧ w29.cell? ⟨gb258, 1, none⟩ = some (.slice A1_1 l1_1.length c1_1) ∧ w29.cell? ⟨gb258, 2, none⟩ = some (.int .i64 a1_2) := hS_
 obtain ⟨Ao31, co31, eo31⟩ := Kd.R_slice HO282.out
 (first | subst eo31 | (injection eo31 with f1_ f2_ f3_; have f4_ := f1_.symm; have f5_ := f3_.symm; clear f1_ f2_ f3_; subst f4_; subst f5_))
 refine norm_ (a' := ?_) ?_ ?_
 rotate_left
 ·
  simp only [putAll, Act.put, List.setIfInBounds_toArray, List.set_cons_zero, List.set_cons_succ]
  rfl
 refine one_ (i := 10) (N := none) #[true, true, true, true, true, true, true, true, true, true, true, false] rfl rfl (one_of HT_.out (by kernel_rfl)) (by decide) (fun K hK => ?_)
 have hs30 : w29.cell? ⟨gb285, 0, none⟩ = some (.int .i64 0) := (blk_cell BK285.out 0).trans rfl
 have hfs30 := blk_frozen BK285.out 0
 have hns30_0 := NB257_285.out
 have hns30_1 := NB258_285.out
 have hms30_0 := NB285_257.out
 have hms30_1 := NB285_258.out
 have hs32 : w29.cell? ⟨gb285, 1, none⟩ = some (.slice none 0 0) := (blk_cell BK285.out 1).trans rfl
 have hfs32 := blk_frozen BK285.out 1
 have hns32_0 := NB257_285.out
 have hns32_1 := NB258_285.out
 have hms32_0 := NB285_257.out
 have hms32_1 := NB285_258.out
 have hs33 : w29.cell? ⟨gb285, 2, none⟩ = some (.int .i64 0) := (blk_cell BK285.out 2).trans rfl
 have hfs33 := blk_frozen BK285.out 2
 have hns33_0 := NB257_285.out
 have hns33_1 := NB258_285.out
 have hms33_0 := NB285_257.out
 have hms33_1 := NB285_258.out
 refine skip_ (w1 := ?_) (by rfl) rfl ?_ ?_
 rotate_left
 ·
  go_simp
  rfl
 refine hK.out _ _ ⟨(cf3_ NB257_285.out (hHeld.1)), (cf3_ NB257_285.out (hHeld.2.1)), (cf3_ NB257_285.out (hHeld.2.2.1)), (cf3_ NB257_285.out (hHeld.2.2.2.1)), (cf3_ NB257_285.out (hHeld.2.2.2.2.1)), (cf3_ NB257_285.out (hHeld.2.2.2.2.2.1)), (cf3_ NB257_285.out (hHeld.2.2.2.2.2.2.1)), (cf3_ NB257_285.out (hHeld.2.2.2.2.2.2.2.1)), (cf3_ NB257_285.out (hHeld.2.2.2.2.2.2.2.2.1)), (cf3_ NB257_285.out (hHeld.2.2.2.2.2.2.2.2.2.1)), (cf3_ NB257_285.out (hHeld.2.2.2.2.2.2.2.2.2.2.1)), (cf3_ NB257_285.out (hHeld.2.2.2.2.2.2.2.2.2.2.2.1)), (cf3_ NB257_285.out (hHeld.2.2.2.2.2.2.2.2.2.2.2.2.1)), (cf3_ NB257_285.out (hHeld.2.2.2.2.2.2.2.2.2.2.2.2.2.1)), (cf3_ NB258_285.out (hHeld.2.2.2.2.2.2.2.2.2.2.2.2.2.2.1)), (cf3_ NB258_285.out (hHeld.2.2.2.2.2.2.2.2.2.2.2.2.2.2.2.1)), (cf3_ NB258_285.out (hHeld.2.2.2.2.2.2.2.2.2.2.2.2.2.2.2.2))⟩ (fun hHeld => ?_)
 clear hK K
 refine pure_ (i := 11) (N := some 9) (v := ?_) (a' := ?_) #[true, true, true, true, true, true, true, true, true, true, true, true] rfl rfl (any_of HT_.out (by kernel_rfl)) (fun _ _ _ h => h) (Or.inl ⟨by rfl, ?_⟩) ?_ ?_
 rotate_left
 ·
  intro w'
  go_simp
  with_reducible rfl
 rotate_left
 ·
  simp only [Act.put, List.setIfInBounds_toArray, List.set_cons_zero, List.set_cons_succ, i64_w, i32_w]
  rfl
 refine done_ (done_of HT_.out (by kernel_rfl)) ?_
 have hnb34 := NB258_285.out
 have hnc34 := NB285_258.out
 obtain ⟨hcz35_0, hcz35_1, hcz35_2, hfz35_0, hfz35_1, hfz35_2⟩ := cz3_ BK258.out
 try go_wp2_with (first | ((with_reducible refine gate_callee (f := 7) rfl ?_); refine goesL_ (some 33) rfl rfl Try.func7 (by kernel_rfl) rfl #[.agg #[.int .i64 a1_0, .slice A1_1 l1_1.length c1_1, .int .i64 a1_2]] rfl gm_ ?_; (with_reducible refine (laws_toBreaker.calls k a1_0 _ _ l1_1 a1_2 t286 t287 t290 _ ?side1 ?side2 A14.out).mono ?_); (case side1 => exact Kd.C_below HR1_1.out (be_ HB.out)); (case side2 => exact HC1_1.out); rintro e w36 ⟨v288, rfl, ho0, hb⟩; refine ⟨_, rfl, ?_⟩; have n0_ := Aside0.mk (Kd.R_elder' (by (with_reducible repeat (first | apply Kd.R_alloc | apply Kd.R_drewN | apply Kd.R_drew)); exact (Kd.R_mono (Kd.R_far (p := ⟨gb285, 2, none⟩) (Kd.R_far (p := ⟨gb285, 1, none⟩) (Kd.R_far (p := ⟨gb285, 0, none⟩) (Kd.R_types HO277.out BK285.out (by decide)) (fun _ hk => hk.2) (.int .i64 t279)) (fun _ hk => hk.2) (.slice Ao31 t280.length co31)) (fun _ hk => hk.2) (.int .i64 t283)) (fun _ h_ => h_.1))) (Kd.R_base ho0) hb); have n1_ := Aside0.mk (Kd.R_elder' (by (with_reducible repeat (first | apply Kd.R_alloc | apply Kd.R_drewN | apply Kd.R_drew)); exact (Kd.R_mono (Kd.R_far (p := ⟨gb285, 2, none⟩) (Kd.R_far (p := ⟨gb285, 1, none⟩) (Kd.R_far (p := ⟨gb285, 0, none⟩) (Kd.R_types HO282.out BK285.out (by decide)) (fun _ hk => hk.2) (.int .i64 t279)) (fun _ hk => hk.2) (.slice Ao31 t280.length co31)) (fun _ hk => hk.2) (.int .i64 t283)) (fun _ h_ => h_.1))) (Kd.R_base ho0) hb); have n2_ := Aside0.mk (Kd.R_lower (Kd.R_new' (Kd.R_new' ho0 (Kd.R_lt (by (with_reducible repeat (first | apply Kd.R_alloc | apply Kd.R_drewN | apply Kd.R_drew)); exact (Kd.R_mono (Kd.R_far (p := ⟨gb285, 2, none⟩) (Kd.R_far (p := ⟨gb285, 1, none⟩) (Kd.R_far (p := ⟨gb285, 0, none⟩) (Kd.R_types HO277.out BK285.out (by decide)) (fun _ hk => hk.2) (.int .i64 t279)) (fun _ hk => hk.2) (.slice Ao31 t280.length co31)) (fun _ hk => hk.2) (.int .i64 t283)) (fun _ h_ => h_.1))))) (Kd.R_lt (by (with_reducible repeat (first | apply Kd.R_alloc | apply Kd.R_drewN | apply Kd.R_drew)); exact (Kd.R_mono (Kd.R_far (p := ⟨gb285, 2, none⟩) (Kd.R_far (p := ⟨gb285, 1, none⟩) (Kd.R_far (p := ⟨gb285, 0, none⟩) (Kd.R_types HO282.out BK285.out (by decide)) (fun _ hk => hk.2) (.int .i64 t279)) (fun _ hk => hk.2) (.slice Ao31 t280.length co31)) (fun _ hk => hk.2) (.int .i64 t283)) (fun _ h_ => h_.1))))) (below_size (be_ HB.out))); have n3_ := Aside0.mk (blk_below (g := gb257) (o := .cells #[.int .i64 a0_0, .int .i64 a0_1, .int .i64 a0_2, .int .i64 a0_3, .int .i64 a0_4, .int .i64 a0_5, .int .i64 a0_6, .int .i64 a0_7, .int .i64 a0_8, .int .i64 a0_9, .int .i64 a0_10, .int .i64 a0_11, .int .i64 a0_12, .int .i64 a0_13] 23 (0, 0)) (by refine bl_ ?_; refine blk_far ?_ NB257_285.out _; refine bl_ ?_; refine blk_far ?_ NB257_285.out _; refine bl_ ?_; refine blk_far ?_ NB257_285.out _; refine bl_ ?_; exact BK257.out) hb); have n4_ := Aside0.mk (blk_below (g := gb258) (o := .cells #[.int .i64 a1_0, .slice A1_1 l1_1.length c1_1, .int .i64 a1_2] 26 (0, 0)) (by refine bl_ ?_; refine blk_far ?_ NB258_285.out _; refine bl_ ?_; refine blk_far ?_ NB258_285.out _; refine bl_ ?_; refine blk_far ?_ NB258_285.out _; refine bl_ ?_; exact BK258.out) hb); have n5_ := Aside0.mk (blk_below (g := gb285) (o := .cells #[.int .i64 t279, .slice Ao31 t280.length co31, .int .i64 t283] 28 (0, 0)) (by refine bl_ ?_; refine blk_put (cs := #[.int .i64 t279, .slice Ao31 t280.length co31, .int .i64 0]) ?_ 2 _ rfl; refine bl_ ?_; refine blk_put (cs := #[.int .i64 t279, .slice none 0 0, .int .i64 0]) ?_ 1 _ rfl; refine bl_ ?_; refine blk_put (cs := #[.int .i64 0, .slice none 0 0, .int .i64 0]) ?_ 0 _ rfl; refine bl_ ?_; exact BK285.out) hb); have n6_ := Aside0.mk (below_step (be_ HB.out) hb); clear HO277 HO282 BK257 BK258 BK285 HB; have HO277 := n0_; have HO282 := n1_; have HO289 := n2_; have BK257 := n3_; have BK258 := n4_; have BK285 := n5_; have HB := n6_; clear n0_ n1_ n2_ n3_ n4_ n5_ n6_; (try clear hb); (try clear hb2); (try clear hk); (try clear hi); (try clear ho0)) | ((with_reducible refine gate_dst (N := 10) rfl ?_); refine box_event ?hg (N := 10) ?hd (cs := #[.int .i64 0, .slice none 0 0, .int .i64 0]) (t := 28) ?hr ?_; (case hd => rfl); (case hg => rfl); (case hr => first | (go_simp; done) | (go_simp; rfl)); intro gb291 hg w37 hbox hb; have n0_ := Aside0.mk (Kd.R_below (ro_ HO277.out) hb); have n1_ := Aside0.mk (Kd.R_below (ro_ HO282.out) hb); have n2_ := Aside0.mk (Kd.R_below (ro_ HO289.out) hb); have n3_ := Aside0.mk (blk_below (bl_ BK257.out) hb); have n4_ := Aside0.mk (blk_below (bl_ BK258.out) hb); have n5_ := Aside0.mk (blk_below (bl_ BK285.out) hb); have n6_ := Aside0.mk (below_step (be_ HB.out) hb); have n7_ := Aside0.mk (hbox); have n8_ := Aside0.mk (gs_ hg (be_ HB.out)); have n9_ := Aside0.mk (gs_ hg (be_ HB.out)); have n10_ := Aside0.mk (nl_ hg (bl_ BK257.out)); have n11_ := Aside0.mk (ng_ hg (bl_ BK257.out)); have n12_ := Aside0.mk (nl_ hg (bl_ BK258.out)); have n13_ := Aside0.mk (ng_ hg (bl_ BK258.out)); have n14_ := Aside0.mk (nl_ hg (bl_ BK285.out)); have n15_ := Aside0.mk (ng_ hg (bl_ BK285.out)); clear HO277 HO282 HO289 BK257 BK258 BK285 HB; have HO277 := n0_; have HO282 := n1_; have HO289 := n2_; have BK257 := n3_; have BK258 := n4_; have BK285 := n5_; have HB := n6_; have BK291 := n7_; have GW291 := n8_; have GE291 := n9_; have NB257_291 := n10_; have NB291_257 := n11_; have NB258_291 := n12_; have NB291_258 := n13_; have NB285_291 := n14_; have NB291_285 := n15_; clear n0_ n1_ n2_ n3_ n4_ n5_ n6_ n7_ n8_ n9_ n10_ n11_ n12_ n13_ n14_ n15_; clear hb hbox hg; have hnb38 := NB291_257.out; have hnc38 := NB257_291.out; have hnb39 := NB291_258.out; have hnc39 := NB258_291.out; have hnb40 := NB291_285.out; have hnc40 := NB285_291.out; obtain ⟨hcz41_0, hcz41_1, hcz41_2, hfz41_0, hfz41_1, hfz41_2⟩ := cz3_ BK291.out; obtain ⟨Ao42, co42, eo42⟩ := Kd.R_slice HO289.out; subst eo42))
 have n0_ : Aside0 (Kd.R (Kd.int .i64) 3 (((w37.setCell ⟨gb291, 0, none⟩ (.int .i64 t286)).setCell ⟨gb291, 1, none⟩ (.slice Ao42 t287.length co42)).setCell ⟨gb291, 2, none⟩ (.int .i64 t290)) w.heap.size (fun k_ => some k_ ≠ (.slice Ao31 t280.length co31 : Value).ownBlock ∧ some k_ ≠ (.slice Ao42 t287.length co42 : Value).ownBlock) v276 t275) := ⟨by (with_reducible repeat (first | apply Kd.R_alloc | apply Kd.R_drewN | apply Kd.R_drew)); exact Kd.R_mono (Kd.R_far (p := ⟨gb291, 2, none⟩) (Kd.R_far (p := ⟨gb291, 1, none⟩) (Kd.R_far (p := ⟨gb291, 0, none⟩) (Kd.R_types HO277.out BK291.out (by decide)) (fun _ hk => hk.2) (.int .i64 t286)) (fun _ hk => hk.2) (.slice Ao42 t287.length co42)) (fun _ hk => hk.2) (.int .i64 t290)) (fun _ hk => ⟨hk.1.1, hk.1.2⟩)⟩
 have n1_ : Aside0 (Kd.R (Kd.int .i64) 3 (((w37.setCell ⟨gb291, 0, none⟩ (.int .i64 t286)).setCell ⟨gb291, 1, none⟩ (.slice Ao42 t287.length co42)).setCell ⟨gb291, 2, none⟩ (.int .i64 t290)) w.heap.size (fun k_ => some k_ ≠ (v276 : Value).ownBlock ∧ some k_ ≠ (.slice Ao42 t287.length co42 : Value).ownBlock) (.slice Ao31 t280.length co31) t280) := ⟨by (with_reducible repeat (first | apply Kd.R_alloc | apply Kd.R_drewN | apply Kd.R_drew)); exact Kd.R_mono (Kd.R_far (p := ⟨gb291, 2, none⟩) (Kd.R_far (p := ⟨gb291, 1, none⟩) (Kd.R_far (p := ⟨gb291, 0, none⟩) (Kd.R_types HO282.out BK291.out (by decide)) (fun _ hk => hk.2) (.int .i64 t286)) (fun _ hk => hk.2) (.slice Ao42 t287.length co42)) (fun _ hk => hk.2) (.int .i64 t290)) (fun _ hk => ⟨hk.1.1, hk.1.2⟩)⟩
 have n2_ : Aside0 (Kd.R (Kd.int .i64) 3 (((w37.setCell ⟨gb291, 0, none⟩ (.int .i64 t286)).setCell ⟨gb291, 1, none⟩ (.slice Ao42 t287.length co42)).setCell ⟨gb291, 2, none⟩ (.int .i64 t290)) w.heap.size (fun k_ => some k_ ≠ (v276 : Value).ownBlock ∧ some k_ ≠ (.slice Ao31 t280.length co31 : Value).ownBlock) (.slice Ao42 t287.length co42) t287) := ⟨by (with_reducible repeat (first | apply Kd.R_alloc | apply Kd.R_drewN | apply Kd.R_drew)); exact Kd.R_mono (Kd.R_far (p := ⟨gb291, 2, none⟩) (Kd.R_far (p := ⟨gb291, 1, none⟩) (Kd.R_far (p := ⟨gb291, 0, none⟩) (Kd.R_types HO289.out BK291.out (by decide)) (fun _ hk => hk.2) (.int .i64 t286)) (fun _ hk => hk.2) (.slice Ao42 t287.length co42)) (fun _ hk => hk.2) (.int .i64 t290)) (fun _ hk => ⟨hk.1.1.2, hk.1.2⟩)⟩
 have n3_ : Aside0 ((((w37.setCell ⟨gb291, 0, none⟩ (.int .i64 t286)).setCell ⟨gb291, 1, none⟩ (.slice Ao42 t287.length co42)).setCell ⟨gb291, 2, none⟩ (.int .i64 t290)).heap[gb257]? = some (.cells #[.int .i64 a0_0, .int .i64 a0_1, .int .i64 a0_2, .int .i64 a0_3, .int .i64 a0_4, .int .i64 a0_5, .int .i64 a0_6, .int .i64 a0_7, .int .i64 a0_8, .int .i64 a0_9, .int .i64 a0_10, .int .i64 a0_11, .int .i64 a0_12, .int .i64 a0_13] 23 (0, 0))) := ⟨by refine bl_ ?_; refine blk_far ?_ NB257_291.out _; refine bl_ ?_; refine blk_far ?_ NB257_291.out _; refine bl_ ?_; refine blk_far ?_ NB257_291.out _; refine bl_ ?_; exact BK257.out⟩
 have n4_ : Aside0 ((((w37.setCell ⟨gb291, 0, none⟩ (.int .i64 t286)).setCell ⟨gb291, 1, none⟩ (.slice Ao42 t287.length co42)).setCell ⟨gb291, 2, none⟩ (.int .i64 t290)).heap[gb258]? = some (.cells #[.int .i64 a1_0, .slice A1_1 l1_1.length c1_1, .int .i64 a1_2] 26 (0, 0))) := ⟨by refine bl_ ?_; refine blk_far ?_ NB258_291.out _; refine bl_ ?_; refine blk_far ?_ NB258_291.out _; refine bl_ ?_; refine blk_far ?_ NB258_291.out _; refine bl_ ?_; exact BK258.out⟩
 have n5_ : Aside0 ((((w37.setCell ⟨gb291, 0, none⟩ (.int .i64 t286)).setCell ⟨gb291, 1, none⟩ (.slice Ao42 t287.length co42)).setCell ⟨gb291, 2, none⟩ (.int .i64 t290)).heap[gb285]? = some (.cells #[.int .i64 t279, .slice Ao31 t280.length co31, .int .i64 t283] 28 (0, 0))) := ⟨by refine bl_ ?_; refine blk_far ?_ NB285_291.out _; refine bl_ ?_; refine blk_far ?_ NB285_291.out _; refine bl_ ?_; refine blk_far ?_ NB285_291.out _; refine bl_ ?_; exact BK285.out⟩
 have n6_ : Aside0 ((((w37.setCell ⟨gb291, 0, none⟩ (.int .i64 t286)).setCell ⟨gb291, 1, none⟩ (.slice Ao42 t287.length co42)).setCell ⟨gb291, 2, none⟩ (.int .i64 t290)).heap[gb291]? = some (.cells #[.int .i64 t286, .slice Ao42 t287.length co42, .int .i64 t290] 28 (0, 0))) := ⟨by refine bl_ ?_; refine blk_put (cs := #[.int .i64 t286, .slice Ao42 t287.length co42, .int .i64 0]) ?_ 2 _ rfl; refine bl_ ?_; refine blk_put (cs := #[.int .i64 t286, .slice none 0 0, .int .i64 0]) ?_ 1 _ rfl; refine bl_ ?_; refine blk_put (cs := #[.int .i64 0, .slice none 0 0, .int .i64 0]) ?_ 0 _ rfl; refine bl_ ?_; exact BK291.out⟩
 have n7_ : Aside0 (Below w.heap.size w (((w37.setCell ⟨gb291, 0, none⟩ (.int .i64 t286)).setCell ⟨gb291, 1, none⟩ (.slice Ao42 t287.length co42)).setCell ⟨gb291, 2, none⟩ (.int .i64 t290))) := ⟨be_ HB.out⟩
 (try clear HO277)
 (try clear HO282)
 (try clear HO289)
 (try clear BK257)
 (try clear BK258)
 (try clear BK285)
 (try clear BK291)
 (try clear HB)
 generalize (((w37.setCell ⟨gb291, 0, none⟩ (.int .i64 t286)).setCell ⟨gb291, 1, none⟩ (.slice Ao42 t287.length co42)).setCell ⟨gb291, 2, none⟩ (.int .i64 t290)) = w43 at n0_ n1_ n2_ n3_ n4_ n5_ n6_ n7_ ⊢
 have HO277 := n0_
 have HO282 := n1_
 have HO289 := n2_
 have BK257 := n3_
 have BK258 := n4_
 have BK285 := n5_
 have BK291 := n6_
 have HB := n7_
 clear n0_ n1_ n2_ n3_ n4_ n5_ n6_ n7_
 have n0_ := Aside0.mk (Kd.R_drew HO277.out)
 have n1_ := Aside0.mk (Kd.R_drew HO282.out)
 have n2_ := Aside0.mk (Kd.R_drew HO289.out)
 have n3_ := Aside0.mk (blk_drew BK257.out)
 have n4_ := Aside0.mk (blk_drew BK258.out)
 have n5_ := Aside0.mk (blk_drew BK285.out)
 have n6_ := Aside0.mk (blk_drew BK291.out)
 have n7_ := Aside0.mk (below_drew1 HB.out)
 clear HO277 HO282 HO289 BK257 BK258 BK285 BK291 HB
 have HO277 := n0_
 have HO282 := n1_
 have HO289 := n2_
 have BK257 := n3_
 have BK258 := n4_
 have BK285 := n5_
 have BK291 := n6_
 have HB := n7_
 clear n0_ n1_ n2_ n3_ n4_ n5_ n6_ n7_
 refine start_ (n := 11) (S := fun w' => w'.cell? ⟨gb257, 0, none⟩ = some (.int .i64 a0_0) ∧ w'.cell? ⟨gb257, 1, none⟩ = some (.int .i64 a0_1) ∧ w'.cell? ⟨gb257, 2, none⟩ = some (.int .i64 a0_2) ∧ w'.cell? ⟨gb257, 3, none⟩ = some (.int .i64 a0_3) ∧ w'.cell? ⟨gb257, 4, none⟩ = some (.int .i64 a0_4) ∧ w'.cell? ⟨gb257, 5, none⟩ = some (.int .i64 a0_5) ∧ w'.cell? ⟨gb257, 6, none⟩ = some (.int .i64 a0_6) ∧ w'.cell? ⟨gb257, 7, none⟩ = some (.int .i64 a0_7) ∧ w'.cell? ⟨gb257, 8, none⟩ = some (.int .i64 a0_8) ∧ w'.cell? ⟨gb257, 9, none⟩ = some (.int .i64 a0_9) ∧ w'.cell? ⟨gb257, 10, none⟩ = some (.int .i64 a0_10) ∧ w'.cell? ⟨gb257, 11, none⟩ = some (.int .i64 a0_11) ∧ w'.cell? ⟨gb257, 12, none⟩ = some (.int .i64 a0_12) ∧ w'.cell? ⟨gb257, 13, none⟩ = some (.int .i64 a0_13) ∧ w'.cell? ⟨gb291, 0, none⟩ = some (.int .i64 t286) ∧ w'.cell? ⟨gb291, 1, none⟩ = some (.slice Ao42 t287.length co42) ∧ w'.cell? ⟨gb291, 2, none⟩ = some (.int .i64 t290)) (ds := []) #[false, false, false, false, false, false, false, false, false, false, false] (by kernel_rfl) rfl rfl (ck14_ BK257.out (ce3_ BK291.out)) (fun hHeld => ?_); refine with_tabW laws_FnExactOnFailure.tab7 laws_FnExactOnFailure.bits7 (fun HT_ HW_ => ?_)
 generalize w43.drew = w44 at HO277 HO282 HO289 BK257 BK258 BK285 BK291 HB hHeld ⊢
 refine pure_ (i := 3) (N := some 38) (v := ?_) (a' := ?_) #[false, false, false, true, false, false, false, false, false, false, false] rfl rfl (any_of HT_.out (by kernel_rfl)) (fun _ _ _ h => h) (Or.inl ⟨by rfl, ?_⟩) ?_ ?_
 rotate_left
 ·
  intro w'
  go_simp
  with_reducible rfl
 rotate_left
 ·
  simp only [Act.put, List.setIfInBounds_toArray, List.set_cons_zero, List.set_cons_succ, i64_w, i32_w]
  rfl
 refine take_ (i := 0) (N := some 35) (v := ?_) (a' := ?_) #[true, false, false, true, false, false, false, false, false, false, false] rfl rfl (take_ofW HT_.out HW_.out (by kernel_rfl)) (fun _ _ _ h => h) (Or.inl ⟨by rfl, ?_⟩) hHeld ?_ ?_
 rotate_left
 ·
  rintro w' ⟨s0, s1, s2, s3, s4, s5, s6, s7, s8, s9, s10, s11, s12, s13, s14, s15, s16⟩
  go_simp
  with_reducible rfl
 rotate_left
 ·
  simp only [Act.put, List.setIfInBounds_toArray, List.set_cons_zero, List.set_cons_succ, i64_w, i32_w]
  rfl
 refine take_ (i := 2) (N := some 37) (v := ?_) (a' := ?_) #[true, false, true, true, false, false, false, false, false, false, false] rfl rfl (take_ofW HT_.out HW_.out (by kernel_rfl)) (fun _ _ _ h => h) (Or.inl ⟨by rfl, ?_⟩) hHeld ?_ ?_
 rotate_left
 ·
  rintro w' ⟨s0, s1, s2, s3, s4, s5, s6, s7, s8, s9, s10, s11, s12, s13, s14, s15, s16⟩
  go_simp
  with_reducible rfl
 rotate_left
 ·
  simp only [Act.put, List.setIfInBounds_toArray, List.set_cons_zero, List.set_cons_succ, i64_w, i32_w]
  rfl
 refine join_ (σ := Value × Nat) 2 #[true, true, true, true, true, true, true, true, true, false, false] (fun s_ => [(36, .agg #[.int .i64 t292, .int .i64 t293, .int .i64 t294, .int .i64 t295, .int .i64 t296, .int .i64 t297, .int .i64 t298, .int .i64 t299, .int .i64 t300, .int .i64 t301, .int .i64 t302, .int .i64 t303, .int .i64 t304, .int .i64 t305]), (39, .tuple #[.agg #[.int .i64 t306, s_.1, .int .i64 t310], .bool t311]), (11, .pointer (some ⟨s_.2, 0, none⟩)), (34, .tuple #[.agg #[.int .i64 t306, s_.1, .int .i64 t310], .bool t311]), (40, .agg #[.int .i64 t306, s_.1, .int .i64 t310]), (41, .bool t311)]) (fun s_ w' => (w'.cell? ⟨gb257, 0, none⟩ = some (.int .i64 a0_0) ∧ w'.cell? ⟨gb257, 1, none⟩ = some (.int .i64 a0_1) ∧ w'.cell? ⟨gb257, 2, none⟩ = some (.int .i64 a0_2) ∧ w'.cell? ⟨gb257, 3, none⟩ = some (.int .i64 a0_3) ∧ w'.cell? ⟨gb257, 4, none⟩ = some (.int .i64 a0_4) ∧ w'.cell? ⟨gb257, 5, none⟩ = some (.int .i64 a0_5) ∧ w'.cell? ⟨gb257, 6, none⟩ = some (.int .i64 a0_6) ∧ w'.cell? ⟨gb257, 7, none⟩ = some (.int .i64 a0_7) ∧ w'.cell? ⟨gb257, 8, none⟩ = some (.int .i64 a0_8) ∧ w'.cell? ⟨gb257, 9, none⟩ = some (.int .i64 a0_9) ∧ w'.cell? ⟨gb257, 10, none⟩ = some (.int .i64 a0_10) ∧ w'.cell? ⟨gb257, 11, none⟩ = some (.int .i64 a0_11) ∧ w'.cell? ⟨gb257, 12, none⟩ = some (.int .i64 a0_12) ∧ w'.cell? ⟨gb257, 13, none⟩ = some (.int .i64 a0_13) ∧ w'.cell? ⟨gb291, 0, none⟩ = some (.int .i64 t286) ∧ w'.cell? ⟨gb291, 1, none⟩ = some (.slice Ao42 t287.length co42) ∧ w'.cell? ⟨gb291, 2, none⟩ = some (.int .i64 t290)) ∧ (Kd.R (Kd.int .i64) 3 w' w.heap.size (fun k_ => some k_ ≠ (.slice Ao31 t280.length co31 : Value).ownBlock ∧ some k_ ≠ (.slice Ao42 t287.length co42 : Value).ownBlock ∧ some k_ ≠ (s_.1 : Value).ownBlock) v276 t275) ∧ (Kd.R (Kd.int .i64) 3 w' w.heap.size (fun k_ => some k_ ≠ (v276 : Value).ownBlock ∧ some k_ ≠ (.slice Ao42 t287.length co42 : Value).ownBlock ∧ some k_ ≠ (s_.1 : Value).ownBlock) (.slice Ao31 t280.length co31) t280) ∧ (Kd.R (Kd.int .i64) 3 w' w.heap.size (fun k_ => some k_ ≠ (v276 : Value).ownBlock ∧ some k_ ≠ (.slice Ao31 t280.length co31 : Value).ownBlock ∧ some k_ ≠ (s_.1 : Value).ownBlock) (.slice Ao42 t287.length co42) t287) ∧ (Kd.R (Kd.int .i64) 3 w' w.heap.size (fun k_ => some k_ ≠ (v276 : Value).ownBlock ∧ some k_ ≠ (.slice Ao31 t280.length co31 : Value).ownBlock ∧ some k_ ≠ (.slice Ao42 t287.length co42 : Value).ownBlock) s_.1 t307) ∧ (w'.heap[gb257]? = some (.cells #[.int .i64 a0_0, .int .i64 a0_1, .int .i64 a0_2, .int .i64 a0_3, .int .i64 a0_4, .int .i64 a0_5, .int .i64 a0_6, .int .i64 a0_7, .int .i64 a0_8, .int .i64 a0_9, .int .i64 a0_10, .int .i64 a0_11, .int .i64 a0_12, .int .i64 a0_13] 23 (0, 0))) ∧ (w'.heap[gb258]? = some (.cells #[.int .i64 a1_0, .slice A1_1 l1_1.length c1_1, .int .i64 a1_2] 26 (0, 0))) ∧ (w'.heap[gb285]? = some (.cells #[.int .i64 t279, .slice Ao31 t280.length co31, .int .i64 t283] 28 (0, 0))) ∧ (w'.heap[gb291]? = some (.cells #[.int .i64 t286, .slice Ao42 t287.length co42, .int .i64 t290] 28 (0, 0))) ∧ (w'.heap[s_.2]? = some (.cells #[.int .i64 0, .slice none 0 0, .int .i64 0] 28 (0, 0))) ∧ (w.heap.size ≤ s_.2) ∧ (w.heap.size ≤ s_.2) ∧ (gb257 ≠ s_.2) ∧ (s_.2 ≠ gb257) ∧ (gb258 ≠ s_.2) ∧ (s_.2 ≠ gb258) ∧ (gb285 ≠ s_.2) ∧ (s_.2 ≠ gb285) ∧ (gb291 ≠ s_.2) ∧ (s_.2 ≠ gb291) ∧ (Below w.heap.size w w')) ?_ ?_
 rotate_left
 ·
  intro hCont
  refine two_ (i := 1) (j := 8) (Ni := some 36) (Nj := some 11) #[true, true, true, true, false, false, false, false, false, false, false] #[true, false, true, true, false, false, false, false, true, false, false] rfl rfl rfl rfl (two_of HT_.out (by kernel_rfl)) (by decide) (by decide) (fun K hK => ?_) (fun K hK => ?_)
  ·
   skip
   refine goes_ Try.func6 (by kernel_rfl) rfl #[.agg #[.int .i64 a0_0, .int .i64 a0_1, .int .i64 a0_2, .int .i64 a0_3, .int .i64 a0_4, .int .i64 a0_5, .int .i64 a0_6, .int .i64 a0_7, .int .i64 a0_8, .int .i64 a0_9, .int .i64 a0_10, .int .i64 a0_11, .int .i64 a0_12, .int .i64 a0_13]] (by rfl) rfl rfl gm_ ?_
   with_reducible refine (laws_toConfig.calls a0_0 a0_1 a0_2 a0_3 a0_4 a0_5 a0_6 a0_7 a0_8 a0_9 a0_10 a0_11 a0_12 a0_13 t292 t293 t294 t295 t296 t297 t298 t299 t300 t301 t302 t303 t304 t305 _ A15.out).mono ?_
   rintro e w45 ⟨rfl, hb⟩
   refine ⟨_, rfl, ?_⟩
   have n0_ := Aside0.mk (Kd.R_below (ro_ HO277.out) hb)
   have n1_ := Aside0.mk (Kd.R_below (ro_ HO282.out) hb)
   have n2_ := Aside0.mk (Kd.R_below (ro_ HO289.out) hb)
   have n3_ := Aside0.mk (blk_below (bl_ BK257.out) hb)
   have n4_ := Aside0.mk (blk_below (bl_ BK258.out) hb)
   have n5_ := Aside0.mk (blk_below (bl_ BK285.out) hb)
   have n6_ := Aside0.mk (blk_below (bl_ BK291.out) hb)
   have n7_ := Aside0.mk (below_step (be_ HB.out) hb)
   clear HO277 HO282 HO289 BK257 BK258 BK285 BK291 HB
   have HO277 := n0_
   have HO282 := n1_
   have HO289 := n2_
   have BK257 := n3_
   have BK258 := n4_
   have BK285 := n5_
   have BK291 := n6_
   have HB := n7_
   clear n0_ n1_ n2_ n3_ n4_ n5_ n6_ n7_
   (try clear hb)
   (try clear hb2)
   (try clear hk)
   (try clear hi)
   refine hK.out _ _ (ck14_ BK257.out (ce3_ BK291.out)) (fun hHeld => ?_)
   clear hK K
   refine norm_ (a' := ?_) ?_ ?_
   rotate_left
   ·
    show Act.put _ (some 36) _ = _
    simp only [Act.put, List.setIfInBounds_toArray, List.set_cons_zero, List.set_cons_succ, i64_w, i32_w]
    rfl
   refine two_ (i := 4) (j := 8) (Ni := some 39) (Nj := some 11) #[true, true, true, true, true, false, false, false, false, false, false] #[true, true, true, true, false, false, false, false, true, false, false] rfl rfl rfl rfl (two_of HT_.out (by kernel_rfl)) (by decide) (by decide) (fun K hK => ?_) (fun K hK => ?_)
   ·
    skip
    refine goes_ Try.func8 (by kernel_rfl) rfl #[.agg #[.int .i64 t292, .int .i64 t293, .int .i64 t294, .int .i64 t295, .int .i64 t296, .int .i64 t297, .int .i64 t298, .int .i64 t299, .int .i64 t300, .int .i64 t301, .int .i64 t302, .int .i64 t303, .int .i64 t304, .int .i64 t305], .agg #[.int .i64 t286, .slice Ao42 t287.length co42, .int .i64 t290], .int .i64 a2] (by rfl) rfl rfl gm_ ?_
    with_reducible refine (impl_OnFailure.calls k t292 t293 t294 t295 t296 t297 t298 t299 t300 t301 t302 t303 t304 t305 t286 _ _ t287 t290 a2 t306 t307 t310 t311 _ ?side1 ?side2 A16.out).mono ?_
    (case side1 => repeat (first | exact (Kd.R_reads' HO289.out).2.2 | (with_reducible refine Kd.C_alloc ?_ _) | (with_reducible refine Kd.C_drewN ?_ _) | (with_reducible refine Kd.C_drew ?_)))
    (case side2 => exact (Kd.R_reads' HO289.out).2.1)
    rintro e w46 ⟨v308, rfl, ho0, hb⟩
    refine ⟨_, rfl, ?_⟩
    have n0_ := Aside0.mk (Kd.R_elder' (ro_ HO277.out) (Kd.R_base ho0) hb)
    have n1_ := Aside0.mk (Kd.R_elder' (ro_ HO282.out) (Kd.R_base ho0) hb)
    have n2_ := Aside0.mk (Kd.R_elder' (ro_ HO289.out) (Kd.R_base ho0) hb)
    have n3_ := Aside0.mk (Kd.R_lower (Kd.R_new' (Kd.R_new' (Kd.R_new' ho0 (Kd.R_lt (ro_ HO277.out))) (Kd.R_lt (ro_ HO282.out))) (Kd.R_lt (ro_ HO289.out))) (below_size (be_ HB.out)))
    have n4_ := Aside0.mk (blk_below (bl_ BK257.out) hb)
    have n5_ := Aside0.mk (blk_below (bl_ BK258.out) hb)
    have n6_ := Aside0.mk (blk_below (bl_ BK285.out) hb)
    have n7_ := Aside0.mk (blk_below (bl_ BK291.out) hb)
    have n8_ := Aside0.mk (below_step (be_ HB.out) hb)
    clear HO277 HO282 HO289 BK257 BK258 BK285 BK291 HB
    have HO277 := n0_
    have HO282 := n1_
    have HO289 := n2_
    have HO309 := n3_
    have BK257 := n4_
    have BK258 := n5_
    have BK285 := n6_
    have BK291 := n7_
    have HB := n8_
    clear n0_ n1_ n2_ n3_ n4_ n5_ n6_ n7_ n8_
    (try clear hb)
    (try clear hb2)
    (try clear hk)
    (try clear hi)
    (try clear ho0)
    refine hK.out _ _ (ck14_ BK257.out (ce3_ BK291.out)) (fun hHeld => ?_)
    clear hK K
    refine norm_ (a' := ?_) ?_ ?_
    rotate_left
    ·
     show Act.put _ (some 39) _ = _
     simp only [Act.put, List.setIfInBounds_toArray, List.set_cons_zero, List.set_cons_succ, i64_w, i32_w]
     rfl
    refine pure_ (i := 5) (N := some 34) (v := ?_) (a' := ?_) #[true, true, true, true, true, true, false, false, false, false, false] rfl rfl (any_of HT_.out (by kernel_rfl)) (fun _ _ _ h => h) (Or.inl ⟨by rfl, ?_⟩) ?_ ?_
    rotate_left
    ·
     intro w'
     go_simp
     with_reducible rfl
    rotate_left
    ·
     simp only [Act.put, List.setIfInBounds_toArray, List.set_cons_zero, List.set_cons_succ, i64_w, i32_w]
     rfl
    refine pure_ (i := 6) (N := some 40) (v := ?_) (a' := ?_) #[true, true, true, true, true, true, true, false, false, false, false] rfl rfl (any_of HT_.out (by kernel_rfl)) (fun _ _ _ h => h) (Or.inl ⟨by rfl, ?_⟩) ?_ ?_
    rotate_left
    ·
     intro w'
     go_simp
     with_reducible rfl
    rotate_left
    ·
     simp only [Act.put, List.setIfInBounds_toArray, List.set_cons_zero, List.set_cons_succ, i64_w, i32_w]
     rfl
    refine pure_ (i := 7) (N := some 41) (v := ?_) (a' := ?_) #[true, true, true, true, true, true, true, true, false, false, false] rfl rfl (any_of HT_.out (by kernel_rfl)) (fun _ _ _ h => h) (Or.inl ⟨by rfl, ?_⟩) ?_ ?_
    rotate_left
    ·
     intro w'
     go_simp
     with_reducible rfl
    rotate_left
    ·
     simp only [Act.put, List.setIfInBounds_toArray, List.set_cons_zero, List.set_cons_succ, i64_w, i32_w]
     rfl
    refine one_ (i := 8) (N := some 11) #[true, true, true, true, true, true, true, true, true, false, false] rfl rfl (one_of HT_.out (by kernel_rfl)) (by decide) (fun K hK => ?_)
    refine box_step ?hg (N := 11) ?hd (cs := #[.int .i64 0, .slice none 0 0, .int .i64 0]) (t := 28) ?hr ?_; (case hd => rfl); (case hg => rfl); (case hr => first | (go_simp; done) | (go_simp; rfl))
    intro gb312 hg w47 hbox hb
    have n0_ := Aside0.mk (Kd.R_below (ro_ HO277.out) hb)
    have n1_ := Aside0.mk (Kd.R_below (ro_ HO282.out) hb)
    have n2_ := Aside0.mk (Kd.R_below (ro_ HO289.out) hb)
    have n3_ := Aside0.mk (Kd.R_below (ro_ HO309.out) hb)
    have n4_ := Aside0.mk (blk_below (bl_ BK257.out) hb)
    have n5_ := Aside0.mk (blk_below (bl_ BK258.out) hb)
    have n6_ := Aside0.mk (blk_below (bl_ BK285.out) hb)
    have n7_ := Aside0.mk (blk_below (bl_ BK291.out) hb)
    have n8_ := Aside0.mk (below_step (be_ HB.out) hb)
    have n9_ := Aside0.mk (hbox)
    have n10_ := Aside0.mk (gs_ hg (be_ HB.out))
    have n11_ := Aside0.mk (gs_ hg (be_ HB.out))
    have n12_ := Aside0.mk (nl_ hg (bl_ BK257.out))
    have n13_ := Aside0.mk (ng_ hg (bl_ BK257.out))
    have n14_ := Aside0.mk (nl_ hg (bl_ BK258.out))
    have n15_ := Aside0.mk (ng_ hg (bl_ BK258.out))
    have n16_ := Aside0.mk (nl_ hg (bl_ BK285.out))
    have n17_ := Aside0.mk (ng_ hg (bl_ BK285.out))
    have n18_ := Aside0.mk (nl_ hg (bl_ BK291.out))
    have n19_ := Aside0.mk (ng_ hg (bl_ BK291.out))
    clear HO277 HO282 HO289 HO309 BK257 BK258 BK285 BK291 HB
    have HO277 := n0_
    have HO282 := n1_
    have HO289 := n2_
    have HO309 := n3_
    have BK257 := n4_
    have BK258 := n5_
    have BK285 := n6_
    have BK291 := n7_
    have HB := n8_
    have BK312 := n9_
    have GW312 := n10_
    have GE312 := n11_
    have NB257_312 := n12_
    have NB312_257 := n13_
    have NB258_312 := n14_
    have NB312_258 := n15_
    have NB285_312 := n16_
    have NB312_285 := n17_
    have NB291_312 := n18_
    have NB312_291 := n19_
    clear n0_ n1_ n2_ n3_ n4_ n5_ n6_ n7_ n8_ n9_ n10_ n11_ n12_ n13_ n14_ n15_ n16_ n17_ n18_ n19_
    clear hb hbox hg
    refine hK.out _ _ (ck14_ BK257.out (ce3_ BK291.out)) (fun hHeld => ?_)
    clear hK K
    refine norm_ (a' := ?_) ?_ ?_
    rotate_left
    ·
     show Act.put _ (some 11) _ = _
     simp only [Act.put, List.setIfInBounds_toArray, List.set_cons_zero, List.set_cons_succ, i64_w, i32_w]
     rfl
    exact norm_ (by simp only [putAll, Act.put, List.setIfInBounds_toArray, List.set_cons_zero, List.set_cons_succ]) (hCont (v308, gb312) _ ⟨hHeld, (by (with_reducible repeat (first | apply Kd.R_alloc | apply Kd.R_drewN | apply Kd.R_drew)); exact Kd.R_mono HO277.out (fun _ hk => ⟨hk.1.1, ⟨hk.1.2, hk.2⟩⟩)), (by (with_reducible repeat (first | apply Kd.R_alloc | apply Kd.R_drewN | apply Kd.R_drew)); exact Kd.R_mono HO282.out (fun _ hk => ⟨hk.1.1, ⟨hk.1.2, hk.2⟩⟩)), (by (with_reducible repeat (first | apply Kd.R_alloc | apply Kd.R_drewN | apply Kd.R_drew)); exact Kd.R_mono HO289.out (fun _ hk => ⟨hk.1.1, ⟨hk.1.2, hk.2⟩⟩)), (by (with_reducible repeat (first | apply Kd.R_alloc | apply Kd.R_drewN | apply Kd.R_drew)); exact Kd.R_mono HO309.out (fun _ hk => ⟨hk.1.1.2, ⟨hk.1.2, hk.2⟩⟩)), (bl_ BK257.out), (bl_ BK258.out), (bl_ BK285.out), (bl_ BK291.out), (bl_ BK312.out), GW312.out, GE312.out, NB257_312.out, NB312_257.out, NB258_312.out, NB312_258.out, NB285_312.out, NB312_285.out, NB291_312.out, NB312_291.out, (be_ HB.out)⟩)
   skip
   refine box_step ?hg (N := 11) ?hd (cs := #[.int .i64 0, .slice none 0 0, .int .i64 0]) (t := 28) ?hr ?_; (case hd => rfl); (case hg => rfl); (case hr => first | (go_simp; done) | (go_simp; rfl))
   intro gb312 hg w46 hbox hb
   have n0_ := Aside0.mk (Kd.R_below (ro_ HO277.out) hb)
   have n1_ := Aside0.mk (Kd.R_below (ro_ HO282.out) hb)
   have n2_ := Aside0.mk (Kd.R_below (ro_ HO289.out) hb)
   have n3_ := Aside0.mk (blk_below (bl_ BK257.out) hb)
   have n4_ := Aside0.mk (blk_below (bl_ BK258.out) hb)
   have n5_ := Aside0.mk (blk_below (bl_ BK285.out) hb)
   have n6_ := Aside0.mk (blk_below (bl_ BK291.out) hb)
   have n7_ := Aside0.mk (below_step (be_ HB.out) hb)
   have n8_ := Aside0.mk (hbox)
   have n9_ := Aside0.mk (gs_ hg (be_ HB.out))
   have n10_ := Aside0.mk (gs_ hg (be_ HB.out))
   have n11_ := Aside0.mk (nl_ hg (bl_ BK257.out))
   have n12_ := Aside0.mk (ng_ hg (bl_ BK257.out))
   have n13_ := Aside0.mk (nl_ hg (bl_ BK258.out))
   have n14_ := Aside0.mk (ng_ hg (bl_ BK258.out))
   have n15_ := Aside0.mk (nl_ hg (bl_ BK285.out))
   have n16_ := Aside0.mk (ng_ hg (bl_ BK285.out))
   have n17_ := Aside0.mk (nl_ hg (bl_ BK291.out))
   have n18_ := Aside0.mk (ng_ hg (bl_ BK291.out))
   clear HO277 HO282 HO289 BK257 BK258 BK285 BK291 HB
   have HO277 := n0_
   have HO282 := n1_
   have HO289 := n2_
   have BK257 := n3_
   have BK258 := n4_
   have BK285 := n5_
   have BK291 := n6_
   have HB := n7_
   have BK312 := n8_
   have GW312 := n9_
   have GE312 := n10_
   have NB257_312 := n11_
   have NB312_257 := n12_
   have NB258_312 := n13_
   have NB312_258 := n14_
   have NB285_312 := n15_
   have NB312_285 := n16_
   have NB291_312 := n17_
   have NB312_291 := n18_
   clear n0_ n1_ n2_ n3_ n4_ n5_ n6_ n7_ n8_ n9_ n10_ n11_ n12_ n13_ n14_ n15_ n16_ n17_ n18_
   clear hb hbox hg
   refine hK.out _ _ (ck14_ BK257.out (ce3_ BK291.out)) (fun hHeld => ?_)
   clear hK K
   refine norm_ (a' := ?_) ?_ ?_
   rotate_left
   ·
    show Act.put _ (some 11) _ = _
    simp only [Act.put, List.setIfInBounds_toArray, List.set_cons_zero, List.set_cons_succ, i64_w, i32_w]
    rfl
   refine one_ (i := 4) (N := some 39) #[true, true, true, true, true, false, false, false, true, false, false] rfl rfl (one_of HT_.out (by kernel_rfl)) (by decide) (fun K hK => ?_)
   refine goes_ Try.func8 (by kernel_rfl) rfl #[.agg #[.int .i64 t292, .int .i64 t293, .int .i64 t294, .int .i64 t295, .int .i64 t296, .int .i64 t297, .int .i64 t298, .int .i64 t299, .int .i64 t300, .int .i64 t301, .int .i64 t302, .int .i64 t303, .int .i64 t304, .int .i64 t305], .agg #[.int .i64 t286, .slice Ao42 t287.length co42, .int .i64 t290], .int .i64 a2] (by rfl) rfl rfl gm_ ?_
   with_reducible refine (impl_OnFailure.calls k t292 t293 t294 t295 t296 t297 t298 t299 t300 t301 t302 t303 t304 t305 t286 _ _ t287 t290 a2 t306 t307 t310 t311 _ ?side1 ?side2 A16.out).mono ?_
   (case side1 => repeat (first | exact (Kd.R_reads' HO289.out).2.2 | (with_reducible refine Kd.C_alloc ?_ _) | (with_reducible refine Kd.C_drewN ?_ _) | (with_reducible refine Kd.C_drew ?_)))
   (case side2 => exact (Kd.R_reads' HO289.out).2.1)
   rintro e w47 ⟨v308, rfl, ho0, hb⟩
   refine ⟨_, rfl, ?_⟩
   have n0_ := Aside0.mk (Kd.R_elder' (ro_ HO277.out) (Kd.R_base ho0) hb)
   have n1_ := Aside0.mk (Kd.R_elder' (ro_ HO282.out) (Kd.R_base ho0) hb)
   have n2_ := Aside0.mk (Kd.R_elder' (ro_ HO289.out) (Kd.R_base ho0) hb)
   have n3_ := Aside0.mk (Kd.R_lower (Kd.R_new' (Kd.R_new' (Kd.R_new' ho0 (Kd.R_lt (ro_ HO277.out))) (Kd.R_lt (ro_ HO282.out))) (Kd.R_lt (ro_ HO289.out))) (below_size (be_ HB.out)))
   have n4_ := Aside0.mk (blk_below (bl_ BK257.out) hb)
   have n5_ := Aside0.mk (blk_below (bl_ BK258.out) hb)
   have n6_ := Aside0.mk (blk_below (bl_ BK285.out) hb)
   have n7_ := Aside0.mk (blk_below (bl_ BK291.out) hb)
   have n8_ := Aside0.mk (blk_below (bl_ BK312.out) hb)
   have n9_ := Aside0.mk (below_step (be_ HB.out) hb)
   clear HO277 HO282 HO289 BK257 BK258 BK285 BK291 BK312 HB
   have HO277 := n0_
   have HO282 := n1_
   have HO289 := n2_
   have HO309 := n3_
   have BK257 := n4_
   have BK258 := n5_
   have BK285 := n6_
   have BK291 := n7_
   have BK312 := n8_
   have HB := n9_
   clear n0_ n1_ n2_ n3_ n4_ n5_ n6_ n7_ n8_ n9_
   (try clear hb)
   (try clear hb2)
   (try clear hk)
   (try clear hi)
   (try clear ho0)
   refine hK.out _ _ (ck14_ BK257.out (ce3_ BK291.out)) (fun hHeld => ?_)
   clear hK K
   refine norm_ (a' := ?_) ?_ ?_
   rotate_left
   ·
    show Act.put _ (some 39) _ = _
    simp only [Act.put, List.setIfInBounds_toArray, List.set_cons_zero, List.set_cons_succ, i64_w, i32_w]
    rfl
   refine pure_ (i := 5) (N := some 34) (v := ?_) (a' := ?_) #[true, true, true, true, true, true, false, false, true, false, false] rfl rfl (any_of HT_.out (by kernel_rfl)) (fun _ _ _ h => h) (Or.inl ⟨by rfl, ?_⟩) ?_ ?_
   rotate_left
   ·
    intro w'
    go_simp
    with_reducible rfl
   rotate_left
   ·
    simp only [Act.put, List.setIfInBounds_toArray, List.set_cons_zero, List.set_cons_succ, i64_w, i32_w]
    rfl
   refine pure_ (i := 6) (N := some 40) (v := ?_) (a' := ?_) #[true, true, true, true, true, true, true, false, true, false, false] rfl rfl (any_of HT_.out (by kernel_rfl)) (fun _ _ _ h => h) (Or.inl ⟨by rfl, ?_⟩) ?_ ?_
   rotate_left
   ·
    intro w'
    go_simp
    with_reducible rfl
   rotate_left
   ·
    simp only [Act.put, List.setIfInBounds_toArray, List.set_cons_zero, List.set_cons_succ, i64_w, i32_w]
    rfl
   refine pure_ (i := 7) (N := some 41) (v := ?_) (a' := ?_) #[true, true, true, true, true, true, true, true, true, false, false] rfl rfl (any_of HT_.out (by kernel_rfl)) (fun _ _ _ h => h) (Or.inl ⟨by rfl, ?_⟩) ?_ ?_
   rotate_left
   ·
    intro w'
    go_simp
    with_reducible rfl
   rotate_left
   ·
    simp only [Act.put, List.setIfInBounds_toArray, List.set_cons_zero, List.set_cons_succ, i64_w, i32_w]
    rfl
   exact norm_ (by simp only [putAll, Act.put, List.setIfInBounds_toArray, List.set_cons_zero, List.set_cons_succ]) (hCont (v308, gb312) _ ⟨hHeld, (by (with_reducible repeat (first | apply Kd.R_alloc | apply Kd.R_drewN | apply Kd.R_drew)); exact Kd.R_mono HO277.out (fun _ hk => ⟨hk.1.1, ⟨hk.1.2, hk.2⟩⟩)), (by (with_reducible repeat (first | apply Kd.R_alloc | apply Kd.R_drewN | apply Kd.R_drew)); exact Kd.R_mono HO282.out (fun _ hk => ⟨hk.1.1, ⟨hk.1.2, hk.2⟩⟩)), (by (with_reducible repeat (first | apply Kd.R_alloc | apply Kd.R_drewN | apply Kd.R_drew)); exact Kd.R_mono HO289.out (fun _ hk => ⟨hk.1.1, ⟨hk.1.2, hk.2⟩⟩)), (by (with_reducible repeat (first | apply Kd.R_alloc | apply Kd.R_drewN | apply Kd.R_drew)); exact Kd.R_mono HO309.out (fun _ hk => ⟨hk.1.1.2, ⟨hk.1.2, hk.2⟩⟩)), (bl_ BK257.out), (bl_ BK258.out), (bl_ BK285.out), (bl_ BK291.out), (bl_ BK312.out), GW312.out, GE312.out, NB257_312.out, NB312_257.out, NB258_312.out, NB312_258.out, NB285_312.out, NB312_285.out, NB291_312.out, NB312_291.out, (be_ HB.out)⟩)
  skip
  refine box_step ?hg (N := 11) ?hd (cs := #[.int .i64 0, .slice none 0 0, .int .i64 0]) (t := 28) ?hr ?_; (case hd => rfl); (case hg => rfl); (case hr => first | (go_simp; done) | (go_simp; rfl))
  intro gb312 hg w45 hbox hb
  have n0_ := Aside0.mk (Kd.R_below (ro_ HO277.out) hb)
  have n1_ := Aside0.mk (Kd.R_below (ro_ HO282.out) hb)
  have n2_ := Aside0.mk (Kd.R_below (ro_ HO289.out) hb)
  have n3_ := Aside0.mk (blk_below (bl_ BK257.out) hb)
  have n4_ := Aside0.mk (blk_below (bl_ BK258.out) hb)
  have n5_ := Aside0.mk (blk_below (bl_ BK285.out) hb)
  have n6_ := Aside0.mk (blk_below (bl_ BK291.out) hb)
  have n7_ := Aside0.mk (below_step (be_ HB.out) hb)
  have n8_ := Aside0.mk (hbox)
  have n9_ := Aside0.mk (gs_ hg (be_ HB.out))
  have n10_ := Aside0.mk (gs_ hg (be_ HB.out))
  have n11_ := Aside0.mk (nl_ hg (bl_ BK257.out))
  have n12_ := Aside0.mk (ng_ hg (bl_ BK257.out))
  have n13_ := Aside0.mk (nl_ hg (bl_ BK258.out))
  have n14_ := Aside0.mk (ng_ hg (bl_ BK258.out))
  have n15_ := Aside0.mk (nl_ hg (bl_ BK285.out))
  have n16_ := Aside0.mk (ng_ hg (bl_ BK285.out))
  have n17_ := Aside0.mk (nl_ hg (bl_ BK291.out))
  have n18_ := Aside0.mk (ng_ hg (bl_ BK291.out))
  clear HO277 HO282 HO289 BK257 BK258 BK285 BK291 HB
  have HO277 := n0_
  have HO282 := n1_
  have HO289 := n2_
  have BK257 := n3_
  have BK258 := n4_
  have BK285 := n5_
  have BK291 := n6_
  have HB := n7_
  have BK312 := n8_
  have GW312 := n9_
  have GE312 := n10_
  have NB257_312 := n11_
  have NB312_257 := n12_
  have NB258_312 := n13_
  have NB312_258 := n14_
  have NB285_312 := n15_
  have NB312_285 := n16_
  have NB291_312 := n17_
  have NB312_291 := n18_
  clear n0_ n1_ n2_ n3_ n4_ n5_ n6_ n7_ n8_ n9_ n10_ n11_ n12_ n13_ n14_ n15_ n16_ n17_ n18_
  clear hb hbox hg
  refine hK.out _ _ (ck14_ BK257.out (ce3_ BK291.out)) (fun hHeld => ?_)
  clear hK K
  refine norm_ (a' := ?_) ?_ ?_
  rotate_left
  ·
   show Act.put _ (some 11) _ = _
   simp only [Act.put, List.setIfInBounds_toArray, List.set_cons_zero, List.set_cons_succ, i64_w, i32_w]
   rfl
  refine one_ (i := 1) (N := some 36) #[true, true, true, true, false, false, false, false, true, false, false] rfl rfl (one_of HT_.out (by kernel_rfl)) (by decide) (fun K hK => ?_)
  refine goes_ Try.func6 (by kernel_rfl) rfl #[.agg #[.int .i64 a0_0, .int .i64 a0_1, .int .i64 a0_2, .int .i64 a0_3, .int .i64 a0_4, .int .i64 a0_5, .int .i64 a0_6, .int .i64 a0_7, .int .i64 a0_8, .int .i64 a0_9, .int .i64 a0_10, .int .i64 a0_11, .int .i64 a0_12, .int .i64 a0_13]] (by rfl) rfl rfl gm_ ?_
  with_reducible refine (laws_toConfig.calls a0_0 a0_1 a0_2 a0_3 a0_4 a0_5 a0_6 a0_7 a0_8 a0_9 a0_10 a0_11 a0_12 a0_13 t292 t293 t294 t295 t296 t297 t298 t299 t300 t301 t302 t303 t304 t305 _ A15.out).mono ?_
  rintro e w46 ⟨rfl, hb⟩
  refine ⟨_, rfl, ?_⟩
  have n0_ := Aside0.mk (Kd.R_below (ro_ HO277.out) hb)
  have n1_ := Aside0.mk (Kd.R_below (ro_ HO282.out) hb)
  have n2_ := Aside0.mk (Kd.R_below (ro_ HO289.out) hb)
  have n3_ := Aside0.mk (blk_below (bl_ BK257.out) hb)
  have n4_ := Aside0.mk (blk_below (bl_ BK258.out) hb)
  have n5_ := Aside0.mk (blk_below (bl_ BK285.out) hb)
  have n6_ := Aside0.mk (blk_below (bl_ BK291.out) hb)
  have n7_ := Aside0.mk (blk_below (bl_ BK312.out) hb)
  have n8_ := Aside0.mk (below_step (be_ HB.out) hb)
  clear HO277 HO282 HO289 BK257 BK258 BK285 BK291 BK312 HB
  have HO277 := n0_
  have HO282 := n1_
  have HO289 := n2_
  have BK257 := n3_
  have BK258 := n4_
  have BK285 := n5_
  have BK291 := n6_
  have BK312 := n7_
  have HB := n8_
  clear n0_ n1_ n2_ n3_ n4_ n5_ n6_ n7_ n8_
  (try clear hb)
  (try clear hb2)
  (try clear hk)
  (try clear hi)
  refine hK.out _ _ (ck14_ BK257.out (ce3_ BK291.out)) (fun hHeld => ?_)
  clear hK K
  refine norm_ (a' := ?_) ?_ ?_
  rotate_left
  ·
   show Act.put _ (some 36) _ = _
   simp only [Act.put, List.setIfInBounds_toArray, List.set_cons_zero, List.set_cons_succ, i64_w, i32_w]
   rfl
  refine one_ (i := 4) (N := some 39) #[true, true, true, true, true, false, false, false, true, false, false] rfl rfl (one_of HT_.out (by kernel_rfl)) (by decide) (fun K hK => ?_)
  refine goes_ Try.func8 (by kernel_rfl) rfl #[.agg #[.int .i64 t292, .int .i64 t293, .int .i64 t294, .int .i64 t295, .int .i64 t296, .int .i64 t297, .int .i64 t298, .int .i64 t299, .int .i64 t300, .int .i64 t301, .int .i64 t302, .int .i64 t303, .int .i64 t304, .int .i64 t305], .agg #[.int .i64 t286, .slice Ao42 t287.length co42, .int .i64 t290], .int .i64 a2] (by rfl) rfl rfl gm_ ?_
  with_reducible refine (impl_OnFailure.calls k t292 t293 t294 t295 t296 t297 t298 t299 t300 t301 t302 t303 t304 t305 t286 _ _ t287 t290 a2 t306 t307 t310 t311 _ ?side1 ?side2 A16.out).mono ?_
  (case side1 => repeat (first | exact (Kd.R_reads' HO289.out).2.2 | (with_reducible refine Kd.C_alloc ?_ _) | (with_reducible refine Kd.C_drewN ?_ _) | (with_reducible refine Kd.C_drew ?_)))
  (case side2 => exact (Kd.R_reads' HO289.out).2.1)
  rintro e w47 ⟨v308, rfl, ho0, hb⟩
  refine ⟨_, rfl, ?_⟩
  have n0_ := Aside0.mk (Kd.R_elder' (ro_ HO277.out) (Kd.R_base ho0) hb)
  have n1_ := Aside0.mk (Kd.R_elder' (ro_ HO282.out) (Kd.R_base ho0) hb)
  have n2_ := Aside0.mk (Kd.R_elder' (ro_ HO289.out) (Kd.R_base ho0) hb)
  have n3_ := Aside0.mk (Kd.R_lower (Kd.R_new' (Kd.R_new' (Kd.R_new' ho0 (Kd.R_lt (ro_ HO277.out))) (Kd.R_lt (ro_ HO282.out))) (Kd.R_lt (ro_ HO289.out))) (below_size (be_ HB.out)))
  have n4_ := Aside0.mk (blk_below (bl_ BK257.out) hb)
  have n5_ := Aside0.mk (blk_below (bl_ BK258.out) hb)
  have n6_ := Aside0.mk (blk_below (bl_ BK285.out) hb)
  have n7_ := Aside0.mk (blk_below (bl_ BK291.out) hb)
  have n8_ := Aside0.mk (blk_below (bl_ BK312.out) hb)
  have n9_ := Aside0.mk (below_step (be_ HB.out) hb)
  clear HO277 HO282 HO289 BK257 BK258 BK285 BK291 BK312 HB
  have HO277 := n0_
  have HO282 := n1_
  have HO289 := n2_
  have HO309 := n3_
  have BK257 := n4_
  have BK258 := n5_
  have BK285 := n6_
  have BK291 := n7_
  have BK312 := n8_
  have HB := n9_
  clear n0_ n1_ n2_ n3_ n4_ n5_ n6_ n7_ n8_ n9_
  (try clear hb)
  (try clear hb2)
  (try clear hk)
  (try clear hi)
  (try clear ho0)
  refine hK.out _ _ (ck14_ BK257.out (ce3_ BK291.out)) (fun hHeld => ?_)
  clear hK K
  refine norm_ (a' := ?_) ?_ ?_
  rotate_left
  ·
   show Act.put _ (some 39) _ = _
   simp only [Act.put, List.setIfInBounds_toArray, List.set_cons_zero, List.set_cons_succ, i64_w, i32_w]
   rfl
  refine pure_ (i := 5) (N := some 34) (v := ?_) (a' := ?_) #[true, true, true, true, true, true, false, false, true, false, false] rfl rfl (any_of HT_.out (by kernel_rfl)) (fun _ _ _ h => h) (Or.inl ⟨by rfl, ?_⟩) ?_ ?_
  rotate_left
  ·
   intro w'
   go_simp
   with_reducible rfl
  rotate_left
  ·
   simp only [Act.put, List.setIfInBounds_toArray, List.set_cons_zero, List.set_cons_succ, i64_w, i32_w]
   rfl
  refine pure_ (i := 6) (N := some 40) (v := ?_) (a' := ?_) #[true, true, true, true, true, true, true, false, true, false, false] rfl rfl (any_of HT_.out (by kernel_rfl)) (fun _ _ _ h => h) (Or.inl ⟨by rfl, ?_⟩) ?_ ?_
  rotate_left
  ·
   intro w'
   go_simp
   with_reducible rfl
  rotate_left
  ·
   simp only [Act.put, List.setIfInBounds_toArray, List.set_cons_zero, List.set_cons_succ, i64_w, i32_w]
   rfl
  refine pure_ (i := 7) (N := some 41) (v := ?_) (a' := ?_) #[true, true, true, true, true, true, true, true, true, false, false] rfl rfl (any_of HT_.out (by kernel_rfl)) (fun _ _ _ h => h) (Or.inl ⟨by rfl, ?_⟩) ?_ ?_
  rotate_left
  ·
   intro w'
   go_simp
   with_reducible rfl
  rotate_left
  ·
   simp only [Act.put, List.setIfInBounds_toArray, List.set_cons_zero, List.set_cons_succ, i64_w, i32_w]
   rfl
  exact norm_ (by simp only [putAll, Act.put, List.setIfInBounds_toArray, List.set_cons_zero, List.set_cons_succ]) (hCont (v308, gb312) _ ⟨hHeld, (by (with_reducible repeat (first | apply Kd.R_alloc | apply Kd.R_drewN | apply Kd.R_drew)); exact Kd.R_mono HO277.out (fun _ hk => ⟨hk.1.1, ⟨hk.1.2, hk.2⟩⟩)), (by (with_reducible repeat (first | apply Kd.R_alloc | apply Kd.R_drewN | apply Kd.R_drew)); exact Kd.R_mono HO282.out (fun _ hk => ⟨hk.1.1, ⟨hk.1.2, hk.2⟩⟩)), (by (with_reducible repeat (first | apply Kd.R_alloc | apply Kd.R_drewN | apply Kd.R_drew)); exact Kd.R_mono HO289.out (fun _ hk => ⟨hk.1.1, ⟨hk.1.2, hk.2⟩⟩)), (by (with_reducible repeat (first | apply Kd.R_alloc | apply Kd.R_drewN | apply Kd.R_drew)); exact Kd.R_mono HO309.out (fun _ hk => ⟨hk.1.1.2, ⟨hk.1.2, hk.2⟩⟩)), (bl_ BK257.out), (bl_ BK258.out), (bl_ BK285.out), (bl_ BK291.out), (bl_ BK312.out), GW312.out, GE312.out, NB257_312.out, NB312_257.out, NB258_312.out, NB312_258.out, NB285_312.out, NB312_285.out, NB291_312.out, NB312_291.out, (be_ HB.out)⟩)
 rintro ⟨v308, gb312⟩ w48 ⟨hS_, h0_, h1_, h2_, h3_, h4_, h5_, h6_, h7_, h8_, h9_, h10_, h11_, h12_, h13_, h14_, h15_, h16_, h17_, h18_, h19_⟩
 have n0_ : Aside0 (Kd.R (Kd.int .i64) 3 w48 w.heap.size (fun k_ => some k_ ≠ (.slice Ao31 t280.length co31 : Value).ownBlock ∧ some k_ ≠ (.slice Ao42 t287.length co42 : Value).ownBlock ∧ some k_ ≠ (v308 : Value).ownBlock) v276 t275) := ⟨h0_⟩
 have n1_ : Aside0 (Kd.R (Kd.int .i64) 3 w48 w.heap.size (fun k_ => some k_ ≠ (v276 : Value).ownBlock ∧ some k_ ≠ (.slice Ao42 t287.length co42 : Value).ownBlock ∧ some k_ ≠ (v308 : Value).ownBlock) (.slice Ao31 t280.length co31) t280) := ⟨h1_⟩
 have n2_ : Aside0 (Kd.R (Kd.int .i64) 3 w48 w.heap.size (fun k_ => some k_ ≠ (v276 : Value).ownBlock ∧ some k_ ≠ (.slice Ao31 t280.length co31 : Value).ownBlock ∧ some k_ ≠ (v308 : Value).ownBlock) (.slice Ao42 t287.length co42) t287) := ⟨h2_⟩
 have n3_ : Aside0 (Kd.R (Kd.int .i64) 3 w48 w.heap.size (fun k_ => some k_ ≠ (v276 : Value).ownBlock ∧ some k_ ≠ (.slice Ao31 t280.length co31 : Value).ownBlock ∧ some k_ ≠ (.slice Ao42 t287.length co42 : Value).ownBlock) v308 t307) := ⟨h3_⟩
 have n4_ : Aside0 (w48.heap[gb257]? = some (.cells #[.int .i64 a0_0, .int .i64 a0_1, .int .i64 a0_2, .int .i64 a0_3, .int .i64 a0_4, .int .i64 a0_5, .int .i64 a0_6, .int .i64 a0_7, .int .i64 a0_8, .int .i64 a0_9, .int .i64 a0_10, .int .i64 a0_11, .int .i64 a0_12, .int .i64 a0_13] 23 (0, 0))) := ⟨h4_⟩
 have n5_ : Aside0 (w48.heap[gb258]? = some (.cells #[.int .i64 a1_0, .slice A1_1 l1_1.length c1_1, .int .i64 a1_2] 26 (0, 0))) := ⟨h5_⟩
 have n6_ : Aside0 (w48.heap[gb285]? = some (.cells #[.int .i64 t279, .slice Ao31 t280.length co31, .int .i64 t283] 28 (0, 0))) := ⟨h6_⟩
 have n7_ : Aside0 (w48.heap[gb291]? = some (.cells #[.int .i64 t286, .slice Ao42 t287.length co42, .int .i64 t290] 28 (0, 0))) := ⟨h7_⟩
 have n8_ : Aside0 (w48.heap[gb312]? = some (.cells #[.int .i64 0, .slice none 0 0, .int .i64 0] 28 (0, 0))) := ⟨h8_⟩
 have n9_ : Aside0 (w.heap.size ≤ gb312) := ⟨h9_⟩
 have n10_ : Aside0 (w.heap.size ≤ gb312) := ⟨h10_⟩
 have n11_ : Aside0 (gb257 ≠ gb312) := ⟨h11_⟩
 have n12_ : Aside0 (gb312 ≠ gb257) := ⟨h12_⟩
 have n13_ : Aside0 (gb258 ≠ gb312) := ⟨h13_⟩
 have n14_ : Aside0 (gb312 ≠ gb258) := ⟨h14_⟩
 have n15_ : Aside0 (gb285 ≠ gb312) := ⟨h15_⟩
 have n16_ : Aside0 (gb312 ≠ gb285) := ⟨h16_⟩
 have n17_ : Aside0 (gb291 ≠ gb312) := ⟨h17_⟩
 have n18_ : Aside0 (gb312 ≠ gb291) := ⟨h18_⟩
 have n19_ : Aside0 (Below w.heap.size w w48) := ⟨h19_⟩
 clear HO277 HO282 HO289 BK257 BK258 BK285 BK291 HB
 clear h0_ h1_ h2_ h3_ h4_ h5_ h6_ h7_ h8_ h9_ h10_ h11_ h12_ h13_ h14_ h15_ h16_ h17_ h18_ h19_
 have HO277 := n0_
 have HO282 := n1_
 have HO289 := n2_
 have HO309 := n3_
 have BK257 := n4_
 have BK258 := n5_
 have BK285 := n6_
 have BK291 := n7_
 have BK312 := n8_
 have GW312 := n9_
 have GE312 := n10_
 have NB257_312 := n11_
 have NB312_257 := n12_
 have NB258_312 := n13_
 have NB312_258 := n14_
 have NB285_312 := n15_
 have NB312_285 := n16_
 have NB291_312 := n17_
 have NB312_291 := n18_
 have HB := n19_
 clear n0_ n1_ n2_ n3_ n4_ n5_ n6_ n7_ n8_ n9_ n10_ n11_ n12_ n13_ n14_ n15_ n16_ n17_ n18_ n19_
 have hHeld : w48.cell? ⟨gb257, 0, none⟩ = some (.int .i64 a0_0) ∧ w48.cell? ⟨gb257, 1, none⟩ = some (.int .i64 a0_1) ∧ w48.cell? ⟨gb257, 2, none⟩ = some (.int .i64 a0_2) ∧ w48.cell? ⟨gb257, 3, none⟩ = some (.int .i64 a0_3) ∧ w48.cell? ⟨gb257, 4, none⟩ = some (.int .i64 a0_4) ∧ w48.cell? ⟨gb257, 5, none⟩ = some (.int .i64 a0_5) ∧ w48.cell? ⟨gb257, 6, none⟩ = some (.int .i64 a0_6) ∧ w48.cell? ⟨gb257, 7, none⟩ = some (.int .i64 a0_7) ∧ w48.cell? ⟨gb257, 8, none⟩ = some (.int .i64 a0_8) ∧ w48.cell? ⟨gb257, 9, none⟩ = some (.int .i64 a0_9) ∧ w48.cell? ⟨gb257, 10, none⟩ = some (.int .i64 a0_10) ∧ w48.cell? ⟨gb257, 11, none⟩ = some (.int .i64 a0_11) ∧ w48.cell? ⟨gb257, 12, none⟩ = some (.int .i64 a0_12) ∧ w48.cell? ⟨gb257, 13, none⟩ = some (.int .i64 a0_13) ∧ w48.cell? ⟨gb291, 0, none⟩ = some (.int .i64 t286) ∧ w48.cell? ⟨gb291, 1, none⟩ = some (.slice Ao42 t287.length co42) ∧ w48.cell? ⟨gb291, 2, none⟩ = some (.int .i64 t290) := hS_
 obtain ⟨Ao50, co50, eo50⟩ := Kd.R_slice HO309.out
 (first | subst eo50 | (injection eo50 with f1_ f2_ f3_; have f4_ := f1_.symm; have f5_ := f3_.symm; clear f1_ f2_ f3_; subst f4_; subst f5_))
 refine norm_ (a' := ?_) ?_ ?_
 rotate_left
 ·
  simp only [putAll, Act.put, List.setIfInBounds_toArray, List.set_cons_zero, List.set_cons_succ]
  rfl
 refine one_ (i := 9) (N := none) #[true, true, true, true, true, true, true, true, true, true, false] rfl rfl (one_of HT_.out (by kernel_rfl)) (by decide) (fun K hK => ?_)
 have hs49 : w48.cell? ⟨gb312, 0, none⟩ = some (.int .i64 0) := (blk_cell BK312.out 0).trans rfl
 have hfs49 := blk_frozen BK312.out 0
 have hns49_0 := NB257_312.out
 have hns49_1 := NB258_312.out
 have hns49_2 := NB285_312.out
 have hns49_3 := NB291_312.out
 have hms49_0 := NB312_257.out
 have hms49_1 := NB312_258.out
 have hms49_2 := NB312_285.out
 have hms49_3 := NB312_291.out
 have hs51 : w48.cell? ⟨gb312, 1, none⟩ = some (.slice none 0 0) := (blk_cell BK312.out 1).trans rfl
 have hfs51 := blk_frozen BK312.out 1
 have hns51_0 := NB257_312.out
 have hns51_1 := NB258_312.out
 have hns51_2 := NB285_312.out
 have hns51_3 := NB291_312.out
 have hms51_0 := NB312_257.out
 have hms51_1 := NB312_258.out
 have hms51_2 := NB312_285.out
 have hms51_3 := NB312_291.out
 have hs52 : w48.cell? ⟨gb312, 2, none⟩ = some (.int .i64 0) := (blk_cell BK312.out 2).trans rfl
 have hfs52 := blk_frozen BK312.out 2
 have hns52_0 := NB257_312.out
 have hns52_1 := NB258_312.out
 have hns52_2 := NB285_312.out
 have hns52_3 := NB291_312.out
 have hms52_0 := NB312_257.out
 have hms52_1 := NB312_258.out
 have hms52_2 := NB312_285.out
 have hms52_3 := NB312_291.out
 refine skip_ (w1 := ?_) (by rfl) rfl ?_ ?_
 rotate_left
 ·
  go_simp
  rfl
 refine hK.out _ _ ⟨(cf3_ NB257_312.out (hHeld.1)), (cf3_ NB257_312.out (hHeld.2.1)), (cf3_ NB257_312.out (hHeld.2.2.1)), (cf3_ NB257_312.out (hHeld.2.2.2.1)), (cf3_ NB257_312.out (hHeld.2.2.2.2.1)), (cf3_ NB257_312.out (hHeld.2.2.2.2.2.1)), (cf3_ NB257_312.out (hHeld.2.2.2.2.2.2.1)), (cf3_ NB257_312.out (hHeld.2.2.2.2.2.2.2.1)), (cf3_ NB257_312.out (hHeld.2.2.2.2.2.2.2.2.1)), (cf3_ NB257_312.out (hHeld.2.2.2.2.2.2.2.2.2.1)), (cf3_ NB257_312.out (hHeld.2.2.2.2.2.2.2.2.2.2.1)), (cf3_ NB257_312.out (hHeld.2.2.2.2.2.2.2.2.2.2.2.1)), (cf3_ NB257_312.out (hHeld.2.2.2.2.2.2.2.2.2.2.2.2.1)), (cf3_ NB257_312.out (hHeld.2.2.2.2.2.2.2.2.2.2.2.2.2.1)), (cf3_ NB291_312.out (hHeld.2.2.2.2.2.2.2.2.2.2.2.2.2.2.1)), (cf3_ NB291_312.out (hHeld.2.2.2.2.2.2.2.2.2.2.2.2.2.2.2.1)), (cf3_ NB291_312.out (hHeld.2.2.2.2.2.2.2.2.2.2.2.2.2.2.2.2))⟩ (fun hHeld => ?_)
 clear hK K
 refine pure_ (i := 10) (N := some 12) (v := ?_) (a' := ?_) #[true, true, true, true, true, true, true, true, true, true, true] rfl rfl (any_of HT_.out (by kernel_rfl)) (fun _ _ _ h => h) (Or.inl ⟨by rfl, ?_⟩) ?_ ?_
 rotate_left
 ·
  intro w'
  go_simp
  with_reducible rfl
 rotate_left
 ·
  simp only [Act.put, List.setIfInBounds_toArray, List.set_cons_zero, List.set_cons_succ, i64_w, i32_w]
  rfl
 refine done_ (done_of HT_.out (by kernel_rfl)) ?_
 go_upto_region 8 with (fail)
 go_cut [50] (fun zv50 wc => ∃ (kq : Nat) (x50_16 : Bool), zv50 = .bool x50_16 ∧ Aside0 (laws_FnExactOnFailure.j0 kq a2 t284 t311 x50_16 a0_0 a0_1 a0_2 a0_3 a0_4 a0_5 a0_6 a0_7 a0_8 a0_9 a0_10 a0_11 a0_12 a0_13 a1_0 l1_1 a1_2 t279 t280 t283 t286 t287 t290 t306 t307 t310 = some r) ∧ Aside0 (kq ≤ k) ∧ Aside0 (Kd.R (Kd.int .i64) 3 wc w.heap.size (fun k_ => some k_ ≠ ((.slice Ao42 t287.length co42) : Value).ownBlock ∧ some k_ ≠ ((.slice Ao50 t307.length co50) : Value).ownBlock) (.slice Ao31 t280.length co31) t280) ∧ Aside0 (Kd.R (Kd.int .i64) 3 wc w.heap.size (fun k_ => some k_ ≠ ((.slice Ao31 t280.length co31) : Value).ownBlock ∧ some k_ ≠ ((.slice Ao50 t307.length co50) : Value).ownBlock) (.slice Ao42 t287.length co42) t287) ∧ Aside0 (Kd.R (Kd.int .i64) 3 wc w.heap.size (fun k_ => some k_ ≠ ((.slice Ao31 t280.length co31) : Value).ownBlock ∧ some k_ ≠ ((.slice Ao42 t287.length co42) : Value).ownBlock) (.slice Ao50 t307.length co50) t307) ∧ Aside0 (wc.heap[gb257]? = some (.cells #[.int .i64 a0_0, .int .i64 a0_1, .int .i64 a0_2, .int .i64 a0_3, .int .i64 a0_4, .int .i64 a0_5, .int .i64 a0_6, .int .i64 a0_7, .int .i64 a0_8, .int .i64 a0_9, .int .i64 a0_10, .int .i64 a0_11, .int .i64 a0_12, .int .i64 a0_13] 23 (0, 0))) ∧ Aside0 (wc.heap[gb258]? = some (.cells #[.int .i64 a1_0, (.slice A1_1 l1_1.length c1_1), .int .i64 a1_2] 26 (0, 0))) ∧ Aside0 (wc.heap[gb285]? = some (.cells #[.int .i64 t279, (.slice Ao31 t280.length co31), .int .i64 t283] 28 (0, 0))) ∧ Aside0 (wc.heap[gb291]? = some (.cells #[.int .i64 t286, (.slice Ao42 t287.length co42), .int .i64 t290] 28 (0, 0))) ∧ Aside0 (wc.heap[gb312]? = some (.cells #[.int .i64 t306, (.slice Ao50 t307.length co50), .int .i64 t310] 28 (0, 0))) ∧ Aside0 (Below w.heap.size w wc))
 case first =>
  have H := HC17.out
  clear HC17
  replace H := Option.bind_eq_some_iff.mp H
  obtain ⟨t313, A530, H⟩ := H
  replace H : (if t313 = true then (laws_FnExactOnFailure.j0 k a2 t284 t311 (t311 != t284) a0_0 a0_1 a0_2 a0_3 a0_4 a0_5 a0_6 a0_7 a0_8 a0_9 a0_10 a0_11 a0_12 a0_13 a1_0 l1_1 a1_2 t279 t280 t283 t286 t287 t290 t306 t307 t310) else (laws_FnExactOnFailure.j0 k a2 t284 t311 true a0_0 a0_1 a0_2 a0_3 a0_4 a0_5 a0_6 a0_7 a0_8 a0_9 a0_10 a0_11 a0_12 a0_13 a1_0 l1_1 a1_2 t279 t280 t283 t286 t287 t290 t306 t307 t310)) = some r := H
  have A53 := Aside0.mk A530
  clear A530
  by_cases c54 : t313 = true
  ·
   subst c54
   have H1 : (laws_FnExactOnFailure.j0 k a2 t284 t311 (t311 != t284) a0_0 a0_1 a0_2 a0_3 a0_4 a0_5 a0_6 a0_7 a0_8 a0_9 a0_10 a0_11 a0_12 a0_13 a1_0 l1_1 a1_2 t279 t280 t283 t286 t287 t290 t306 t307 t310) = some r := by rw [if_pos rfl] at H; exact H
   clear H
   have H := H1
   clear H1
   have H' := Aside0.mk H
   clear H
   have hnb55 := NB312_257.out
   have hnc55 := NB257_312.out
   have hnb56 := NB312_258.out
   have hnc56 := NB258_312.out
   have hnb57 := NB312_285.out
   have hnc57 := NB285_312.out
   have hnb58 := NB312_291.out
   have hnc58 := NB291_312.out
   obtain ⟨hcz59_0, hcz59_1, hcz59_2, hfz59_0, hfz59_1, hfz59_2⟩ := cz3_ BK312.out
   have hnb60 := NB285_257.out
   have hnc60 := NB257_285.out
   have hnb61 := NB285_258.out
   have hnc61 := NB258_285.out
   have hnb62 := NB285_291.out
   have hnc62 := NB291_285.out
   obtain ⟨hcz63_0, hcz63_1, hcz63_2, hfz63_0, hfz63_1, hfz63_2⟩ := cz3_ BK285.out
   go_wp2_with (first | ((with_reducible refine gate_callee (f := 9) rfl ?_); refine goesL_ (some 44) rfl rfl Try.func9 (by kernel_rfl) rfl #[.agg #[.int .i64 t306, .slice Ao50 t307.length co50, .int .i64 t310], .agg #[.int .i64 t279, .slice Ao31 t280.length co31, .int .i64 t283]] rfl gm_ ?_; (with_reducible refine (laws_eqBreaker.calls k t306 _ _ t307 t310 t279 _ _ t280 t283 true _ ?side1 ?side2 ?side3 ?side4 A53.out).mono ?_); (case side1 => refine (Kd.R_reads' (e := 3) (base := w.heap.size) (ok := fun k_ => (some k_ ≠ (v276 : Value).ownBlock ∧ (some k_ ≠ (.slice Ao31 t280.length co31 : Value).ownBlock ∧ some k_ ≠ (.slice Ao42 t287.length co42 : Value).ownBlock))) (n := t307.length) (c := co50) ?_).2.2; exact (by (with_reducible repeat (first | apply Kd.R_alloc | apply Kd.R_drewN | apply Kd.R_drew)); exact (Kd.R_mono (Kd.R_far (p := ⟨gb312, 2, none⟩) (Kd.R_far (p := ⟨gb312, 1, none⟩) (Kd.R_far (p := ⟨gb312, 0, none⟩) (Kd.R_types HO309.out BK312.out (by decide)) (fun _ hk => hk.2) (.int .i64 t306)) (fun _ hk => hk.2) (.slice Ao50 t307.length co50)) (fun _ hk => hk.2) (.int .i64 t310)) (fun _ h_ => h_.1)))); (case side2 => exact (Kd.R_reads' HO309.out).2.1); (case side3 => refine (Kd.R_reads' (e := 3) (base := w.heap.size) (ok := fun k_ => (some k_ ≠ (v276 : Value).ownBlock ∧ (some k_ ≠ (.slice Ao42 t287.length co42 : Value).ownBlock ∧ some k_ ≠ (.slice Ao50 t307.length co50 : Value).ownBlock))) (n := t280.length) (c := co31) ?_).2.2; exact (by (with_reducible repeat (first | apply Kd.R_alloc | apply Kd.R_drewN | apply Kd.R_drew)); exact (Kd.R_mono (Kd.R_far (p := ⟨gb312, 2, none⟩) (Kd.R_far (p := ⟨gb312, 1, none⟩) (Kd.R_far (p := ⟨gb312, 0, none⟩) (Kd.R_types HO282.out BK312.out (by decide)) (fun _ hk => hk.2) (.int .i64 t306)) (fun _ hk => hk.2) (.slice Ao50 t307.length co50)) (fun _ hk => hk.2) (.int .i64 t310)) (fun _ h_ => h_.1)))); (case side4 => exact (Kd.R_reads' HO282.out).2.1); rintro e w64 ⟨rfl, hb⟩; refine ⟨_, rfl, ?_⟩; have n0_ := Aside0.mk (Kd.R_below (by (with_reducible repeat (first | apply Kd.R_alloc | apply Kd.R_drewN | apply Kd.R_drew)); exact (Kd.R_mono (Kd.R_far (p := ⟨gb312, 2, none⟩) (Kd.R_far (p := ⟨gb312, 1, none⟩) (Kd.R_far (p := ⟨gb312, 0, none⟩) (Kd.R_types HO277.out BK312.out (by decide)) (fun _ hk => hk.2) (.int .i64 t306)) (fun _ hk => hk.2) (.slice Ao50 t307.length co50)) (fun _ hk => hk.2) (.int .i64 t310)) (fun _ h_ => h_.1))) hb); have n1_ := Aside0.mk (Kd.R_below (by (with_reducible repeat (first | apply Kd.R_alloc | apply Kd.R_drewN | apply Kd.R_drew)); exact (Kd.R_mono (Kd.R_far (p := ⟨gb312, 2, none⟩) (Kd.R_far (p := ⟨gb312, 1, none⟩) (Kd.R_far (p := ⟨gb312, 0, none⟩) (Kd.R_types HO282.out BK312.out (by decide)) (fun _ hk => hk.2) (.int .i64 t306)) (fun _ hk => hk.2) (.slice Ao50 t307.length co50)) (fun _ hk => hk.2) (.int .i64 t310)) (fun _ h_ => h_.1))) hb); have n2_ := Aside0.mk (Kd.R_below (by (with_reducible repeat (first | apply Kd.R_alloc | apply Kd.R_drewN | apply Kd.R_drew)); exact (Kd.R_mono (Kd.R_far (p := ⟨gb312, 2, none⟩) (Kd.R_far (p := ⟨gb312, 1, none⟩) (Kd.R_far (p := ⟨gb312, 0, none⟩) (Kd.R_types HO289.out BK312.out (by decide)) (fun _ hk => hk.2) (.int .i64 t306)) (fun _ hk => hk.2) (.slice Ao50 t307.length co50)) (fun _ hk => hk.2) (.int .i64 t310)) (fun _ h_ => h_.1))) hb); have n3_ := Aside0.mk (Kd.R_below (by (with_reducible repeat (first | apply Kd.R_alloc | apply Kd.R_drewN | apply Kd.R_drew)); exact (Kd.R_mono (Kd.R_far (p := ⟨gb312, 2, none⟩) (Kd.R_far (p := ⟨gb312, 1, none⟩) (Kd.R_far (p := ⟨gb312, 0, none⟩) (Kd.R_types HO309.out BK312.out (by decide)) (fun _ hk => hk.2) (.int .i64 t306)) (fun _ hk => hk.2) (.slice Ao50 t307.length co50)) (fun _ hk => hk.2) (.int .i64 t310)) (fun _ h_ => h_.1))) hb); have n4_ := Aside0.mk (blk_below (g := gb257) (o := .cells #[.int .i64 a0_0, .int .i64 a0_1, .int .i64 a0_2, .int .i64 a0_3, .int .i64 a0_4, .int .i64 a0_5, .int .i64 a0_6, .int .i64 a0_7, .int .i64 a0_8, .int .i64 a0_9, .int .i64 a0_10, .int .i64 a0_11, .int .i64 a0_12, .int .i64 a0_13] 23 (0, 0)) (by refine bl_ ?_; refine blk_far ?_ NB257_312.out _; refine bl_ ?_; refine blk_far ?_ NB257_312.out _; refine bl_ ?_; refine blk_far ?_ NB257_312.out _; refine bl_ ?_; exact BK257.out) hb); have n5_ := Aside0.mk (blk_below (g := gb258) (o := .cells #[.int .i64 a1_0, .slice A1_1 l1_1.length c1_1, .int .i64 a1_2] 26 (0, 0)) (by refine bl_ ?_; refine blk_far ?_ NB258_312.out _; refine bl_ ?_; refine blk_far ?_ NB258_312.out _; refine bl_ ?_; refine blk_far ?_ NB258_312.out _; refine bl_ ?_; exact BK258.out) hb); have n6_ := Aside0.mk (blk_below (g := gb285) (o := .cells #[.int .i64 t279, .slice Ao31 t280.length co31, .int .i64 t283] 28 (0, 0)) (by refine bl_ ?_; refine blk_far ?_ NB285_312.out _; refine bl_ ?_; refine blk_far ?_ NB285_312.out _; refine bl_ ?_; refine blk_far ?_ NB285_312.out _; refine bl_ ?_; exact BK285.out) hb); have n7_ := Aside0.mk (blk_below (g := gb291) (o := .cells #[.int .i64 t286, .slice Ao42 t287.length co42, .int .i64 t290] 28 (0, 0)) (by refine bl_ ?_; refine blk_far ?_ NB291_312.out _; refine bl_ ?_; refine blk_far ?_ NB291_312.out _; refine bl_ ?_; refine blk_far ?_ NB291_312.out _; refine bl_ ?_; exact BK291.out) hb); have n8_ := Aside0.mk (blk_below (g := gb312) (o := .cells #[.int .i64 t306, .slice Ao50 t307.length co50, .int .i64 t310] 28 (0, 0)) (by refine bl_ ?_; refine blk_put (cs := #[.int .i64 t306, .slice Ao50 t307.length co50, .int .i64 0]) ?_ 2 _ rfl; refine bl_ ?_; refine blk_put (cs := #[.int .i64 t306, .slice none 0 0, .int .i64 0]) ?_ 1 _ rfl; refine bl_ ?_; refine blk_put (cs := #[.int .i64 0, .slice none 0 0, .int .i64 0]) ?_ 0 _ rfl; refine bl_ ?_; exact BK312.out) hb); have n9_ := Aside0.mk (below_step (be_ HB.out) hb); clear HO277 HO282 HO289 HO309 BK257 BK258 BK285 BK291 BK312 HB; have HO277 := n0_; have HO282 := n1_; have HO289 := n2_; have HO309 := n3_; have BK257 := n4_; have BK258 := n5_; have BK285 := n6_; have BK291 := n7_; have BK312 := n8_; have HB := n9_; clear n0_ n1_ n2_ n3_ n4_ n5_ n6_ n7_ n8_ n9_; (try clear hb); (try clear hb2); (try clear hk); (try clear hi)))
   go_meet
   case rel => exact ⟨_, ((t311 != t284)), (by first | rfl | (simp; done) | (simp [*]; done)), H', ⟨by first | omega | exact Nat.le_refl _⟩, ⟨by (with_reducible repeat (first | apply Kd.R_alloc | apply Kd.R_drewN | apply Kd.R_drew)); exact Kd.R_mono HO282.out (fun _ hk => ⟨hk.2.1, hk.2.2⟩)⟩, ⟨by (with_reducible repeat (first | apply Kd.R_alloc | apply Kd.R_drewN | apply Kd.R_drew)); exact Kd.R_mono HO289.out (fun _ hk => ⟨hk.2.1, hk.2.2⟩)⟩, ⟨by (with_reducible repeat (first | apply Kd.R_alloc | apply Kd.R_drewN | apply Kd.R_drew)); exact Kd.R_mono HO309.out (fun _ hk => ⟨hk.2.1, hk.2.2⟩)⟩, ⟨by refine bl_ ?_; exact BK257.out⟩, ⟨by refine bl_ ?_; exact BK258.out⟩, ⟨by refine bl_ ?_; exact BK285.out⟩, ⟨by refine bl_ ?_; exact BK291.out⟩, ⟨by refine bl_ ?_; exact BK312.out⟩, ⟨be_ HB.out⟩⟩
  replace c54 := Bool.eq_false_iff.mpr c54
  subst c54
  have H1 : (laws_FnExactOnFailure.j0 k a2 t284 t311 true a0_0 a0_1 a0_2 a0_3 a0_4 a0_5 a0_6 a0_7 a0_8 a0_9 a0_10 a0_11 a0_12 a0_13 a1_0 l1_1 a1_2 t279 t280 t283 t286 t287 t290 t306 t307 t310) = some r := by rw [if_neg (show ¬ (false = true) by decide)] at H; exact H
  clear H
  have H := H1
  clear H1
  have H' := Aside0.mk H
  clear H
  have hnb65 := NB312_257.out
  have hnc65 := NB257_312.out
  have hnb66 := NB312_258.out
  have hnc66 := NB258_312.out
  have hnb67 := NB312_285.out
  have hnc67 := NB285_312.out
  have hnb68 := NB312_291.out
  have hnc68 := NB291_312.out
  obtain ⟨hcz69_0, hcz69_1, hcz69_2, hfz69_0, hfz69_1, hfz69_2⟩ := cz3_ BK312.out
  have hnb70 := NB285_257.out
  have hnc70 := NB257_285.out
  have hnb71 := NB285_258.out
  have hnc71 := NB258_285.out
  have hnb72 := NB285_291.out
  have hnc72 := NB291_285.out
  obtain ⟨hcz73_0, hcz73_1, hcz73_2, hfz73_0, hfz73_1, hfz73_2⟩ := cz3_ BK285.out
  go_wp2_with (first | ((with_reducible refine gate_callee (f := 9) rfl ?_); refine goesL_ (some 44) rfl rfl Try.func9 (by kernel_rfl) rfl #[.agg #[.int .i64 t306, .slice Ao50 t307.length co50, .int .i64 t310], .agg #[.int .i64 t279, .slice Ao31 t280.length co31, .int .i64 t283]] rfl gm_ ?_; (with_reducible refine (laws_eqBreaker.calls k t306 _ _ t307 t310 t279 _ _ t280 t283 false _ ?side1 ?side2 ?side3 ?side4 A53.out).mono ?_); (case side1 => refine (Kd.R_reads' (e := 3) (base := w.heap.size) (ok := fun k_ => (some k_ ≠ (v276 : Value).ownBlock ∧ (some k_ ≠ (.slice Ao31 t280.length co31 : Value).ownBlock ∧ some k_ ≠ (.slice Ao42 t287.length co42 : Value).ownBlock))) (n := t307.length) (c := co50) ?_).2.2; exact (by (with_reducible repeat (first | apply Kd.R_alloc | apply Kd.R_drewN | apply Kd.R_drew)); exact (Kd.R_mono (Kd.R_far (p := ⟨gb312, 2, none⟩) (Kd.R_far (p := ⟨gb312, 1, none⟩) (Kd.R_far (p := ⟨gb312, 0, none⟩) (Kd.R_types HO309.out BK312.out (by decide)) (fun _ hk => hk.2) (.int .i64 t306)) (fun _ hk => hk.2) (.slice Ao50 t307.length co50)) (fun _ hk => hk.2) (.int .i64 t310)) (fun _ h_ => h_.1)))); (case side2 => exact (Kd.R_reads' HO309.out).2.1); (case side3 => refine (Kd.R_reads' (e := 3) (base := w.heap.size) (ok := fun k_ => (some k_ ≠ (v276 : Value).ownBlock ∧ (some k_ ≠ (.slice Ao42 t287.length co42 : Value).ownBlock ∧ some k_ ≠ (.slice Ao50 t307.length co50 : Value).ownBlock))) (n := t280.length) (c := co31) ?_).2.2; exact (by (with_reducible repeat (first | apply Kd.R_alloc | apply Kd.R_drewN | apply Kd.R_drew)); exact (Kd.R_mono (Kd.R_far (p := ⟨gb312, 2, none⟩) (Kd.R_far (p := ⟨gb312, 1, none⟩) (Kd.R_far (p := ⟨gb312, 0, none⟩) (Kd.R_types HO282.out BK312.out (by decide)) (fun _ hk => hk.2) (.int .i64 t306)) (fun _ hk => hk.2) (.slice Ao50 t307.length co50)) (fun _ hk => hk.2) (.int .i64 t310)) (fun _ h_ => h_.1)))); (case side4 => exact (Kd.R_reads' HO282.out).2.1); rintro e w74 ⟨rfl, hb⟩; refine ⟨_, rfl, ?_⟩; have n0_ := Aside0.mk (Kd.R_below (by (with_reducible repeat (first | apply Kd.R_alloc | apply Kd.R_drewN | apply Kd.R_drew)); exact (Kd.R_mono (Kd.R_far (p := ⟨gb312, 2, none⟩) (Kd.R_far (p := ⟨gb312, 1, none⟩) (Kd.R_far (p := ⟨gb312, 0, none⟩) (Kd.R_types HO277.out BK312.out (by decide)) (fun _ hk => hk.2) (.int .i64 t306)) (fun _ hk => hk.2) (.slice Ao50 t307.length co50)) (fun _ hk => hk.2) (.int .i64 t310)) (fun _ h_ => h_.1))) hb); have n1_ := Aside0.mk (Kd.R_below (by (with_reducible repeat (first | apply Kd.R_alloc | apply Kd.R_drewN | apply Kd.R_drew)); exact (Kd.R_mono (Kd.R_far (p := ⟨gb312, 2, none⟩) (Kd.R_far (p := ⟨gb312, 1, none⟩) (Kd.R_far (p := ⟨gb312, 0, none⟩) (Kd.R_types HO282.out BK312.out (by decide)) (fun _ hk => hk.2) (.int .i64 t306)) (fun _ hk => hk.2) (.slice Ao50 t307.length co50)) (fun _ hk => hk.2) (.int .i64 t310)) (fun _ h_ => h_.1))) hb); have n2_ := Aside0.mk (Kd.R_below (by (with_reducible repeat (first | apply Kd.R_alloc | apply Kd.R_drewN | apply Kd.R_drew)); exact (Kd.R_mono (Kd.R_far (p := ⟨gb312, 2, none⟩) (Kd.R_far (p := ⟨gb312, 1, none⟩) (Kd.R_far (p := ⟨gb312, 0, none⟩) (Kd.R_types HO289.out BK312.out (by decide)) (fun _ hk => hk.2) (.int .i64 t306)) (fun _ hk => hk.2) (.slice Ao50 t307.length co50)) (fun _ hk => hk.2) (.int .i64 t310)) (fun _ h_ => h_.1))) hb); have n3_ := Aside0.mk (Kd.R_below (by (with_reducible repeat (first | apply Kd.R_alloc | apply Kd.R_drewN | apply Kd.R_drew)); exact (Kd.R_mono (Kd.R_far (p := ⟨gb312, 2, none⟩) (Kd.R_far (p := ⟨gb312, 1, none⟩) (Kd.R_far (p := ⟨gb312, 0, none⟩) (Kd.R_types HO309.out BK312.out (by decide)) (fun _ hk => hk.2) (.int .i64 t306)) (fun _ hk => hk.2) (.slice Ao50 t307.length co50)) (fun _ hk => hk.2) (.int .i64 t310)) (fun _ h_ => h_.1))) hb); have n4_ := Aside0.mk (blk_below (g := gb257) (o := .cells #[.int .i64 a0_0, .int .i64 a0_1, .int .i64 a0_2, .int .i64 a0_3, .int .i64 a0_4, .int .i64 a0_5, .int .i64 a0_6, .int .i64 a0_7, .int .i64 a0_8, .int .i64 a0_9, .int .i64 a0_10, .int .i64 a0_11, .int .i64 a0_12, .int .i64 a0_13] 23 (0, 0)) (by refine bl_ ?_; refine blk_far ?_ NB257_312.out _; refine bl_ ?_; refine blk_far ?_ NB257_312.out _; refine bl_ ?_; refine blk_far ?_ NB257_312.out _; refine bl_ ?_; exact BK257.out) hb); have n5_ := Aside0.mk (blk_below (g := gb258) (o := .cells #[.int .i64 a1_0, .slice A1_1 l1_1.length c1_1, .int .i64 a1_2] 26 (0, 0)) (by refine bl_ ?_; refine blk_far ?_ NB258_312.out _; refine bl_ ?_; refine blk_far ?_ NB258_312.out _; refine bl_ ?_; refine blk_far ?_ NB258_312.out _; refine bl_ ?_; exact BK258.out) hb); have n6_ := Aside0.mk (blk_below (g := gb285) (o := .cells #[.int .i64 t279, .slice Ao31 t280.length co31, .int .i64 t283] 28 (0, 0)) (by refine bl_ ?_; refine blk_far ?_ NB285_312.out _; refine bl_ ?_; refine blk_far ?_ NB285_312.out _; refine bl_ ?_; refine blk_far ?_ NB285_312.out _; refine bl_ ?_; exact BK285.out) hb); have n7_ := Aside0.mk (blk_below (g := gb291) (o := .cells #[.int .i64 t286, .slice Ao42 t287.length co42, .int .i64 t290] 28 (0, 0)) (by refine bl_ ?_; refine blk_far ?_ NB291_312.out _; refine bl_ ?_; refine blk_far ?_ NB291_312.out _; refine bl_ ?_; refine blk_far ?_ NB291_312.out _; refine bl_ ?_; exact BK291.out) hb); have n8_ := Aside0.mk (blk_below (g := gb312) (o := .cells #[.int .i64 t306, .slice Ao50 t307.length co50, .int .i64 t310] 28 (0, 0)) (by refine bl_ ?_; refine blk_put (cs := #[.int .i64 t306, .slice Ao50 t307.length co50, .int .i64 0]) ?_ 2 _ rfl; refine bl_ ?_; refine blk_put (cs := #[.int .i64 t306, .slice none 0 0, .int .i64 0]) ?_ 1 _ rfl; refine bl_ ?_; refine blk_put (cs := #[.int .i64 0, .slice none 0 0, .int .i64 0]) ?_ 0 _ rfl; refine bl_ ?_; exact BK312.out) hb); have n9_ := Aside0.mk (below_step (be_ HB.out) hb); clear HO277 HO282 HO289 HO309 BK257 BK258 BK285 BK291 BK312 HB; have HO277 := n0_; have HO282 := n1_; have HO289 := n2_; have HO309 := n3_; have BK257 := n4_; have BK258 := n5_; have BK285 := n6_; have BK291 := n7_; have BK312 := n8_; have HB := n9_; clear n0_ n1_ n2_ n3_ n4_ n5_ n6_ n7_ n8_ n9_; (try clear hb); (try clear hb2); (try clear hk); (try clear hi)))
  go_meet
  case rel => exact ⟨_, (true), (by first | rfl | (simp; done) | (simp [*]; done)), H', ⟨by first | omega | exact Nat.le_refl _⟩, ⟨by (with_reducible repeat (first | apply Kd.R_alloc | apply Kd.R_drewN | apply Kd.R_drew)); exact Kd.R_mono HO282.out (fun _ hk => ⟨hk.2.1, hk.2.2⟩)⟩, ⟨by (with_reducible repeat (first | apply Kd.R_alloc | apply Kd.R_drewN | apply Kd.R_drew)); exact Kd.R_mono HO289.out (fun _ hk => ⟨hk.2.1, hk.2.2⟩)⟩, ⟨by (with_reducible repeat (first | apply Kd.R_alloc | apply Kd.R_drewN | apply Kd.R_drew)); exact Kd.R_mono HO309.out (fun _ hk => ⟨hk.2.1, hk.2.2⟩)⟩, ⟨by refine bl_ ?_; exact BK257.out⟩, ⟨by refine bl_ ?_; exact BK258.out⟩, ⟨by refine bl_ ?_; exact BK285.out⟩, ⟨by refine bl_ ?_; exact BK291.out⟩, ⟨by refine bl_ ?_; exact BK312.out⟩, ⟨be_ HB.out⟩⟩
 case rest =>
  clear HC17
  try clear c1
  try clear p2
  try clear c5
  try clear c6
  try clear c7
  try clear c8
  try clear c9
  try clear c54
  try clear c55
  try clear c56
  try clear c57
  try clear c58
  try clear c60
  try clear c61
  try clear c62
  try clear c65
  try clear c66
  try clear c67
  try clear c68
  try clear c70
  try clear c71
  try clear c72
  try clear hcz59_0
  try clear hcz59_1
  try clear hcz59_2
  try clear hcz63_0
  try clear hcz63_1
  try clear hcz63_2
  try clear hcz69_0
  try clear hcz69_1
  try clear hcz69_2
  try clear hcz73_0
  try clear hcz73_1
  try clear hcz73_2
  try clear hfz59_0
  try clear hfz59_1
  try clear hfz59_2
  try clear hfz63_0
  try clear hfz63_1
  try clear hfz63_2
  try clear hfz69_0
  try clear hfz69_1
  try clear hfz69_2
  try clear hfz73_0
  try clear hfz73_1
  try clear hfz73_2
  obtain ⟨kq, x50_16, rfl, HA, HJ16, HO_286001, HO_292001, HO_313001, BK257, BK258, BK285, BK291, BK312, HB⟩ := hcut
  cases kq with
  | zero => exact absurd HA.out (by simp [laws_FnExactOnFailure.j0])
  | succ kj16 =>
   have H := HA.out
   clear HA
   simp only [laws_FnExactOnFailure.j0] at H
   by_cases c75 : x50_16 = true
   ·
    subst c75
    have H1 : (some false) = some r := by rw [if_pos rfl] at H; exact H
    clear H
    have H := H1
    clear H1
    obtain rfl := Option.some.inj H
    go_wp2
    go_ret
    exact ⟨by first | rfl | (simp [errW_none, errW_some] <;> rfl) | (simp [*, errW_none, errW_some] <;> rfl), be_ HB.out⟩
   replace c75 := Bool.eq_false_iff.mpr c75
   subst c75
   have H1 : ((laws_toBreaker.f kj16 a1_0 l1_1 a1_2).bind fun bt314 => ((laws_eqBreaker.f kj16 t286 t287 t290 bt314.1 bt314.2.1 bt314.2.2).bind fun t319 => (if t319 = true then ((laws_markBreaker.f kj16 t286 t287 t290 1).bind fun bt320 => (if bt320.1 < 0 then (laws_FnExactOnFailure.j1 kj16 a2 t284 true a0_0 a0_1 a0_2 a0_3 a0_4 a0_5 a0_6 a0_7 a0_8 a0_9 a0_10 a0_11 a0_12 a0_13 a1_0 l1_1 a1_2 t279 t280 t283 t306 t307 t310) else ((laws_eqBreaker.f kj16 t306 t307 t310 t279 t280 t283).bind fun t322 => (if t322 = true then (laws_FnExactOnFailure.j1 kj16 a2 t284 (t311 != t284) a0_0 a0_1 a0_2 a0_3 a0_4 a0_5 a0_6 a0_7 a0_8 a0_9 a0_10 a0_11 a0_12 a0_13 a1_0 l1_1 a1_2 t279 t280 t283 t306 t307 t310) else (laws_FnExactOnFailure.j1 kj16 a2 t284 true a0_0 a0_1 a0_2 a0_3 a0_4 a0_5 a0_6 a0_7 a0_8 a0_9 a0_10 a0_11 a0_12 a0_13 a1_0 l1_1 a1_2 t279 t280 t283 t306 t307 t310))))) else (some false)))) = some r := by rw [if_neg (show ¬ (false = true) by decide)] at H; exact H
   clear H
   have H := H1
   clear H1
   replace H := Option.bind_eq_some_iff.mp H
   obtain ⟨⟨t314, t315, t318⟩, A760, H⟩ := H
   replace H : ((laws_eqBreaker.f kj16 t286 t287 t290 t314 t315 t318).bind fun t319 => (if t319 = true then ((laws_markBreaker.f kj16 t286 t287 t290 1).bind fun bt320 => (if bt320.1 < 0 then (laws_FnExactOnFailure.j1 kj16 a2 t284 true a0_0 a0_1 a0_2 a0_3 a0_4 a0_5 a0_6 a0_7 a0_8 a0_9 a0_10 a0_11 a0_12 a0_13 a1_0 l1_1 a1_2 t279 t280 t283 t306 t307 t310) else ((laws_eqBreaker.f kj16 t306 t307 t310 t279 t280 t283).bind fun t322 => (if t322 = true then (laws_FnExactOnFailure.j1 kj16 a2 t284 (t311 != t284) a0_0 a0_1 a0_2 a0_3 a0_4 a0_5 a0_6 a0_7 a0_8 a0_9 a0_10 a0_11 a0_12 a0_13 a1_0 l1_1 a1_2 t279 t280 t283 t306 t307 t310) else (laws_FnExactOnFailure.j1 kj16 a2 t284 true a0_0 a0_1 a0_2 a0_3 a0_4 a0_5 a0_6 a0_7 a0_8 a0_9 a0_10 a0_11 a0_12 a0_13 a1_0 l1_1 a1_2 t279 t280 t283 t306 t307 t310))))) else (some false))) = some r := H
   have A76 := Aside0.mk A760
   clear A760
   replace H := Option.bind_eq_some_iff.mp H
   obtain ⟨t319, A770, H⟩ := H
   replace H : (if t319 = true then ((laws_markBreaker.f kj16 t286 t287 t290 1).bind fun bt320 => (if bt320.1 < 0 then (laws_FnExactOnFailure.j1 kj16 a2 t284 true a0_0 a0_1 a0_2 a0_3 a0_4 a0_5 a0_6 a0_7 a0_8 a0_9 a0_10 a0_11 a0_12 a0_13 a1_0 l1_1 a1_2 t279 t280 t283 t306 t307 t310) else ((laws_eqBreaker.f kj16 t306 t307 t310 t279 t280 t283).bind fun t322 => (if t322 = true then (laws_FnExactOnFailure.j1 kj16 a2 t284 (t311 != t284) a0_0 a0_1 a0_2 a0_3 a0_4 a0_5 a0_6 a0_7 a0_8 a0_9 a0_10 a0_11 a0_12 a0_13 a1_0 l1_1 a1_2 t279 t280 t283 t306 t307 t310) else (laws_FnExactOnFailure.j1 kj16 a2 t284 true a0_0 a0_1 a0_2 a0_3 a0_4 a0_5 a0_6 a0_7 a0_8 a0_9 a0_10 a0_11 a0_12 a0_13 a1_0 l1_1 a1_2 t279 t280 t283 t306 t307 t310))))) else (some false)) = some r := H
   have A77 := Aside0.mk A770
   clear A770
   by_cases c78 : t319 = true
   ·
    subst c78
    have H1 : ((laws_markBreaker.f kj16 t286 t287 t290 1).bind fun bt320 => (if bt320.1 < 0 then (laws_FnExactOnFailure.j1 kj16 a2 t284 true a0_0 a0_1 a0_2 a0_3 a0_4 a0_5 a0_6 a0_7 a0_8 a0_9 a0_10 a0_11 a0_12 a0_13 a1_0 l1_1 a1_2 t279 t280 t283 t306 t307 t310) else ((laws_eqBreaker.f kj16 t306 t307 t310 t279 t280 t283).bind fun t322 => (if t322 = true then (laws_FnExactOnFailure.j1 kj16 a2 t284 (t311 != t284) a0_0 a0_1 a0_2 a0_3 a0_4 a0_5 a0_6 a0_7 a0_8 a0_9 a0_10 a0_11 a0_12 a0_13 a1_0 l1_1 a1_2 t279 t280 t283 t306 t307 t310) else (laws_FnExactOnFailure.j1 kj16 a2 t284 true a0_0 a0_1 a0_2 a0_3 a0_4 a0_5 a0_6 a0_7 a0_8 a0_9 a0_10 a0_11 a0_12 a0_13 a1_0 l1_1 a1_2 t279 t280 t283 t306 t307 t310))))) = some r := by rw [if_pos rfl] at H; exact H
    clear H
    have H := H1
    clear H1
    replace H := Option.bind_eq_some_iff.mp H
    obtain ⟨⟨t320, t321⟩, A790, H⟩ := H
    replace H : (if t320 < 0 then (laws_FnExactOnFailure.j1 kj16 a2 t284 true a0_0 a0_1 a0_2 a0_3 a0_4 a0_5 a0_6 a0_7 a0_8 a0_9 a0_10 a0_11 a0_12 a0_13 a1_0 l1_1 a1_2 t279 t280 t283 t306 t307 t310) else ((laws_eqBreaker.f kj16 t306 t307 t310 t279 t280 t283).bind fun t322 => (if t322 = true then (laws_FnExactOnFailure.j1 kj16 a2 t284 (t311 != t284) a0_0 a0_1 a0_2 a0_3 a0_4 a0_5 a0_6 a0_7 a0_8 a0_9 a0_10 a0_11 a0_12 a0_13 a1_0 l1_1 a1_2 t279 t280 t283 t306 t307 t310) else (laws_FnExactOnFailure.j1 kj16 a2 t284 true a0_0 a0_1 a0_2 a0_3 a0_4 a0_5 a0_6 a0_7 a0_8 a0_9 a0_10 a0_11 a0_12 a0_13 a1_0 l1_1 a1_2 t279 t280 t283 t306 t307 t310)))) = some r := H
    have A79 := Aside0.mk A790
    clear A790
    have HC80 := Aside0.mk H
    clear H
    try go_wp2
    have n0_ := Aside0.mk (Kd.R_drew HO_286001.out)
    have n1_ := Aside0.mk (Kd.R_drew HO_292001.out)
    have n2_ := Aside0.mk (Kd.R_drew HO_313001.out)
    have n3_ := Aside0.mk (blk_drew BK257.out)
    have n4_ := Aside0.mk (blk_drew BK258.out)
    have n5_ := Aside0.mk (blk_drew BK285.out)
    have n6_ := Aside0.mk (blk_drew BK291.out)
    have n7_ := Aside0.mk (blk_drew BK312.out)
    have n8_ := Aside0.mk (below_drew1 HB.out)
    clear HO_286001 HO_292001 HO_313001 BK257 BK258 BK285 BK291 BK312 HB
    have HO_286001 := n0_
    have HO_292001 := n1_
    have HO_313001 := n2_
    have BK257 := n3_
    have BK258 := n4_
    have BK285 := n5_
    have BK291 := n6_
    have BK312 := n7_
    have HB := n8_
    clear n0_ n1_ n2_ n3_ n4_ n5_ n6_ n7_ n8_
    refine start_ (n := 5) (S := fun w' => w'.cell? ⟨gb291, 0, none⟩ = some (.int .i64 t286) ∧ w'.cell? ⟨gb291, 1, none⟩ = some (.slice Ao42 t287.length co42) ∧ w'.cell? ⟨gb291, 2, none⟩ = some (.int .i64 t290) ∧ w'.cell? ⟨gb258, 0, none⟩ = some (.int .i64 a1_0) ∧ w'.cell? ⟨gb258, 1, none⟩ = some (.slice A1_1 l1_1.length c1_1) ∧ w'.cell? ⟨gb258, 2, none⟩ = some (.int .i64 a1_2)) (ds := []) #[false, false, false, false, false] (by kernel_rfl) rfl rfl (ck3_ BK291.out (ce3_ BK258.out)) (fun hHeld => ?_)
    generalize wc.drew = w81 at HO_286001 HO_292001 HO_313001 BK257 BK258 BK285 BK291 BK312 HB hHeld ⊢
    refine take_ (i := 0) (N := some 51) (v := ?_) (a' := ?_) #[true, false, false, false, false] rfl rfl (by kernel_rfl) (fun _ _ _ h => h) (Or.inl ⟨by rfl, ?_⟩) hHeld ?_ ?_
    rotate_left
    ·
     rintro w' ⟨s0, s1, s2, s3, s4, s5⟩
     go_simp
     with_reducible rfl
    rotate_left
    ·
     simp only [Act.put, List.setIfInBounds_toArray, List.set_cons_zero, List.set_cons_succ, i64_w, i32_w]
     rfl
    refine take_ (i := 1) (N := some 52) (v := ?_) (a' := ?_) #[true, true, false, false, false] rfl rfl (by kernel_rfl) (fun _ _ _ h => h) (Or.inl ⟨by rfl, ?_⟩) hHeld ?_ ?_
    rotate_left
    ·
     rintro w' ⟨s0, s1, s2, s3, s4, s5⟩
     go_simp
     with_reducible rfl
    rotate_left
    ·
     simp only [Act.put, List.setIfInBounds_toArray, List.set_cons_zero, List.set_cons_succ, i64_w, i32_w]
     rfl
    refine one_ (i := 2) (N := some 53) #[true, true, true, false, false] rfl rfl (by kernel_rfl) (by decide) (fun K hK => ?_)
    refine goes_ Try.func7 (by kernel_rfl) rfl #[.agg #[.int .i64 a1_0, .slice A1_1 l1_1.length c1_1, .int .i64 a1_2]] (by rfl) rfl rfl gm_ ?_
    with_reducible refine (laws_toBreaker.calls kj16 a1_0 _ _ l1_1 a1_2 t314 t315 t318 _ ?side1 ?side2 A76.out).mono ?_
    (case side1 => repeat (first | exact (Kd.C_below HR1_1.out HB.out) | (with_reducible refine Kd.C_alloc ?_ _) | (with_reducible refine Kd.C_drewN ?_ _) | (with_reducible refine Kd.C_drew ?_)))
    (case side2 => exact HC1_1.out)
    rintro e w82 ⟨v316, rfl, ho0, hb⟩
    refine ⟨_, rfl, ?_⟩
    have n0_ := Aside0.mk (Kd.R_elder' (ro_ HO_286001.out) (Kd.R_base ho0) hb)
    have n1_ := Aside0.mk (Kd.R_elder' (ro_ HO_292001.out) (Kd.R_base ho0) hb)
    have n2_ := Aside0.mk (Kd.R_elder' (ro_ HO_313001.out) (Kd.R_base ho0) hb)
    have n3_ := Aside0.mk (Kd.R_lower (Kd.R_new' (Kd.R_new' (Kd.R_new' ho0 (Kd.R_lt (ro_ HO_286001.out))) (Kd.R_lt (ro_ HO_292001.out))) (Kd.R_lt (ro_ HO_313001.out))) (below_size (be_ HB.out)))
    have n4_ := Aside0.mk (blk_below (bl_ BK257.out) hb)
    have n5_ := Aside0.mk (blk_below (bl_ BK258.out) hb)
    have n6_ := Aside0.mk (blk_below (bl_ BK285.out) hb)
    have n7_ := Aside0.mk (blk_below (bl_ BK291.out) hb)
    have n8_ := Aside0.mk (blk_below (bl_ BK312.out) hb)
    have n9_ := Aside0.mk (below_step (be_ HB.out) hb)
    clear HO_286001 HO_292001 HO_313001 BK257 BK258 BK285 BK291 BK312 HB
    have HO_286001 := n0_
    have HO_292001 := n1_
    have HO_313001 := n2_
    have HO317 := n3_
    have BK257 := n4_
    have BK258 := n5_
    have BK285 := n6_
    have BK291 := n7_
    have BK312 := n8_
    have HB := n9_
    clear n0_ n1_ n2_ n3_ n4_ n5_ n6_ n7_ n8_ n9_
    (try clear hb)
    (try clear hb2)
    (try clear hk)
    (try clear hi)
    (try clear ho0)
    obtain ⟨Ao83, co83, eo83⟩ := Kd.R_slice HO317.out
    (first | subst eo83 | (injection eo83 with f1_ f2_ f3_; have f4_ := f1_.symm; have f5_ := f3_.symm; clear f1_ f2_ f3_; subst f4_; subst f5_))
    refine hK.out _ _ (ck3_ BK291.out (ce3_ BK258.out)) (fun hHeld => ?_)
    clear hK K
    refine norm_ (a' := ?_) ?_ ?_
    rotate_left
    ·
     show Act.put _ (some 53) _ = _
     simp only [Act.put, List.setIfInBounds_toArray, List.set_cons_zero, List.set_cons_succ, i64_w, i32_w]
     rfl
    refine one_ (i := 3) (N := some 54) #[true, true, true, true, false] rfl rfl (by kernel_rfl) (by decide) (fun K hK => ?_)
    refine goes_ Try.func9 (by kernel_rfl) rfl #[.agg #[.int .i64 t286, .slice Ao42 t287.length co42, .int .i64 t290], .agg #[.int .i64 t314, .slice Ao83 t315.length co83, .int .i64 t318]] (by rfl) rfl rfl gm_ ?_
    with_reducible refine (laws_eqBreaker.calls kj16 t286 _ _ t287 t290 t314 _ _ t315 t318 true _ ?side1 ?side2 ?side3 ?side4 A77.out).mono ?_
    (case side1 => repeat (first | exact (Kd.R_reads' HO_292001.out).2.2 | (with_reducible refine Kd.C_alloc ?_ _) | (with_reducible refine Kd.C_drewN ?_ _) | (with_reducible refine Kd.C_drew ?_)))
    (case side2 => exact (Kd.R_reads' HO_292001.out).2.1)
    (case side3 => repeat (first | exact (Kd.R_reads' HO317.out).2.2 | (with_reducible refine Kd.C_alloc ?_ _) | (with_reducible refine Kd.C_drewN ?_ _) | (with_reducible refine Kd.C_drew ?_)))
    (case side4 => exact (Kd.R_reads' HO317.out).2.1)
    rintro e w84 ⟨rfl, hb⟩
    refine ⟨_, rfl, ?_⟩
    have n0_ := Aside0.mk (Kd.R_below (ro_ HO_286001.out) hb)
    have n1_ := Aside0.mk (Kd.R_below (ro_ HO_292001.out) hb)
    have n2_ := Aside0.mk (Kd.R_below (ro_ HO_313001.out) hb)
    have n3_ := Aside0.mk (Kd.R_below (ro_ HO317.out) hb)
    have n4_ := Aside0.mk (blk_below (bl_ BK257.out) hb)
    have n5_ := Aside0.mk (blk_below (bl_ BK258.out) hb)
    have n6_ := Aside0.mk (blk_below (bl_ BK285.out) hb)
    have n7_ := Aside0.mk (blk_below (bl_ BK291.out) hb)
    have n8_ := Aside0.mk (blk_below (bl_ BK312.out) hb)
    have n9_ := Aside0.mk (below_step (be_ HB.out) hb)
    clear HO_286001 HO_292001 HO_313001 HO317 BK257 BK258 BK285 BK291 BK312 HB
    have HO_286001 := n0_
    have HO_292001 := n1_
    have HO_313001 := n2_
    have HO317 := n3_
    have BK257 := n4_
    have BK258 := n5_
    have BK285 := n6_
    have BK291 := n7_
    have BK312 := n8_
    have HB := n9_
    clear n0_ n1_ n2_ n3_ n4_ n5_ n6_ n7_ n8_ n9_
    (try clear hb)
    (try clear hb2)
    (try clear hk)
    (try clear hi)
    refine hK.out _ _ (ck3_ BK291.out (ce3_ BK258.out)) (fun hHeld => ?_)
    clear hK K
    refine norm_ (a' := ?_) ?_ ?_
    rotate_left
    ·
     show Act.put _ (some 54) _ = _
     simp only [Act.put, List.setIfInBounds_toArray, List.set_cons_zero, List.set_cons_succ, i64_w, i32_w]
     rfl
    refine pure_ (i := 4) (N := some 55) (v := ?_) (a' := ?_) #[true, true, true, true, true] rfl rfl (by kernel_rfl) (fun _ _ _ h => h) (Or.inl ⟨by rfl, ?_⟩) ?_ ?_
    rotate_left
    ·
     intro w'
     go_simp
     with_reducible rfl
    rotate_left
    ·
     simp only [Act.put, List.setIfInBounds_toArray, List.set_cons_zero, List.set_cons_succ, i64_w, i32_w]
     rfl
    refine done_ (by kernel_rfl) ?_
    have hnb85 := NB291_257.out
    have hnc85 := NB257_291.out
    have hnb86 := NB291_258.out
    have hnc86 := NB258_291.out
    have hnb87 := NB291_285.out
    have hnc87 := NB285_291.out
    have hnb88 := NB291_312.out
    have hnc88 := NB312_291.out
    obtain ⟨hcz89_0, hcz89_1, hcz89_2, hfz89_0, hfz89_1, hfz89_2⟩ := cz3_ BK291.out
    go_upto_region 14 with (first | ((with_reducible refine gate_callee (f := 10) rfl ?_); refine goesL_ (some 58) rfl rfl Try.func10 (by kernel_rfl) rfl #[.agg #[.int .i64 t286, .slice Ao42 t287.length co42, .int .i64 t290], .int .i64 1] rfl gm_ ?_; (with_reducible refine (laws_markBreaker.calls kj16 t286 (fun k_ => some k_ = (.slice Ao42 t287.length co42 : Value).ownBlock) (.slice Ao42 t287.length co42) t287 t290 1 t320 t321 w _ ?side1 ?side2 A79.out).mono ?_); (case side1 => exact be_ HB.out); (case side2 => exact Kd.R_tight rfl HO_292001.out); rintro e w90 ⟨rfl, hy0, hb, hkp⟩; refine ⟨_, rfl, ?_⟩; have n0_ := Aside0.mk (Kd.R_mono (ok' := fun k_ => some k_ ≠ (.slice Ao42 t287.length co42 : Value).ownBlock ∧ some k_ ≠ (.slice Ao50 t307.length co50 : Value).ownBlock ∧ some k_ ≠ (.slice Ao83 t315.length co83 : Value).ownBlock) (Kd.R_keptB (HO_286001.out) hkp rn_) rm_); have n1_ := Aside0.mk (Kd.R_reok rfl hy0 (fun k_ e_ => HO_292001.out.1 k_ e_)); have n2_ := Aside0.mk (Kd.R_mono (ok' := fun k_ => some k_ ≠ (.slice Ao31 t280.length co31 : Value).ownBlock ∧ some k_ ≠ (.slice Ao42 t287.length co42 : Value).ownBlock ∧ some k_ ≠ (.slice Ao83 t315.length co83 : Value).ownBlock) (Kd.R_keptB (HO_313001.out) hkp rn_) rm_); have n3_ := Aside0.mk (blk_kept (bl_ BK257.out) hkp (fun hs_ => (fun e_ => (Kd.R_ne HO_292001.out BK257.out (by decide)) e_) hs_)); have n4_ := Aside0.mk (blk_kept (bl_ BK258.out) hkp (fun hs_ => (fun e_ => (Kd.R_ne HO_292001.out BK258.out (by decide)) e_) hs_)); have n5_ := Aside0.mk (blk_kept (bl_ BK285.out) hkp (fun hs_ => (fun e_ => (Kd.R_ne HO_292001.out BK285.out (by decide)) e_) hs_)); have n6_ := Aside0.mk (blk_kept (bl_ BK291.out) hkp (fun hs_ => (fun e_ => (Kd.R_ne HO_292001.out BK291.out (by decide)) e_) hs_)); have n7_ := Aside0.mk (blk_kept (bl_ BK312.out) hkp (fun hs_ => (fun e_ => (Kd.R_ne HO_292001.out BK312.out (by decide)) e_) hs_)); have n8_ := Aside0.mk (Kd.R_mono (ok' := fun k_ => some k_ ≠ (.slice Ao31 t280.length co31 : Value).ownBlock ∧ some k_ ≠ (.slice Ao42 t287.length co42 : Value).ownBlock ∧ some k_ ≠ (.slice Ao50 t307.length co50 : Value).ownBlock) (Kd.R_keptB (HO317.out) hkp rn_) rm_); have n9_ := Aside0.mk (hb); clear HO_286001 HO_292001 HO_313001 BK257 BK258 BK285 BK291 BK312 HO317 HB; have HO_286001 := n0_; have HO_292001 := n1_; have HO_313001 := n2_; have BK257 := n3_; have BK258 := n4_; have BK285 := n5_; have BK291 := n6_; have BK312 := n7_; have HO317 := n8_; have HB := n9_; clear n0_ n1_ n2_ n3_ n4_ n5_ n6_ n7_ n8_ n9_; (try clear hb); (try clear hkp); (try clear hy0)))
    (try simp only [Act.put, List.setIfInBounds_toArray, List.set_cons_zero, List.set_cons_succ])
    go_cut [71] (fun zv71 wc => ∃ (kq : Nat) (x71_79 : Bool), zv71 = .bool x71_79 ∧ Aside0 (laws_FnExactOnFailure.j1 kq a2 t284 x71_79 a0_0 a0_1 a0_2 a0_3 a0_4 a0_5 a0_6 a0_7 a0_8 a0_9 a0_10 a0_11 a0_12 a0_13 a1_0 l1_1 a1_2 t279 t280 t283 t306 t307 t310 = some r) ∧ Aside0 (kq ≤ kj16) ∧ Aside0 (Kd.R (Kd.int .i64) 3 wc w.heap.size (fun k_ => some k_ ≠ ((.slice Ao42 t287.length co42) : Value).ownBlock ∧ some k_ ≠ ((.slice Ao50 t307.length co50) : Value).ownBlock) (.slice Ao31 t280.length co31) t280) ∧ Aside0 (Kd.R (Kd.int .i64) 3 wc w.heap.size (fun k_ => some k_ ≠ ((.slice Ao31 t280.length co31) : Value).ownBlock ∧ some k_ ≠ ((.slice Ao50 t307.length co50) : Value).ownBlock) (.slice Ao42 t287.length co42) t321) ∧ Aside0 (Kd.R (Kd.int .i64) 3 wc w.heap.size (fun k_ => some k_ ≠ ((.slice Ao31 t280.length co31) : Value).ownBlock ∧ some k_ ≠ ((.slice Ao42 t287.length co42) : Value).ownBlock) (.slice Ao50 t307.length co50) t307) ∧ Aside0 (wc.heap[gb257]? = some (.cells #[.int .i64 a0_0, .int .i64 a0_1, .int .i64 a0_2, .int .i64 a0_3, .int .i64 a0_4, .int .i64 a0_5, .int .i64 a0_6, .int .i64 a0_7, .int .i64 a0_8, .int .i64 a0_9, .int .i64 a0_10, .int .i64 a0_11, .int .i64 a0_12, .int .i64 a0_13] 23 (0, 0))) ∧ Aside0 (wc.heap[gb258]? = some (.cells #[.int .i64 a1_0, (.slice A1_1 l1_1.length c1_1), .int .i64 a1_2] 26 (0, 0))) ∧ Aside0 (wc.heap[gb285]? = some (.cells #[.int .i64 t279, (.slice Ao31 t280.length co31), .int .i64 t283] 28 (0, 0))) ∧ Aside0 (wc.heap[gb291]? = some (.cells #[.int .i64 t286, (.slice Ao42 t287.length co42), .int .i64 t290] 28 (0, 0))) ∧ Aside0 (wc.heap[gb312]? = some (.cells #[.int .i64 t306, (.slice Ao50 t307.length co50), .int .i64 t310] 28 (0, 0))) ∧ Aside0 (Below w.heap.size w wc))
    case first =>
     have H := HC80.out
     clear HC80
     by_cases c91 : t320 < 0
     ·
      rw [if_pos c91] at H
      have c91b0 : decide (t320 < 0) = true := decide_eq_true c91
      clear c91
      (first | rw [c91b0] | (simp only [i64_w, i32_w]; rw [c91b0]) | skip)
      have H' := Aside0.mk H
      clear H
      go_wp2
      go_meet
      case rel => exact ⟨_, (true), (by first | rfl | (simp; done) | (simp [*]; done)), H', ⟨by have := HJ16.out; first | omega | exact Nat.le_refl _⟩, ⟨by (with_reducible repeat (first | apply Kd.R_alloc | apply Kd.R_drewN | apply Kd.R_drew)); exact Kd.R_mono HO_286001.out (fun _ hk => ⟨hk.1, hk.2.1⟩)⟩, ⟨by (with_reducible repeat (first | apply Kd.R_alloc | apply Kd.R_drewN | apply Kd.R_drew)); exact Kd.R_mono HO_292001.out (fun _ hk => ⟨hk.1.1, hk.1.2⟩)⟩, ⟨by (with_reducible repeat (first | apply Kd.R_alloc | apply Kd.R_drewN | apply Kd.R_drew)); exact Kd.R_mono HO_313001.out (fun _ hk => ⟨hk.1, hk.2.1⟩)⟩, ⟨by refine bl_ ?_; exact BK257.out⟩, ⟨by refine bl_ ?_; exact BK258.out⟩, ⟨by refine bl_ ?_; exact BK285.out⟩, ⟨by refine bl_ ?_; exact BK291.out⟩, ⟨by refine bl_ ?_; exact BK312.out⟩, ⟨be_ HB.out⟩⟩
     rw [if_neg c91] at H
     have c91b0 : decide (t320 < 0) = false := decide_eq_false c91
     clear c91
     (first | rw [c91b0] | (simp only [i64_w, i32_w]; rw [c91b0]) | skip)
     replace H := Option.bind_eq_some_iff.mp H
     obtain ⟨t322, A920, H⟩ := H
     replace H : (if t322 = true then (laws_FnExactOnFailure.j1 kj16 a2 t284 (t311 != t284) a0_0 a0_1 a0_2 a0_3 a0_4 a0_5 a0_6 a0_7 a0_8 a0_9 a0_10 a0_11 a0_12 a0_13 a1_0 l1_1 a1_2 t279 t280 t283 t306 t307 t310) else (laws_FnExactOnFailure.j1 kj16 a2 t284 true a0_0 a0_1 a0_2 a0_3 a0_4 a0_5 a0_6 a0_7 a0_8 a0_9 a0_10 a0_11 a0_12 a0_13 a1_0 l1_1 a1_2 t279 t280 t283 t306 t307 t310)) = some r := H
     have A92 := Aside0.mk A920
     clear A920
     by_cases c93 : t322 = true
     ·
      subst c93
      have H1 : (laws_FnExactOnFailure.j1 kj16 a2 t284 (t311 != t284) a0_0 a0_1 a0_2 a0_3 a0_4 a0_5 a0_6 a0_7 a0_8 a0_9 a0_10 a0_11 a0_12 a0_13 a1_0 l1_1 a1_2 t279 t280 t283 t306 t307 t310) = some r := by rw [if_pos rfl] at H; exact H
      clear H
      have H := H1
      clear H1
      have H' := Aside0.mk H
      clear H
      have hnb94 := NB312_257.out
      have hnc94 := NB257_312.out
      have hnb95 := NB312_258.out
      have hnc95 := NB258_312.out
      have hnb96 := NB312_285.out
      have hnc96 := NB285_312.out
      have hnb97 := NB312_291.out
      have hnc97 := NB291_312.out
      obtain ⟨hcz98_0, hcz98_1, hcz98_2, hfz98_0, hfz98_1, hfz98_2⟩ := cz3_ BK312.out
      have hnb99 := NB285_257.out
      have hnc99 := NB257_285.out
      have hnb100 := NB285_258.out
      have hnc100 := NB258_285.out
      have hnb101 := NB285_291.out
      have hnc101 := NB291_285.out
      obtain ⟨hcz102_0, hcz102_1, hcz102_2, hfz102_0, hfz102_1, hfz102_2⟩ := cz3_ BK285.out
      go_wp2_with (first | (go_at_call 9; (with_reducible refine (laws_eqBreaker.calls kj16 t306 _ _ t307 t310 t279 _ _ t280 t283 true _ ?side1 ?side2 ?side3 ?side4 A92.out).mono ?_); (case side1 => repeat (first | exact (Kd.R_reads' HO_313001.out).2.2 | (with_reducible refine Kd.C_alloc ?_ _) | (with_reducible refine Kd.C_drewN ?_ _) | (with_reducible refine Kd.C_drew ?_))); (case side2 => exact (Kd.R_reads' HO_313001.out).2.1); (case side3 => repeat (first | exact (Kd.R_reads' HO_286001.out).2.2 | (with_reducible refine Kd.C_alloc ?_ _) | (with_reducible refine Kd.C_drewN ?_ _) | (with_reducible refine Kd.C_drew ?_))); (case side4 => exact (Kd.R_reads' HO_286001.out).2.1); rintro e w103 ⟨rfl, hb⟩; have n0_ := Aside0.mk (Kd.R_below (ro_ HO_286001.out) hb); have n1_ := Aside0.mk (Kd.R_below (ro_ HO_292001.out) hb); have n2_ := Aside0.mk (Kd.R_below (ro_ HO_313001.out) hb); have n3_ := Aside0.mk (Kd.R_below (ro_ HO317.out) hb); have n4_ := Aside0.mk (blk_below (bl_ BK257.out) hb); have n5_ := Aside0.mk (blk_below (bl_ BK258.out) hb); have n6_ := Aside0.mk (blk_below (bl_ BK285.out) hb); have n7_ := Aside0.mk (blk_below (bl_ BK291.out) hb); have n8_ := Aside0.mk (blk_below (bl_ BK312.out) hb); have n9_ := Aside0.mk (below_step (be_ HB.out) hb); clear HO_286001 HO_292001 HO_313001 HO317 BK257 BK258 BK285 BK291 BK312 HB; have HO_286001 := n0_; have HO_292001 := n1_; have HO_313001 := n2_; have HO317 := n3_; have BK257 := n4_; have BK258 := n5_; have BK285 := n6_; have BK291 := n7_; have BK312 := n8_; have HB := n9_; clear n0_ n1_ n2_ n3_ n4_ n5_ n6_ n7_ n8_ n9_; (try clear hb); (try clear hb2); (try clear hk); (try clear hi)))
      go_meet
      case rel => exact ⟨_, ((t311 != t284)), (by first | rfl | (simp; done) | (simp [*]; done)), H', ⟨by have := HJ16.out; first | omega | exact Nat.le_refl _⟩, ⟨by (with_reducible repeat (first | apply Kd.R_alloc | apply Kd.R_drewN | apply Kd.R_drew)); exact Kd.R_mono HO_286001.out (fun _ hk => ⟨hk.1, hk.2.1⟩)⟩, ⟨by (with_reducible repeat (first | apply Kd.R_alloc | apply Kd.R_drewN | apply Kd.R_drew)); exact Kd.R_mono HO_292001.out (fun _ hk => ⟨hk.1.1, hk.1.2⟩)⟩, ⟨by (with_reducible repeat (first | apply Kd.R_alloc | apply Kd.R_drewN | apply Kd.R_drew)); exact Kd.R_mono HO_313001.out (fun _ hk => ⟨hk.1, hk.2.1⟩)⟩, ⟨by refine bl_ ?_; exact BK257.out⟩, ⟨by refine bl_ ?_; exact BK258.out⟩, ⟨by refine bl_ ?_; exact BK285.out⟩, ⟨by refine bl_ ?_; exact BK291.out⟩, ⟨by refine bl_ ?_; exact BK312.out⟩, ⟨be_ HB.out⟩⟩
     replace c93 := Bool.eq_false_iff.mpr c93
     subst c93
     have H1 : (laws_FnExactOnFailure.j1 kj16 a2 t284 true a0_0 a0_1 a0_2 a0_3 a0_4 a0_5 a0_6 a0_7 a0_8 a0_9 a0_10 a0_11 a0_12 a0_13 a1_0 l1_1 a1_2 t279 t280 t283 t306 t307 t310) = some r := by rw [if_neg (show ¬ (false = true) by decide)] at H; exact H
     clear H
     have H := H1
     clear H1
     have H' := Aside0.mk H
     clear H
     have hnb104 := NB312_257.out
     have hnc104 := NB257_312.out
     have hnb105 := NB312_258.out
     have hnc105 := NB258_312.out
     have hnb106 := NB312_285.out
     have hnc106 := NB285_312.out
     have hnb107 := NB312_291.out
     have hnc107 := NB291_312.out
     obtain ⟨hcz108_0, hcz108_1, hcz108_2, hfz108_0, hfz108_1, hfz108_2⟩ := cz3_ BK312.out
     have hnb109 := NB285_257.out
     have hnc109 := NB257_285.out
     have hnb110 := NB285_258.out
     have hnc110 := NB258_285.out
     have hnb111 := NB285_291.out
     have hnc111 := NB291_285.out
     obtain ⟨hcz112_0, hcz112_1, hcz112_2, hfz112_0, hfz112_1, hfz112_2⟩ := cz3_ BK285.out
     go_wp2_with (first | (go_at_call 9; (with_reducible refine (laws_eqBreaker.calls kj16 t306 _ _ t307 t310 t279 _ _ t280 t283 false _ ?side1 ?side2 ?side3 ?side4 A92.out).mono ?_); (case side1 => repeat (first | exact (Kd.R_reads' HO_313001.out).2.2 | (with_reducible refine Kd.C_alloc ?_ _) | (with_reducible refine Kd.C_drewN ?_ _) | (with_reducible refine Kd.C_drew ?_))); (case side2 => exact (Kd.R_reads' HO_313001.out).2.1); (case side3 => repeat (first | exact (Kd.R_reads' HO_286001.out).2.2 | (with_reducible refine Kd.C_alloc ?_ _) | (with_reducible refine Kd.C_drewN ?_ _) | (with_reducible refine Kd.C_drew ?_))); (case side4 => exact (Kd.R_reads' HO_286001.out).2.1); rintro e w113 ⟨rfl, hb⟩; have n0_ := Aside0.mk (Kd.R_below (ro_ HO_286001.out) hb); have n1_ := Aside0.mk (Kd.R_below (ro_ HO_292001.out) hb); have n2_ := Aside0.mk (Kd.R_below (ro_ HO_313001.out) hb); have n3_ := Aside0.mk (Kd.R_below (ro_ HO317.out) hb); have n4_ := Aside0.mk (blk_below (bl_ BK257.out) hb); have n5_ := Aside0.mk (blk_below (bl_ BK258.out) hb); have n6_ := Aside0.mk (blk_below (bl_ BK285.out) hb); have n7_ := Aside0.mk (blk_below (bl_ BK291.out) hb); have n8_ := Aside0.mk (blk_below (bl_ BK312.out) hb); have n9_ := Aside0.mk (below_step (be_ HB.out) hb); clear HO_286001 HO_292001 HO_313001 HO317 BK257 BK258 BK285 BK291 BK312 HB; have HO_286001 := n0_; have HO_292001 := n1_; have HO_313001 := n2_; have HO317 := n3_; have BK257 := n4_; have BK258 := n5_; have BK285 := n6_; have BK291 := n7_; have BK312 := n8_; have HB := n9_; clear n0_ n1_ n2_ n3_ n4_ n5_ n6_ n7_ n8_ n9_; (try clear hb); (try clear hb2); (try clear hk); (try clear hi)))
     go_meet
     case rel => exact ⟨_, (true), (by first | rfl | (simp; done) | (simp [*]; done)), H', ⟨by have := HJ16.out; first | omega | exact Nat.le_refl _⟩, ⟨by (with_reducible repeat (first | apply Kd.R_alloc | apply Kd.R_drewN | apply Kd.R_drew)); exact Kd.R_mono HO_286001.out (fun _ hk => ⟨hk.1, hk.2.1⟩)⟩, ⟨by (with_reducible repeat (first | apply Kd.R_alloc | apply Kd.R_drewN | apply Kd.R_drew)); exact Kd.R_mono HO_292001.out (fun _ hk => ⟨hk.1.1, hk.1.2⟩)⟩, ⟨by (with_reducible repeat (first | apply Kd.R_alloc | apply Kd.R_drewN | apply Kd.R_drew)); exact Kd.R_mono HO_313001.out (fun _ hk => ⟨hk.1, hk.2.1⟩)⟩, ⟨by refine bl_ ?_; exact BK257.out⟩, ⟨by refine bl_ ?_; exact BK258.out⟩, ⟨by refine bl_ ?_; exact BK285.out⟩, ⟨by refine bl_ ?_; exact BK291.out⟩, ⟨by refine bl_ ?_; exact BK312.out⟩, ⟨be_ HB.out⟩⟩
    case rest =>
     clear HC80
     try clear c1
     try clear p2
     try clear c5
     try clear c6
     try clear c7
     try clear c8
     try clear c9
     try clear c10
     try clear c11
     try clear c54
     try clear c55
     try clear c56
     try clear c57
     try clear c58
     try clear c60
     try clear c61
     try clear c62
     try clear c65
     try clear c66
     try clear c67
     try clear c68
     try clear c70
     try clear c71
     try clear c72
     try clear c75
     try clear c78
     try clear c85
     try clear c86
     try clear c87
     try clear c88
     try clear c91
     try clear c91b0
     try clear c93
     try clear c94
     try clear c95
     try clear c96
     try clear c97
     try clear c99
     try clear c100
     try clear c101
     try clear c104
     try clear c105
     try clear c106
     try clear c107
     try clear c109
     try clear c110
     try clear c111
     try clear hcz102_0
     try clear hcz102_1
     try clear hcz102_2
     try clear hcz108_0
     try clear hcz108_1
     try clear hcz108_2
     try clear hcz112_0
     try clear hcz112_1
     try clear hcz112_2
     try clear hcz59_0
     try clear hcz59_1
     try clear hcz59_2
     try clear hcz63_0
     try clear hcz63_1
     try clear hcz63_2
     try clear hcz69_0
     try clear hcz69_1
     try clear hcz69_2
     try clear hcz73_0
     try clear hcz73_1
     try clear hcz73_2
     try clear hcz89_0
     try clear hcz89_1
     try clear hcz89_2
     try clear hcz98_0
     try clear hcz98_1
     try clear hcz98_2
     try clear hfz102_0
     try clear hfz102_1
     try clear hfz102_2
     try clear hfz108_0
     try clear hfz108_1
     try clear hfz108_2
     try clear hfz112_0
     try clear hfz112_1
     try clear hfz112_2
     try clear hfz59_0
     try clear hfz59_1
     try clear hfz59_2
     try clear hfz63_0
     try clear hfz63_1
     try clear hfz63_2
     try clear hfz69_0
     try clear hfz69_1
     try clear hfz69_2
     try clear hfz73_0
     try clear hfz73_1
     try clear hfz73_2
     try clear hfz89_0
     try clear hfz89_1
     try clear hfz89_2
     try clear hfz98_0
     try clear hfz98_1
     try clear hfz98_2
     try clear p2
     obtain ⟨kq, x71_79, rfl, HA, HJ79, HO_286001, HO_292001, HO_313001, BK257, BK258, BK285, BK291, BK312, HB⟩ := hcut
     have hl292001_79 := (Kd.R_reads' HO_292001.out).1
     rw [hl292001_79] at HO_292001
     (try simp only [hl292001_79])
     (try simp only [hl292001_79] at BK257)
     (try simp only [hl292001_79] at BK258)
     (try simp only [hl292001_79] at BK285)
     (try simp only [hl292001_79] at BK291)
     (try simp only [hl292001_79] at BK312)
     (try simp only [hl292001_79] at HO_286001)
     (try simp only [hl292001_79] at HO_313001)
     cases kq with
     | zero => exact absurd HA.out (by simp [laws_FnExactOnFailure.j1])
     | succ kj79 =>
      have H := HA.out
      clear HA
      simp only [laws_FnExactOnFailure.j1] at H
      by_cases c114 : x71_79 = true
      ·
       subst c114
       have H1 : (some false) = some r := by rw [if_pos rfl] at H; exact H
       clear H
       have H := H1
       clear H1
       obtain rfl := Option.some.inj H
       go_wp2
       go_ret
       exact ⟨by first | rfl | (simp [errW_none, errW_some] <;> rfl) | (simp [*, errW_none, errW_some] <;> rfl), be_ HB.out⟩
      replace c114 := Bool.eq_false_iff.mpr c114
      subst c114
      have H1 : ((laws_markBreaker.f kj79 t306 t307 t310 1).bind fun bt323 => ((laws_heldBreaker.f kj79 t306 bt323.2 t310 1).bind fun t325 => (if t325 < 0 then (some false) else (if t325 = bt323.1 then ((laws_toConfig.f a0_0 a0_1 a0_2 a0_3 a0_4 a0_5 a0_6 a0_7 a0_8 a0_9 a0_10 a0_11 a0_12 a0_13).bind fun bt326 => ((laws_toBreaker.f kj79 a1_0 l1_1 a1_2).bind fun bt340 => ((impl_OnFailure.f kj79 bt326.1 bt326.2.1 bt326.2.2.1 bt326.2.2.2.1 bt326.2.2.2.2.1 bt326.2.2.2.2.2.1 bt326.2.2.2.2.2.2.1 bt326.2.2.2.2.2.2.2.1 bt326.2.2.2.2.2.2.2.2.1 bt326.2.2.2.2.2.2.2.2.2.1 bt326.2.2.2.2.2.2.2.2.2.2.1 bt326.2.2.2.2.2.2.2.2.2.2.2.1 bt326.2.2.2.2.2.2.2.2.2.2.2.2.1 bt326.2.2.2.2.2.2.2.2.2.2.2.2.2 bt340.1 bt340.2.1 bt340.2.2 a2).bind fun bt345 => ((laws_eqBreaker.f kj79 bt345.1 bt345.2.1 bt345.2.2.1 t279 t280 t283).bind fun t352 => (if t352 = true then (laws_FnExactOnFailure.j2 kj79 bt323.1 (bt345.2.2.2 != t284) t306 bt323.2 t310) else (laws_FnExactOnFailure.j2 kj79 bt323.1 true t306 bt323.2 t310)))))) else (some false))))) = some r := by rw [if_neg (show ¬ (false = true) by decide)] at H; exact H
      clear H
      have H := H1
      clear H1
      replace H := Option.bind_eq_some_iff.mp H
      obtain ⟨⟨t323, t324⟩, A1150, H⟩ := H
      replace H : ((laws_heldBreaker.f kj79 t306 t324 t310 1).bind fun t325 => (if t325 < 0 then (some false) else (if t325 = t323 then ((laws_toConfig.f a0_0 a0_1 a0_2 a0_3 a0_4 a0_5 a0_6 a0_7 a0_8 a0_9 a0_10 a0_11 a0_12 a0_13).bind fun bt326 => ((laws_toBreaker.f kj79 a1_0 l1_1 a1_2).bind fun bt340 => ((impl_OnFailure.f kj79 bt326.1 bt326.2.1 bt326.2.2.1 bt326.2.2.2.1 bt326.2.2.2.2.1 bt326.2.2.2.2.2.1 bt326.2.2.2.2.2.2.1 bt326.2.2.2.2.2.2.2.1 bt326.2.2.2.2.2.2.2.2.1 bt326.2.2.2.2.2.2.2.2.2.1 bt326.2.2.2.2.2.2.2.2.2.2.1 bt326.2.2.2.2.2.2.2.2.2.2.2.1 bt326.2.2.2.2.2.2.2.2.2.2.2.2.1 bt326.2.2.2.2.2.2.2.2.2.2.2.2.2 bt340.1 bt340.2.1 bt340.2.2 a2).bind fun bt345 => ((laws_eqBreaker.f kj79 bt345.1 bt345.2.1 bt345.2.2.1 t279 t280 t283).bind fun t352 => (if t352 = true then (laws_FnExactOnFailure.j2 kj79 t323 (bt345.2.2.2 != t284) t306 t324 t310) else (laws_FnExactOnFailure.j2 kj79 t323 true t306 t324 t310)))))) else (some false)))) = some r := H
      have A115 := Aside0.mk A1150
      clear A1150
      replace H := Option.bind_eq_some_iff.mp H
      obtain ⟨t325, A1160, H⟩ := H
      replace H : (if t325 < 0 then (some false) else (if t325 = t323 then ((laws_toConfig.f a0_0 a0_1 a0_2 a0_3 a0_4 a0_5 a0_6 a0_7 a0_8 a0_9 a0_10 a0_11 a0_12 a0_13).bind fun bt326 => ((laws_toBreaker.f kj79 a1_0 l1_1 a1_2).bind fun bt340 => ((impl_OnFailure.f kj79 bt326.1 bt326.2.1 bt326.2.2.1 bt326.2.2.2.1 bt326.2.2.2.2.1 bt326.2.2.2.2.2.1 bt326.2.2.2.2.2.2.1 bt326.2.2.2.2.2.2.2.1 bt326.2.2.2.2.2.2.2.2.1 bt326.2.2.2.2.2.2.2.2.2.1 bt326.2.2.2.2.2.2.2.2.2.2.1 bt326.2.2.2.2.2.2.2.2.2.2.2.1 bt326.2.2.2.2.2.2.2.2.2.2.2.2.1 bt326.2.2.2.2.2.2.2.2.2.2.2.2.2 bt340.1 bt340.2.1 bt340.2.2 a2).bind fun bt345 => ((laws_eqBreaker.f kj79 bt345.1 bt345.2.1 bt345.2.2.1 t279 t280 t283).bind fun t352 => (if t352 = true then (laws_FnExactOnFailure.j2 kj79 t323 (bt345.2.2.2 != t284) t306 t324 t310) else (laws_FnExactOnFailure.j2 kj79 t323 true t306 t324 t310)))))) else (some false))) = some r := H
      have A116 := Aside0.mk A1160
      clear A1160
      by_cases c117 : t325 < 0
      ·
       rw [if_pos c117] at H
       have c117b0 : decide (t325 < 0) = true := decide_eq_true c117
       clear c117
       obtain rfl := Option.some.inj H
       have hnb118 := NB312_257.out
       have hnc118 := NB257_312.out
       have hnb119 := NB312_258.out
       have hnc119 := NB258_312.out
       have hnb120 := NB312_285.out
       have hnc120 := NB285_312.out
       have hnb121 := NB312_291.out
       have hnc121 := NB291_312.out
       obtain ⟨hcz122_0, hcz122_1, hcz122_2, hfz122_0, hfz122_1, hfz122_2⟩ := cz3_ BK312.out
       go_wp2_with (first | ((with_reducible refine gate_callee (f := 10) rfl ?_); refine goesL_ (some 74) rfl rfl Try.func10 (by kernel_rfl) rfl #[.agg #[.int .i64 t306, .slice Ao50 t307.length co50, .int .i64 t310], .int .i64 1] rfl gm_ ?_; (with_reducible refine (laws_markBreaker.calls kj79 t306 (fun k_ => some k_ = (.slice Ao50 t307.length co50 : Value).ownBlock) (.slice Ao50 t307.length co50) t307 t310 1 t323 t324 w _ ?side1 ?side2 A115.out).mono ?_); (case side1 => exact be_ HB.out); (case side2 => exact Kd.R_tight rfl HO_313001.out); rintro e w123 ⟨rfl, hy0, hb, hkp⟩; refine ⟨_, rfl, ?_⟩; have n0_ := Aside0.mk (Kd.R_mono (ok' := fun k_ => some k_ ≠ (.slice Ao42 t321.length co42 : Value).ownBlock ∧ some k_ ≠ (.slice Ao50 t307.length co50 : Value).ownBlock) (Kd.R_keptB (HO_286001.out) hkp rn_) rm_); have n1_ := Aside0.mk (Kd.R_mono (ok' := fun k_ => some k_ ≠ (.slice Ao31 t280.length co31 : Value).ownBlock ∧ some k_ ≠ (.slice Ao50 t307.length co50 : Value).ownBlock) (Kd.R_keptB (HO_292001.out) hkp rn_) rm_); have n2_ := Aside0.mk (Kd.R_reok rfl hy0 (fun k_ e_ => HO_313001.out.1 k_ e_)); have n3_ := Aside0.mk (blk_kept (bl_ BK257.out) hkp (fun hs_ => (fun e_ => (Kd.R_ne HO_313001.out BK257.out (by decide)) e_) hs_)); have n4_ := Aside0.mk (blk_kept (bl_ BK258.out) hkp (fun hs_ => (fun e_ => (Kd.R_ne HO_313001.out BK258.out (by decide)) e_) hs_)); have n5_ := Aside0.mk (blk_kept (bl_ BK285.out) hkp (fun hs_ => (fun e_ => (Kd.R_ne HO_313001.out BK285.out (by decide)) e_) hs_)); have n6_ := Aside0.mk (blk_kept (bl_ BK291.out) hkp (fun hs_ => (fun e_ => (Kd.R_ne HO_313001.out BK291.out (by decide)) e_) hs_)); have n7_ := Aside0.mk (blk_kept (bl_ BK312.out) hkp (fun hs_ => (fun e_ => (Kd.R_ne HO_313001.out BK312.out (by decide)) e_) hs_)); have n8_ := Aside0.mk (hb); clear HO_286001 HO_292001 HO_313001 BK257 BK258 BK285 BK291 BK312 HB; have HO_286001 := n0_; have HO_292001 := n1_; have HO_313001 := n2_; have BK257 := n3_; have BK258 := n4_; have BK285 := n5_; have BK291 := n6_; have BK312 := n7_; have HB := n8_; clear n0_ n1_ n2_ n3_ n4_ n5_ n6_ n7_ n8_; (try clear hb); (try clear hkp); (try clear hy0); obtain ⟨hcz124_0, hcz124_1, hcz124_2, hfz124_0, hfz124_1, hfz124_2⟩ := cz3_ BK312.out) | ((with_reducible refine gate_callee (f := 11) rfl ?_); refine goesL_ (some 77) rfl rfl Try.func11 (by kernel_rfl) rfl #[.agg #[.int .i64 t306, .slice Ao50 t324.length co50, .int .i64 t310], .int .i64 1] rfl (by (try simp only [List.map_toArray, List.map_cons, List.map_nil]); first | done | (rw [show t324.length = t307.length from (Kd.R_reads' HO_313001.out).1.symm] <;> rfl) | rfl | (simp only [List.length_drop, List.length_take]; rfl)) ?_; (with_reducible refine (laws_heldBreaker.calls kj79 t306 _ _ t324 t310 1 t325 _ ?side1 ?side2 A116.out).mono ?_); (case side1 => repeat (first | exact (Kd.R_reads' HO_313001.out).2.2 | (with_reducible refine Kd.C_alloc ?_ _) | (with_reducible refine Kd.C_drewN ?_ _) | (with_reducible refine Kd.C_drew ?_))); (case side2 => rw [show t324.length = t307.length from (Kd.R_reads' HO_313001.out).1.symm]; exact (Kd.R_reads' HO_313001.out).2.1); rintro e w125 ⟨rfl, hb⟩; refine ⟨_, rfl, ?_⟩; have n0_ := Aside0.mk (Kd.R_below (ro_ HO_286001.out) hb); have n1_ := Aside0.mk (Kd.R_below (ro_ HO_292001.out) hb); have n2_ := Aside0.mk (Kd.R_below (ro_ HO_313001.out) hb); have n3_ := Aside0.mk (blk_below (bl_ BK257.out) hb); have n4_ := Aside0.mk (blk_below (bl_ BK258.out) hb); have n5_ := Aside0.mk (blk_below (bl_ BK285.out) hb); have n6_ := Aside0.mk (blk_below (bl_ BK291.out) hb); have n7_ := Aside0.mk (blk_below (bl_ BK312.out) hb); have n8_ := Aside0.mk (below_step (be_ HB.out) hb); clear HO_286001 HO_292001 HO_313001 BK257 BK258 BK285 BK291 BK312 HB; have HO_286001 := n0_; have HO_292001 := n1_; have HO_313001 := n2_; have BK257 := n3_; have BK258 := n4_; have BK285 := n5_; have BK291 := n6_; have BK312 := n7_; have HB := n8_; clear n0_ n1_ n2_ n3_ n4_ n5_ n6_ n7_ n8_; (try clear hb); (try clear hb2); (try clear hk); (try clear hi)))
       go_ret
       exact ⟨by first | rfl | (simp [errW_none, errW_some] <;> rfl) | (simp [*, errW_none, errW_some] <;> rfl), be_ HB.out⟩
      rw [if_neg c117] at H
      have c117b0 : decide (t325 < 0) = false := decide_eq_false c117
      clear c117
      by_cases c126 : t325 = t323
      ·
       rw [if_pos c126] at H
       have c126b0 : (t325 == t323) = true := beq_iff_eq.mpr c126
       have c126b1 : (t325 != t323) = false := bne_eq_false_iff_eq.mpr c126
       clear c126
       replace H := Option.bind_eq_some_iff.mp H
       obtain ⟨⟨t326, t327, t328, t329, t330, t331, t332, t333, t334, t335, t336, t337, t338, t339⟩, A1270, H⟩ := H
       replace H : ((laws_toBreaker.f kj79 a1_0 l1_1 a1_2).bind fun bt340 => ((impl_OnFailure.f kj79 t326 t327 t328 t329 t330 t331 t332 t333 t334 t335 t336 t337 t338 t339 bt340.1 bt340.2.1 bt340.2.2 a2).bind fun bt345 => ((laws_eqBreaker.f kj79 bt345.1 bt345.2.1 bt345.2.2.1 t279 t280 t283).bind fun t352 => (if t352 = true then (laws_FnExactOnFailure.j2 kj79 t323 (bt345.2.2.2 != t284) t306 t324 t310) else (laws_FnExactOnFailure.j2 kj79 t323 true t306 t324 t310))))) = some r := H
       have A127 := Aside0.mk A1270
       clear A1270
       replace H := Option.bind_eq_some_iff.mp H
       obtain ⟨⟨t340, t341, t344⟩, A1280, H⟩ := H
       replace H : ((impl_OnFailure.f kj79 t326 t327 t328 t329 t330 t331 t332 t333 t334 t335 t336 t337 t338 t339 t340 t341 t344 a2).bind fun bt345 => ((laws_eqBreaker.f kj79 bt345.1 bt345.2.1 bt345.2.2.1 t279 t280 t283).bind fun t352 => (if t352 = true then (laws_FnExactOnFailure.j2 kj79 t323 (bt345.2.2.2 != t284) t306 t324 t310) else (laws_FnExactOnFailure.j2 kj79 t323 true t306 t324 t310)))) = some r := H
       have A128 := Aside0.mk A1280
       clear A1280
       replace H := Option.bind_eq_some_iff.mp H
       obtain ⟨⟨t345, t346, t349, t350⟩, A1290, H⟩ := H
       replace H : ((laws_eqBreaker.f kj79 t345 t346 t349 t279 t280 t283).bind fun t352 => (if t352 = true then (laws_FnExactOnFailure.j2 kj79 t323 (t350 != t284) t306 t324 t310) else (laws_FnExactOnFailure.j2 kj79 t323 true t306 t324 t310))) = some r := H
       have A129 := Aside0.mk A1290
       clear A1290
       have HC130 := Aside0.mk H
       clear H
       have hnb131 := NB312_257.out
       have hnc131 := NB257_312.out
       have hnb132 := NB312_258.out
       have hnc132 := NB258_312.out
       have hnb133 := NB312_285.out
       have hnc133 := NB285_312.out
       have hnb134 := NB312_291.out
       have hnc134 := NB291_312.out
       obtain ⟨hcz135_0, hcz135_1, hcz135_2, hfz135_0, hfz135_1, hfz135_2⟩ := cz3_ BK312.out
       try go_wp2_with (first | ((with_reducible refine gate_callee (f := 10) rfl ?_); refine goesL_ (some 74) rfl rfl Try.func10 (by kernel_rfl) rfl #[.agg #[.int .i64 t306, .slice Ao50 t307.length co50, .int .i64 t310], .int .i64 1] rfl gm_ ?_; (with_reducible refine (laws_markBreaker.calls kj79 t306 (fun k_ => some k_ = (.slice Ao50 t307.length co50 : Value).ownBlock) (.slice Ao50 t307.length co50) t307 t310 1 t323 t324 w _ ?side1 ?side2 A115.out).mono ?_); (case side1 => exact be_ HB.out); (case side2 => exact Kd.R_tight rfl HO_313001.out); rintro e w136 ⟨rfl, hy0, hb, hkp⟩; refine ⟨_, rfl, ?_⟩; have n0_ := Aside0.mk (Kd.R_mono (ok' := fun k_ => some k_ ≠ (.slice Ao42 t321.length co42 : Value).ownBlock ∧ some k_ ≠ (.slice Ao50 t307.length co50 : Value).ownBlock) (Kd.R_keptB (HO_286001.out) hkp rn_) rm_); have n1_ := Aside0.mk (Kd.R_mono (ok' := fun k_ => some k_ ≠ (.slice Ao31 t280.length co31 : Value).ownBlock ∧ some k_ ≠ (.slice Ao50 t307.length co50 : Value).ownBlock) (Kd.R_keptB (HO_292001.out) hkp rn_) rm_); have n2_ := Aside0.mk (Kd.R_reok rfl hy0 (fun k_ e_ => HO_313001.out.1 k_ e_)); have n3_ := Aside0.mk (blk_kept (bl_ BK257.out) hkp (fun hs_ => (fun e_ => (Kd.R_ne HO_313001.out BK257.out (by decide)) e_) hs_)); have n4_ := Aside0.mk (blk_kept (bl_ BK258.out) hkp (fun hs_ => (fun e_ => (Kd.R_ne HO_313001.out BK258.out (by decide)) e_) hs_)); have n5_ := Aside0.mk (blk_kept (bl_ BK285.out) hkp (fun hs_ => (fun e_ => (Kd.R_ne HO_313001.out BK285.out (by decide)) e_) hs_)); have n6_ := Aside0.mk (blk_kept (bl_ BK291.out) hkp (fun hs_ => (fun e_ => (Kd.R_ne HO_313001.out BK291.out (by decide)) e_) hs_)); have n7_ := Aside0.mk (blk_kept (bl_ BK312.out) hkp (fun hs_ => (fun e_ => (Kd.R_ne HO_313001.out BK312.out (by decide)) e_) hs_)); have n8_ := Aside0.mk (hb); clear HO_286001 HO_292001 HO_313001 BK257 BK258 BK285 BK291 BK312 HB; have HO_286001 := n0_; have HO_292001 := n1_; have HO_313001 := n2_; have BK257 := n3_; have BK258 := n4_; have BK285 := n5_; have BK291 := n6_; have BK312 := n7_; have HB := n8_; clear n0_ n1_ n2_ n3_ n4_ n5_ n6_ n7_ n8_; (try clear hb); (try clear hkp); (try clear hy0); obtain ⟨hcz137_0, hcz137_1, hcz137_2, hfz137_0, hfz137_1, hfz137_2⟩ := cz3_ BK312.out) | ((with_reducible refine gate_callee (f := 11) rfl ?_); refine goesL_ (some 77) rfl rfl Try.func11 (by kernel_rfl) rfl #[.agg #[.int .i64 t306, .slice Ao50 t324.length co50, .int .i64 t310], .int .i64 1] rfl (by (try simp only [List.map_toArray, List.map_cons, List.map_nil]); first | done | (rw [show t324.length = t307.length from (Kd.R_reads' HO_313001.out).1.symm] <;> rfl) | rfl | (simp only [List.length_drop, List.length_take]; rfl)) ?_; (with_reducible refine (laws_heldBreaker.calls kj79 t306 _ _ t324 t310 1 t325 _ ?side1 ?side2 A116.out).mono ?_); (case side1 => repeat (first | exact (Kd.R_reads' HO_313001.out).2.2 | (with_reducible refine Kd.C_alloc ?_ _) | (with_reducible refine Kd.C_drewN ?_ _) | (with_reducible refine Kd.C_drew ?_))); (case side2 => rw [show t324.length = t307.length from (Kd.R_reads' HO_313001.out).1.symm]; exact (Kd.R_reads' HO_313001.out).2.1); rintro e w138 ⟨rfl, hb⟩; refine ⟨_, rfl, ?_⟩; have n0_ := Aside0.mk (Kd.R_below (ro_ HO_286001.out) hb); have n1_ := Aside0.mk (Kd.R_below (ro_ HO_292001.out) hb); have n2_ := Aside0.mk (Kd.R_below (ro_ HO_313001.out) hb); have n3_ := Aside0.mk (blk_below (bl_ BK257.out) hb); have n4_ := Aside0.mk (blk_below (bl_ BK258.out) hb); have n5_ := Aside0.mk (blk_below (bl_ BK285.out) hb); have n6_ := Aside0.mk (blk_below (bl_ BK291.out) hb); have n7_ := Aside0.mk (blk_below (bl_ BK312.out) hb); have n8_ := Aside0.mk (below_step (be_ HB.out) hb); clear HO_286001 HO_292001 HO_313001 BK257 BK258 BK285 BK291 BK312 HB; have HO_286001 := n0_; have HO_292001 := n1_; have HO_313001 := n2_; have BK257 := n3_; have BK258 := n4_; have BK285 := n5_; have BK291 := n6_; have BK312 := n7_; have HB := n8_; clear n0_ n1_ n2_ n3_ n4_ n5_ n6_ n7_ n8_; (try clear hb); (try clear hb2); (try clear hk); (try clear hi)))
       have n0_ := Aside0.mk (Kd.R_drew HO_286001.out)
       have n1_ := Aside0.mk (Kd.R_drew HO_292001.out)
       have n2_ := Aside0.mk (Kd.R_drew HO_313001.out)
       have n3_ := Aside0.mk (blk_drew BK257.out)
       have n4_ := Aside0.mk (blk_drew BK258.out)
       have n5_ := Aside0.mk (blk_drew BK285.out)
       have n6_ := Aside0.mk (blk_drew BK291.out)
       have n7_ := Aside0.mk (blk_drew BK312.out)
       have n8_ := Aside0.mk (below_drew1 HB.out)
       clear HO_286001 HO_292001 HO_313001 BK257 BK258 BK285 BK291 BK312 HB
       have HO_286001 := n0_
       have HO_292001 := n1_
       have HO_313001 := n2_
       have BK257 := n3_
       have BK258 := n4_
       have BK285 := n5_
       have BK291 := n6_
       have BK312 := n7_
       have HB := n8_
       clear n0_ n1_ n2_ n3_ n4_ n5_ n6_ n7_ n8_
       refine start_ (n := 12) (S := fun w' => w'.cell? ⟨gb257, 0, none⟩ = some (.int .i64 a0_0) ∧ w'.cell? ⟨gb257, 1, none⟩ = some (.int .i64 a0_1) ∧ w'.cell? ⟨gb257, 2, none⟩ = some (.int .i64 a0_2) ∧ w'.cell? ⟨gb257, 3, none⟩ = some (.int .i64 a0_3) ∧ w'.cell? ⟨gb257, 4, none⟩ = some (.int .i64 a0_4) ∧ w'.cell? ⟨gb257, 5, none⟩ = some (.int .i64 a0_5) ∧ w'.cell? ⟨gb257, 6, none⟩ = some (.int .i64 a0_6) ∧ w'.cell? ⟨gb257, 7, none⟩ = some (.int .i64 a0_7) ∧ w'.cell? ⟨gb257, 8, none⟩ = some (.int .i64 a0_8) ∧ w'.cell? ⟨gb257, 9, none⟩ = some (.int .i64 a0_9) ∧ w'.cell? ⟨gb257, 10, none⟩ = some (.int .i64 a0_10) ∧ w'.cell? ⟨gb257, 11, none⟩ = some (.int .i64 a0_11) ∧ w'.cell? ⟨gb257, 12, none⟩ = some (.int .i64 a0_12) ∧ w'.cell? ⟨gb257, 13, none⟩ = some (.int .i64 a0_13) ∧ w'.cell? ⟨gb258, 0, none⟩ = some (.int .i64 a1_0) ∧ w'.cell? ⟨gb258, 1, none⟩ = some (.slice A1_1 l1_1.length c1_1) ∧ w'.cell? ⟨gb258, 2, none⟩ = some (.int .i64 a1_2)) (ds := []) #[false, false, false, false, false, false, false, false, false, false, false, false] (by kernel_rfl) rfl rfl (ck14_ BK257.out (ce3_ BK258.out)) (fun hHeld => ?_); refine with_tabW laws_FnExactOnFailure.tab24 laws_FnExactOnFailure.bits24 (fun HT_ HW_ => ?_)
       generalize w138.drew = w139 at HO_286001 HO_292001 HO_313001 BK257 BK258 BK285 BK291 BK312 HB hHeld ⊢
       refine pure_ (i := 4) (N := some 88) (v := ?_) (a' := ?_) #[false, false, false, false, true, false, false, false, false, false, false, false] rfl rfl (any_of HT_.out (by kernel_rfl)) (fun _ _ _ h => h) (Or.inl ⟨by rfl, ?_⟩) ?_ ?_
       rotate_left
       ·
        intro w'
        go_simp
        with_reducible rfl
       rotate_left
       ·
        simp only [Act.put, List.setIfInBounds_toArray, List.set_cons_zero, List.set_cons_succ, i64_w, i32_w]
        rfl
       refine take_ (i := 0) (N := some 84) (v := ?_) (a' := ?_) #[true, false, false, false, true, false, false, false, false, false, false, false] rfl rfl (take_ofW HT_.out HW_.out (by kernel_rfl)) (fun _ _ _ h => h) (Or.inl ⟨by rfl, ?_⟩) hHeld ?_ ?_
       rotate_left
       ·
        rintro w' ⟨s0, s1, s2, s3, s4, s5, s6, s7, s8, s9, s10, s11, s12, s13, s14, s15, s16⟩
        go_simp
        with_reducible rfl
       rotate_left
       ·
        simp only [Act.put, List.setIfInBounds_toArray, List.set_cons_zero, List.set_cons_succ, i64_w, i32_w]
        rfl
       refine take_ (i := 2) (N := some 86) (v := ?_) (a' := ?_) #[true, false, true, false, true, false, false, false, false, false, false, false] rfl rfl (take_ofW HT_.out HW_.out (by kernel_rfl)) (fun _ _ _ h => h) (Or.inl ⟨by rfl, ?_⟩) hHeld ?_ ?_
       rotate_left
       ·
        rintro w' ⟨s0, s1, s2, s3, s4, s5, s6, s7, s8, s9, s10, s11, s12, s13, s14, s15, s16⟩
        go_simp
        with_reducible rfl
       rotate_left
       ·
        simp only [Act.put, List.setIfInBounds_toArray, List.set_cons_zero, List.set_cons_succ, i64_w, i32_w]
        rfl
       refine join_ (σ := Value × Value × Nat) 2 #[true, true, true, true, true, true, true, true, true, true, false, false] (fun s_ => [(85, .agg #[.int .i64 t326, .int .i64 t327, .int .i64 t328, .int .i64 t329, .int .i64 t330, .int .i64 t331, .int .i64 t332, .int .i64 t333, .int .i64 t334, .int .i64 t335, .int .i64 t336, .int .i64 t337, .int .i64 t338, .int .i64 t339]), (87, .agg #[.int .i64 t340, s_.1, .int .i64 t344]), (89, .tuple #[.agg #[.int .i64 t345, s_.2.1, .int .i64 t349], .bool t350]), (16, .pointer (some ⟨s_.2.2, 0, none⟩)), (83, .tuple #[.agg #[.int .i64 t345, s_.2.1, .int .i64 t349], .bool t350]), (90, .agg #[.int .i64 t345, s_.2.1, .int .i64 t349]), (91, .bool t350)]) (fun s_ w' => (w'.cell? ⟨gb257, 0, none⟩ = some (.int .i64 a0_0) ∧ w'.cell? ⟨gb257, 1, none⟩ = some (.int .i64 a0_1) ∧ w'.cell? ⟨gb257, 2, none⟩ = some (.int .i64 a0_2) ∧ w'.cell? ⟨gb257, 3, none⟩ = some (.int .i64 a0_3) ∧ w'.cell? ⟨gb257, 4, none⟩ = some (.int .i64 a0_4) ∧ w'.cell? ⟨gb257, 5, none⟩ = some (.int .i64 a0_5) ∧ w'.cell? ⟨gb257, 6, none⟩ = some (.int .i64 a0_6) ∧ w'.cell? ⟨gb257, 7, none⟩ = some (.int .i64 a0_7) ∧ w'.cell? ⟨gb257, 8, none⟩ = some (.int .i64 a0_8) ∧ w'.cell? ⟨gb257, 9, none⟩ = some (.int .i64 a0_9) ∧ w'.cell? ⟨gb257, 10, none⟩ = some (.int .i64 a0_10) ∧ w'.cell? ⟨gb257, 11, none⟩ = some (.int .i64 a0_11) ∧ w'.cell? ⟨gb257, 12, none⟩ = some (.int .i64 a0_12) ∧ w'.cell? ⟨gb257, 13, none⟩ = some (.int .i64 a0_13) ∧ w'.cell? ⟨gb258, 0, none⟩ = some (.int .i64 a1_0) ∧ w'.cell? ⟨gb258, 1, none⟩ = some (.slice A1_1 l1_1.length c1_1) ∧ w'.cell? ⟨gb258, 2, none⟩ = some (.int .i64 a1_2)) ∧ (Kd.R (Kd.int .i64) 3 w' w.heap.size (fun k_ => some k_ ≠ (s_.2.1 : Value).ownBlock ∧ some k_ ≠ (.slice Ao31 t280.length co31 : Value).ownBlock ∧ some k_ ≠ (.slice Ao42 t321.length co42 : Value).ownBlock ∧ some k_ ≠ (.slice Ao50 t307.length co50 : Value).ownBlock) s_.1 t341) ∧ (Kd.R (Kd.int .i64) 3 w' w.heap.size (fun k_ => some k_ ≠ (s_.1 : Value).ownBlock ∧ some k_ ≠ (.slice Ao31 t280.length co31 : Value).ownBlock ∧ some k_ ≠ (.slice Ao42 t321.length co42 : Value).ownBlock ∧ some k_ ≠ (.slice Ao50 t307.length co50 : Value).ownBlock) s_.2.1 t346) ∧ (Kd.R (Kd.int .i64) 3 w' w.heap.size (fun k_ => some k_ ≠ (s_.1 : Value).ownBlock ∧ some k_ ≠ (s_.2.1 : Value).ownBlock ∧ some k_ ≠ (.slice Ao42 t321.length co42 : Value).ownBlock ∧ some k_ ≠ (.slice Ao50 t307.length co50 : Value).ownBlock) (.slice Ao31 t280.length co31) t280) ∧ (Kd.R (Kd.int .i64) 3 w' w.heap.size (fun k_ => some k_ ≠ (s_.1 : Value).ownBlock ∧ some k_ ≠ (s_.2.1 : Value).ownBlock ∧ some k_ ≠ (.slice Ao31 t280.length co31 : Value).ownBlock ∧ some k_ ≠ (.slice Ao50 t307.length co50 : Value).ownBlock) (.slice Ao42 t321.length co42) t321) ∧ (Kd.R (Kd.int .i64) 3 w' w.heap.size (fun k_ => some k_ ≠ (s_.1 : Value).ownBlock ∧ some k_ ≠ (s_.2.1 : Value).ownBlock ∧ some k_ ≠ (.slice Ao31 t280.length co31 : Value).ownBlock ∧ some k_ ≠ (.slice Ao42 t321.length co42 : Value).ownBlock) (.slice Ao50 t307.length co50) t324) ∧ (w'.heap[gb257]? = some (.cells #[.int .i64 a0_0, .int .i64 a0_1, .int .i64 a0_2, .int .i64 a0_3, .int .i64 a0_4, .int .i64 a0_5, .int .i64 a0_6, .int .i64 a0_7, .int .i64 a0_8, .int .i64 a0_9, .int .i64 a0_10, .int .i64 a0_11, .int .i64 a0_12, .int .i64 a0_13] 23 (0, 0))) ∧ (w'.heap[gb258]? = some (.cells #[.int .i64 a1_0, .slice A1_1 l1_1.length c1_1, .int .i64 a1_2] 26 (0, 0))) ∧ (w'.heap[gb285]? = some (.cells #[.int .i64 t279, .slice Ao31 t280.length co31, .int .i64 t283] 28 (0, 0))) ∧ (w'.heap[gb291]? = some (.cells #[.int .i64 t286, .slice Ao42 t321.length co42, .int .i64 t290] 28 (0, 0))) ∧ (w'.heap[gb312]? = some (.cells #[.int .i64 t306, .slice Ao50 t307.length co50, .int .i64 t310] 28 (0, 0))) ∧ (w'.heap[s_.2.2]? = some (.cells #[.int .i64 0, .slice none 0 0, .int .i64 0] 28 (0, 0))) ∧ (w.heap.size ≤ s_.2.2) ∧ (w.heap.size ≤ s_.2.2) ∧ (gb257 ≠ s_.2.2) ∧ (s_.2.2 ≠ gb257) ∧ (gb258 ≠ s_.2.2) ∧ (s_.2.2 ≠ gb258) ∧ (gb285 ≠ s_.2.2) ∧ (s_.2.2 ≠ gb285) ∧ (gb291 ≠ s_.2.2) ∧ (s_.2.2 ≠ gb291) ∧ (gb312 ≠ s_.2.2) ∧ (s_.2.2 ≠ gb312) ∧ (Below w.heap.size w w')) ?_ ?_
       rotate_left
       ·
        intro hCont
        refine two_ (i := 1) (j := 9) (Ni := some 85) (Nj := some 16) #[true, true, true, false, true, false, false, false, false, false, false, false] #[true, false, true, false, true, false, false, false, false, true, false, false] rfl rfl rfl rfl (two_of HT_.out (by kernel_rfl)) (by decide) (by decide) (fun K hK => ?_) (fun K hK => ?_)
        ·
         skip
         refine goes_ Try.func6 (by kernel_rfl) rfl #[.agg #[.int .i64 a0_0, .int .i64 a0_1, .int .i64 a0_2, .int .i64 a0_3, .int .i64 a0_4, .int .i64 a0_5, .int .i64 a0_6, .int .i64 a0_7, .int .i64 a0_8, .int .i64 a0_9, .int .i64 a0_10, .int .i64 a0_11, .int .i64 a0_12, .int .i64 a0_13]] (by rfl) rfl rfl gm_ ?_
         with_reducible refine (laws_toConfig.calls a0_0 a0_1 a0_2 a0_3 a0_4 a0_5 a0_6 a0_7 a0_8 a0_9 a0_10 a0_11 a0_12 a0_13 t326 t327 t328 t329 t330 t331 t332 t333 t334 t335 t336 t337 t338 t339 _ A127.out).mono ?_
         rintro e w140 ⟨rfl, hb⟩
         refine ⟨_, rfl, ?_⟩
         have n0_ := Aside0.mk (Kd.R_below (ro_ HO_286001.out) hb)
         have n1_ := Aside0.mk (Kd.R_below (ro_ HO_292001.out) hb)
         have n2_ := Aside0.mk (Kd.R_below (ro_ HO_313001.out) hb)
         have n3_ := Aside0.mk (blk_below (bl_ BK257.out) hb)
         have n4_ := Aside0.mk (blk_below (bl_ BK258.out) hb)
         have n5_ := Aside0.mk (blk_below (bl_ BK285.out) hb)
         have n6_ := Aside0.mk (blk_below (bl_ BK291.out) hb)
         have n7_ := Aside0.mk (blk_below (bl_ BK312.out) hb)
         have n8_ := Aside0.mk (below_step (be_ HB.out) hb)
         clear HO_286001 HO_292001 HO_313001 BK257 BK258 BK285 BK291 BK312 HB
         have HO_286001 := n0_
         have HO_292001 := n1_
         have HO_313001 := n2_
         have BK257 := n3_
         have BK258 := n4_
         have BK285 := n5_
         have BK291 := n6_
         have BK312 := n7_
         have HB := n8_
         clear n0_ n1_ n2_ n3_ n4_ n5_ n6_ n7_ n8_
         (try clear hb)
         (try clear hb2)
         (try clear hk)
         (try clear hi)
         refine hK.out _ _ (ck14_ BK257.out (ce3_ BK258.out)) (fun hHeld => ?_)
         clear hK K
         refine norm_ (a' := ?_) ?_ ?_
         rotate_left
         ·
          show Act.put _ (some 85) _ = _
          simp only [Act.put, List.setIfInBounds_toArray, List.set_cons_zero, List.set_cons_succ, i64_w, i32_w]
          rfl
         refine two_ (i := 3) (j := 9) (Ni := some 87) (Nj := some 16) #[true, true, true, true, true, false, false, false, false, false, false, false] #[true, true, true, false, true, false, false, false, false, true, false, false] rfl rfl rfl rfl (two_of HT_.out (by kernel_rfl)) (by decide) (by decide) (fun K hK => ?_) (fun K hK => ?_)
         ·
          skip
          refine goes_ Try.func7 (by kernel_rfl) rfl #[.agg #[.int .i64 a1_0, .slice A1_1 l1_1.length c1_1, .int .i64 a1_2]] (by rfl) rfl rfl gm_ ?_
          with_reducible refine (laws_toBreaker.calls kj79 a1_0 _ _ l1_1 a1_2 t340 t341 t344 _ ?side1 ?side2 A128.out).mono ?_
          (case side1 => repeat (first | exact (Kd.C_below HR1_1.out HB.out) | (with_reducible refine Kd.C_alloc ?_ _) | (with_reducible refine Kd.C_drewN ?_ _) | (with_reducible refine Kd.C_drew ?_)))
          (case side2 => exact HC1_1.out)
          rintro e w141 ⟨v342, rfl, ho0, hb⟩
          refine ⟨_, rfl, ?_⟩
          have n0_ := Aside0.mk (Kd.R_elder' (ro_ HO_286001.out) (Kd.R_base ho0) hb)
          have n1_ := Aside0.mk (Kd.R_elder' (ro_ HO_292001.out) (Kd.R_base ho0) hb)
          have n2_ := Aside0.mk (Kd.R_elder' (ro_ HO_313001.out) (Kd.R_base ho0) hb)
          have n3_ := Aside0.mk (Kd.R_lower (Kd.R_new' (Kd.R_new' (Kd.R_new' ho0 (Kd.R_lt (ro_ HO_286001.out))) (Kd.R_lt (ro_ HO_292001.out))) (Kd.R_lt (ro_ HO_313001.out))) (below_size (be_ HB.out)))
          have n4_ := Aside0.mk (blk_below (bl_ BK257.out) hb)
          have n5_ := Aside0.mk (blk_below (bl_ BK258.out) hb)
          have n6_ := Aside0.mk (blk_below (bl_ BK285.out) hb)
          have n7_ := Aside0.mk (blk_below (bl_ BK291.out) hb)
          have n8_ := Aside0.mk (blk_below (bl_ BK312.out) hb)
          have n9_ := Aside0.mk (below_step (be_ HB.out) hb)
          clear HO_286001 HO_292001 HO_313001 BK257 BK258 BK285 BK291 BK312 HB
          have HO_286001 := n0_
          have HO_292001 := n1_
          have HO_313001 := n2_
          have HO343 := n3_
          have BK257 := n4_
          have BK258 := n5_
          have BK285 := n6_
          have BK291 := n7_
          have BK312 := n8_
          have HB := n9_
          clear n0_ n1_ n2_ n3_ n4_ n5_ n6_ n7_ n8_ n9_
          (try clear hb)
          (try clear hb2)
          (try clear hk)
          (try clear hi)
          (try clear ho0)
          obtain ⟨Ao142, co142, eo142⟩ := Kd.R_slice HO343.out
          (first | subst eo142 | (injection eo142 with f1_ f2_ f3_; have f4_ := f1_.symm; have f5_ := f3_.symm; clear f1_ f2_ f3_; subst f4_; subst f5_))
          refine hK.out _ _ (ck14_ BK257.out (ce3_ BK258.out)) (fun hHeld => ?_)
          clear hK K
          refine norm_ (a' := ?_) ?_ ?_
          rotate_left
          ·
           show Act.put _ (some 87) _ = _
           simp only [Act.put, List.setIfInBounds_toArray, List.set_cons_zero, List.set_cons_succ, i64_w, i32_w]
           rfl
          refine two_ (i := 5) (j := 9) (Ni := some 89) (Nj := some 16) #[true, true, true, true, true, true, false, false, false, false, false, false] #[true, true, true, true, true, false, false, false, false, true, false, false] rfl rfl rfl rfl (two_of HT_.out (by kernel_rfl)) (by decide) (by decide) (fun K hK => ?_) (fun K hK => ?_)
          ·
           skip
           refine goes_ Try.func8 (by kernel_rfl) rfl #[.agg #[.int .i64 t326, .int .i64 t327, .int .i64 t328, .int .i64 t329, .int .i64 t330, .int .i64 t331, .int .i64 t332, .int .i64 t333, .int .i64 t334, .int .i64 t335, .int .i64 t336, .int .i64 t337, .int .i64 t338, .int .i64 t339], .agg #[.int .i64 t340, .slice Ao142 t341.length co142, .int .i64 t344], .int .i64 a2] (by rfl) rfl rfl gm_ ?_
           with_reducible refine (impl_OnFailure.calls kj79 t326 t327 t328 t329 t330 t331 t332 t333 t334 t335 t336 t337 t338 t339 t340 _ _ t341 t344 a2 t345 t346 t349 t350 _ ?side1 ?side2 A129.out).mono ?_
           (case side1 => repeat (first | exact (Kd.R_reads' HO343.out).2.2 | (with_reducible refine Kd.C_alloc ?_ _) | (with_reducible refine Kd.C_drewN ?_ _) | (with_reducible refine Kd.C_drew ?_)))
           (case side2 => exact (Kd.R_reads' HO343.out).2.1)
           rintro e w143 ⟨v347, rfl, ho0, hb⟩
           refine ⟨_, rfl, ?_⟩
           have n0_ := Aside0.mk (Kd.R_elder' (ro_ HO_286001.out) (Kd.R_base ho0) hb)
           have n1_ := Aside0.mk (Kd.R_elder' (ro_ HO_292001.out) (Kd.R_base ho0) hb)
           have n2_ := Aside0.mk (Kd.R_elder' (ro_ HO_313001.out) (Kd.R_base ho0) hb)
           have n3_ := Aside0.mk (Kd.R_elder' (ro_ HO343.out) (Kd.R_base ho0) hb)
           have n4_ := Aside0.mk (Kd.R_lower (Kd.R_new' (Kd.R_new' (Kd.R_new' (Kd.R_new' ho0 (Kd.R_lt (ro_ HO_286001.out))) (Kd.R_lt (ro_ HO_292001.out))) (Kd.R_lt (ro_ HO_313001.out))) (Kd.R_lt (ro_ HO343.out))) (below_size (be_ HB.out)))
           have n5_ := Aside0.mk (blk_below (bl_ BK257.out) hb)
           have n6_ := Aside0.mk (blk_below (bl_ BK258.out) hb)
           have n7_ := Aside0.mk (blk_below (bl_ BK285.out) hb)
           have n8_ := Aside0.mk (blk_below (bl_ BK291.out) hb)
           have n9_ := Aside0.mk (blk_below (bl_ BK312.out) hb)
           have n10_ := Aside0.mk (below_step (be_ HB.out) hb)
           clear HO_286001 HO_292001 HO_313001 HO343 BK257 BK258 BK285 BK291 BK312 HB
           have HO_286001 := n0_
           have HO_292001 := n1_
           have HO_313001 := n2_
           have HO343 := n3_
           have HO348 := n4_
           have BK257 := n5_
           have BK258 := n6_
           have BK285 := n7_
           have BK291 := n8_
           have BK312 := n9_
           have HB := n10_
           clear n0_ n1_ n2_ n3_ n4_ n5_ n6_ n7_ n8_ n9_ n10_
           (try clear hb)
           (try clear hb2)
           (try clear hk)
           (try clear hi)
           (try clear ho0)
           refine hK.out _ _ (ck14_ BK257.out (ce3_ BK258.out)) (fun hHeld => ?_)
           clear hK K
           refine norm_ (a' := ?_) ?_ ?_
           rotate_left
           ·
            show Act.put _ (some 89) _ = _
            simp only [Act.put, List.setIfInBounds_toArray, List.set_cons_zero, List.set_cons_succ, i64_w, i32_w]
            rfl
           refine pure_ (i := 6) (N := some 83) (v := ?_) (a' := ?_) #[true, true, true, true, true, true, true, false, false, false, false, false] rfl rfl (any_of HT_.out (by kernel_rfl)) (fun _ _ _ h => h) (Or.inl ⟨by rfl, ?_⟩) ?_ ?_
           rotate_left
           ·
            intro w'
            go_simp
            with_reducible rfl
           rotate_left
           ·
            simp only [Act.put, List.setIfInBounds_toArray, List.set_cons_zero, List.set_cons_succ, i64_w, i32_w]
            rfl
           refine pure_ (i := 7) (N := some 90) (v := ?_) (a' := ?_) #[true, true, true, true, true, true, true, true, false, false, false, false] rfl rfl (any_of HT_.out (by kernel_rfl)) (fun _ _ _ h => h) (Or.inl ⟨by rfl, ?_⟩) ?_ ?_
           rotate_left
           ·
            intro w'
            go_simp
            with_reducible rfl
           rotate_left
           ·
            simp only [Act.put, List.setIfInBounds_toArray, List.set_cons_zero, List.set_cons_succ, i64_w, i32_w]
            rfl
           refine pure_ (i := 8) (N := some 91) (v := ?_) (a' := ?_) #[true, true, true, true, true, true, true, true, true, false, false, false] rfl rfl (any_of HT_.out (by kernel_rfl)) (fun _ _ _ h => h) (Or.inl ⟨by rfl, ?_⟩) ?_ ?_
           rotate_left
           ·
            intro w'
            go_simp
            with_reducible rfl
           rotate_left
           ·
            simp only [Act.put, List.setIfInBounds_toArray, List.set_cons_zero, List.set_cons_succ, i64_w, i32_w]
            rfl
           refine one_ (i := 9) (N := some 16) #[true, true, true, true, true, true, true, true, true, true, false, false] rfl rfl (one_of HT_.out (by kernel_rfl)) (by decide) (fun K hK => ?_)
           refine box_step ?hg (N := 16) ?hd (cs := #[.int .i64 0, .slice none 0 0, .int .i64 0]) (t := 28) ?hr ?_; (case hd => rfl); (case hg => rfl); (case hr => first | (go_simp; done) | (go_simp; rfl))
           intro gb351 hg w144 hbox hb
           have n0_ := Aside0.mk (Kd.R_below (ro_ HO_286001.out) hb)
           have n1_ := Aside0.mk (Kd.R_below (ro_ HO_292001.out) hb)
           have n2_ := Aside0.mk (Kd.R_below (ro_ HO_313001.out) hb)
           have n3_ := Aside0.mk (Kd.R_below (ro_ HO343.out) hb)
           have n4_ := Aside0.mk (Kd.R_below (ro_ HO348.out) hb)
           have n5_ := Aside0.mk (blk_below (bl_ BK257.out) hb)
           have n6_ := Aside0.mk (blk_below (bl_ BK258.out) hb)
           have n7_ := Aside0.mk (blk_below (bl_ BK285.out) hb)
           have n8_ := Aside0.mk (blk_below (bl_ BK291.out) hb)
           have n9_ := Aside0.mk (blk_below (bl_ BK312.out) hb)
           have n10_ := Aside0.mk (below_step (be_ HB.out) hb)
           have n11_ := Aside0.mk (hbox)
           have n12_ := Aside0.mk (gs_ hg (be_ HB.out))
           have n13_ := Aside0.mk (gs_ hg (be_ HB.out))
           have n14_ := Aside0.mk (nl_ hg (bl_ BK257.out))
           have n15_ := Aside0.mk (ng_ hg (bl_ BK257.out))
           have n16_ := Aside0.mk (nl_ hg (bl_ BK258.out))
           have n17_ := Aside0.mk (ng_ hg (bl_ BK258.out))
           have n18_ := Aside0.mk (nl_ hg (bl_ BK285.out))
           have n19_ := Aside0.mk (ng_ hg (bl_ BK285.out))
           have n20_ := Aside0.mk (nl_ hg (bl_ BK291.out))
           have n21_ := Aside0.mk (ng_ hg (bl_ BK291.out))
           have n22_ := Aside0.mk (nl_ hg (bl_ BK312.out))
           have n23_ := Aside0.mk (ng_ hg (bl_ BK312.out))
           clear HO_286001 HO_292001 HO_313001 HO343 HO348 BK257 BK258 BK285 BK291 BK312 HB
           have HO_286001 := n0_
           have HO_292001 := n1_
           have HO_313001 := n2_
           have HO343 := n3_
           have HO348 := n4_
           have BK257 := n5_
           have BK258 := n6_
           have BK285 := n7_
           have BK291 := n8_
           have BK312 := n9_
           have HB := n10_
           have BK351 := n11_
           have GW351 := n12_
           have GE351 := n13_
           have NB257_351 := n14_
           have NB351_257 := n15_
           have NB258_351 := n16_
           have NB351_258 := n17_
           have NB285_351 := n18_
           have NB351_285 := n19_
           have NB291_351 := n20_
           have NB351_291 := n21_
           have NB312_351 := n22_
           have NB351_312 := n23_
           clear n0_ n1_ n2_ n3_ n4_ n5_ n6_ n7_ n8_ n9_ n10_ n11_ n12_ n13_ n14_ n15_ n16_ n17_ n18_ n19_ n20_ n21_ n22_ n23_
           clear hb hbox hg
           refine hK.out _ _ (ck14_ BK257.out (ce3_ BK258.out)) (fun hHeld => ?_)
           clear hK K
           refine norm_ (a' := ?_) ?_ ?_
           rotate_left
           ·
            show Act.put _ (some 16) _ = _
            simp only [Act.put, List.setIfInBounds_toArray, List.set_cons_zero, List.set_cons_succ, i64_w, i32_w]
            rfl
           exact norm_ (by simp only [putAll, Act.put, List.setIfInBounds_toArray, List.set_cons_zero, List.set_cons_succ]) (hCont (.slice Ao142 t341.length co142, v347, gb351) _ ⟨hHeld, (by (with_reducible repeat (first | apply Kd.R_alloc | apply Kd.R_drewN | apply Kd.R_drew)); exact Kd.R_mono HO343.out (fun _ hk => ⟨hk.2, ⟨hk.1.1.1.2, ⟨hk.1.1.2, hk.1.2⟩⟩⟩)), (by (with_reducible repeat (first | apply Kd.R_alloc | apply Kd.R_drewN | apply Kd.R_drew)); exact Kd.R_mono HO348.out (fun _ hk => ⟨hk.2, ⟨hk.1.1.1.2, ⟨hk.1.1.2, hk.1.2⟩⟩⟩)), (by (with_reducible repeat (first | apply Kd.R_alloc | apply Kd.R_drewN | apply Kd.R_drew)); exact Kd.R_mono HO_286001.out (fun _ hk => ⟨hk.1.2, ⟨hk.2, ⟨hk.1.1.1, hk.1.1.2⟩⟩⟩)), (by (with_reducible repeat (first | apply Kd.R_alloc | apply Kd.R_drewN | apply Kd.R_drew)); exact Kd.R_mono HO_292001.out (fun _ hk => ⟨hk.1.2, ⟨hk.2, ⟨hk.1.1.1, hk.1.1.2⟩⟩⟩)), (by (with_reducible repeat (first | apply Kd.R_alloc | apply Kd.R_drewN | apply Kd.R_drew)); exact Kd.R_mono HO_313001.out (fun _ hk => ⟨hk.1.2, ⟨hk.2, ⟨hk.1.1.1, hk.1.1.2⟩⟩⟩)), (bl_ BK257.out), (bl_ BK258.out), (bl_ BK285.out), (bl_ BK291.out), (bl_ BK312.out), (bl_ BK351.out), GW351.out, GE351.out, NB257_351.out, NB351_257.out, NB258_351.out, NB351_258.out, NB285_351.out, NB351_285.out, NB291_351.out, NB351_291.out, NB312_351.out, NB351_312.out, (be_ HB.out)⟩)
          skip
          refine box_step ?hg (N := 16) ?hd (cs := #[.int .i64 0, .slice none 0 0, .int .i64 0]) (t := 28) ?hr ?_; (case hd => rfl); (case hg => rfl); (case hr => first | (go_simp; done) | (go_simp; rfl))
          intro gb351 hg w142 hbox hb
          have n0_ := Aside0.mk (Kd.R_below (ro_ HO_286001.out) hb)
          have n1_ := Aside0.mk (Kd.R_below (ro_ HO_292001.out) hb)
          have n2_ := Aside0.mk (Kd.R_below (ro_ HO_313001.out) hb)
          have n3_ := Aside0.mk (Kd.R_below (ro_ HO343.out) hb)
          have n4_ := Aside0.mk (blk_below (bl_ BK257.out) hb)
          have n5_ := Aside0.mk (blk_below (bl_ BK258.out) hb)
          have n6_ := Aside0.mk (blk_below (bl_ BK285.out) hb)
          have n7_ := Aside0.mk (blk_below (bl_ BK291.out) hb)
          have n8_ := Aside0.mk (blk_below (bl_ BK312.out) hb)
          have n9_ := Aside0.mk (below_step (be_ HB.out) hb)
          have n10_ := Aside0.mk (hbox)
          have n11_ := Aside0.mk (gs_ hg (be_ HB.out))
          have n12_ := Aside0.mk (gs_ hg (be_ HB.out))
          have n13_ := Aside0.mk (nl_ hg (bl_ BK257.out))
          have n14_ := Aside0.mk (ng_ hg (bl_ BK257.out))
          have n15_ := Aside0.mk (nl_ hg (bl_ BK258.out))
          have n16_ := Aside0.mk (ng_ hg (bl_ BK258.out))
          have n17_ := Aside0.mk (nl_ hg (bl_ BK285.out))
          have n18_ := Aside0.mk (ng_ hg (bl_ BK285.out))
          have n19_ := Aside0.mk (nl_ hg (bl_ BK291.out))
          have n20_ := Aside0.mk (ng_ hg (bl_ BK291.out))
          have n21_ := Aside0.mk (nl_ hg (bl_ BK312.out))
          have n22_ := Aside0.mk (ng_ hg (bl_ BK312.out))
          clear HO_286001 HO_292001 HO_313001 HO343 BK257 BK258 BK285 BK291 BK312 HB
          have HO_286001 := n0_
          have HO_292001 := n1_
          have HO_313001 := n2_
          have HO343 := n3_
          have BK257 := n4_
          have BK258 := n5_
          have BK285 := n6_
          have BK291 := n7_
          have BK312 := n8_
          have HB := n9_
          have BK351 := n10_
          have GW351 := n11_
          have GE351 := n12_
          have NB257_351 := n13_
          have NB351_257 := n14_
          have NB258_351 := n15_
          have NB351_258 := n16_
          have NB285_351 := n17_
          have NB351_285 := n18_
          have NB291_351 := n19_
          have NB351_291 := n20_
          have NB312_351 := n21_
          have NB351_312 := n22_
          clear n0_ n1_ n2_ n3_ n4_ n5_ n6_ n7_ n8_ n9_ n10_ n11_ n12_ n13_ n14_ n15_ n16_ n17_ n18_ n19_ n20_ n21_ n22_
          clear hb hbox hg
          obtain ⟨Ao143, co143, eo143⟩ := Kd.R_slice HO343.out
          (first | subst eo143 | (injection eo143 with f1_ f2_ f3_; have f4_ := f1_.symm; have f5_ := f3_.symm; clear f1_ f2_ f3_; subst f4_; subst f5_))
          refine hK.out _ _ (ck14_ BK257.out (ce3_ BK258.out)) (fun hHeld => ?_)
          clear hK K
          refine norm_ (a' := ?_) ?_ ?_
          rotate_left
          ·
           show Act.put _ (some 16) _ = _
           simp only [Act.put, List.setIfInBounds_toArray, List.set_cons_zero, List.set_cons_succ, i64_w, i32_w]
           rfl
          refine one_ (i := 5) (N := some 89) #[true, true, true, true, true, true, false, false, false, true, false, false] rfl rfl (one_of HT_.out (by kernel_rfl)) (by decide) (fun K hK => ?_)
          refine goes_ Try.func8 (by kernel_rfl) rfl #[.agg #[.int .i64 t326, .int .i64 t327, .int .i64 t328, .int .i64 t329, .int .i64 t330, .int .i64 t331, .int .i64 t332, .int .i64 t333, .int .i64 t334, .int .i64 t335, .int .i64 t336, .int .i64 t337, .int .i64 t338, .int .i64 t339], .agg #[.int .i64 t340, .slice Ao143 t341.length co143, .int .i64 t344], .int .i64 a2] (by rfl) rfl rfl gm_ ?_
          with_reducible refine (impl_OnFailure.calls kj79 t326 t327 t328 t329 t330 t331 t332 t333 t334 t335 t336 t337 t338 t339 t340 _ _ t341 t344 a2 t345 t346 t349 t350 _ ?side1 ?side2 A129.out).mono ?_
          (case side1 => repeat (first | exact (Kd.R_reads' HO343.out).2.2 | (with_reducible refine Kd.C_alloc ?_ _) | (with_reducible refine Kd.C_drewN ?_ _) | (with_reducible refine Kd.C_drew ?_)))
          (case side2 => exact (Kd.R_reads' HO343.out).2.1)
          rintro e w144 ⟨v347, rfl, ho0, hb⟩
          refine ⟨_, rfl, ?_⟩
          have n0_ := Aside0.mk (Kd.R_elder' (ro_ HO_286001.out) (Kd.R_base ho0) hb)
          have n1_ := Aside0.mk (Kd.R_elder' (ro_ HO_292001.out) (Kd.R_base ho0) hb)
          have n2_ := Aside0.mk (Kd.R_elder' (ro_ HO_313001.out) (Kd.R_base ho0) hb)
          have n3_ := Aside0.mk (Kd.R_elder' (ro_ HO343.out) (Kd.R_base ho0) hb)
          have n4_ := Aside0.mk (Kd.R_lower (Kd.R_new' (Kd.R_new' (Kd.R_new' (Kd.R_new' ho0 (Kd.R_lt (ro_ HO_286001.out))) (Kd.R_lt (ro_ HO_292001.out))) (Kd.R_lt (ro_ HO_313001.out))) (Kd.R_lt (ro_ HO343.out))) (below_size (be_ HB.out)))
          have n5_ := Aside0.mk (blk_below (bl_ BK257.out) hb)
          have n6_ := Aside0.mk (blk_below (bl_ BK258.out) hb)
          have n7_ := Aside0.mk (blk_below (bl_ BK285.out) hb)
          have n8_ := Aside0.mk (blk_below (bl_ BK291.out) hb)
          have n9_ := Aside0.mk (blk_below (bl_ BK312.out) hb)
          have n10_ := Aside0.mk (blk_below (bl_ BK351.out) hb)
          have n11_ := Aside0.mk (below_step (be_ HB.out) hb)
          clear HO_286001 HO_292001 HO_313001 HO343 BK257 BK258 BK285 BK291 BK312 BK351 HB
          have HO_286001 := n0_
          have HO_292001 := n1_
          have HO_313001 := n2_
          have HO343 := n3_
          have HO348 := n4_
          have BK257 := n5_
          have BK258 := n6_
          have BK285 := n7_
          have BK291 := n8_
          have BK312 := n9_
          have BK351 := n10_
          have HB := n11_
          clear n0_ n1_ n2_ n3_ n4_ n5_ n6_ n7_ n8_ n9_ n10_ n11_
          (try clear hb)
          (try clear hb2)
          (try clear hk)
          (try clear hi)
          (try clear ho0)
          refine hK.out _ _ (ck14_ BK257.out (ce3_ BK258.out)) (fun hHeld => ?_)
          clear hK K
          refine norm_ (a' := ?_) ?_ ?_
          rotate_left
          ·
           show Act.put _ (some 89) _ = _
           simp only [Act.put, List.setIfInBounds_toArray, List.set_cons_zero, List.set_cons_succ, i64_w, i32_w]
           rfl
          refine pure_ (i := 6) (N := some 83) (v := ?_) (a' := ?_) #[true, true, true, true, true, true, true, false, false, true, false, false] rfl rfl (any_of HT_.out (by kernel_rfl)) (fun _ _ _ h => h) (Or.inl ⟨by rfl, ?_⟩) ?_ ?_
          rotate_left
          ·
           intro w'
           go_simp
           with_reducible rfl
          rotate_left
          ·
           simp only [Act.put, List.setIfInBounds_toArray, List.set_cons_zero, List.set_cons_succ, i64_w, i32_w]
           rfl
          refine pure_ (i := 7) (N := some 90) (v := ?_) (a' := ?_) #[true, true, true, true, true, true, true, true, false, true, false, false] rfl rfl (any_of HT_.out (by kernel_rfl)) (fun _ _ _ h => h) (Or.inl ⟨by rfl, ?_⟩) ?_ ?_
          rotate_left
          ·
           intro w'
           go_simp
           with_reducible rfl
          rotate_left
          ·
           simp only [Act.put, List.setIfInBounds_toArray, List.set_cons_zero, List.set_cons_succ, i64_w, i32_w]
           rfl
          refine pure_ (i := 8) (N := some 91) (v := ?_) (a' := ?_) #[true, true, true, true, true, true, true, true, true, true, false, false] rfl rfl (any_of HT_.out (by kernel_rfl)) (fun _ _ _ h => h) (Or.inl ⟨by rfl, ?_⟩) ?_ ?_
          rotate_left
          ·
           intro w'
           go_simp
           with_reducible rfl
          rotate_left
          ·
           simp only [Act.put, List.setIfInBounds_toArray, List.set_cons_zero, List.set_cons_succ, i64_w, i32_w]
           rfl
          exact norm_ (by simp only [putAll, Act.put, List.setIfInBounds_toArray, List.set_cons_zero, List.set_cons_succ]) (hCont (.slice Ao143 t341.length co143, v347, gb351) _ ⟨hHeld, (by (with_reducible repeat (first | apply Kd.R_alloc | apply Kd.R_drewN | apply Kd.R_drew)); exact Kd.R_mono HO343.out (fun _ hk => ⟨hk.2, ⟨hk.1.1.1.2, ⟨hk.1.1.2, hk.1.2⟩⟩⟩)), (by (with_reducible repeat (first | apply Kd.R_alloc | apply Kd.R_drewN | apply Kd.R_drew)); exact Kd.R_mono HO348.out (fun _ hk => ⟨hk.2, ⟨hk.1.1.1.2, ⟨hk.1.1.2, hk.1.2⟩⟩⟩)), (by (with_reducible repeat (first | apply Kd.R_alloc | apply Kd.R_drewN | apply Kd.R_drew)); exact Kd.R_mono HO_286001.out (fun _ hk => ⟨hk.1.2, ⟨hk.2, ⟨hk.1.1.1, hk.1.1.2⟩⟩⟩)), (by (with_reducible repeat (first | apply Kd.R_alloc | apply Kd.R_drewN | apply Kd.R_drew)); exact Kd.R_mono HO_292001.out (fun _ hk => ⟨hk.1.2, ⟨hk.2, ⟨hk.1.1.1, hk.1.1.2⟩⟩⟩)), (by (with_reducible repeat (first | apply Kd.R_alloc | apply Kd.R_drewN | apply Kd.R_drew)); exact Kd.R_mono HO_313001.out (fun _ hk => ⟨hk.1.2, ⟨hk.2, ⟨hk.1.1.1, hk.1.1.2⟩⟩⟩)), (bl_ BK257.out), (bl_ BK258.out), (bl_ BK285.out), (bl_ BK291.out), (bl_ BK312.out), (bl_ BK351.out), GW351.out, GE351.out, NB257_351.out, NB351_257.out, NB258_351.out, NB351_258.out, NB285_351.out, NB351_285.out, NB291_351.out, NB351_291.out, NB312_351.out, NB351_312.out, (be_ HB.out)⟩)
         skip
         refine box_step ?hg (N := 16) ?hd (cs := #[.int .i64 0, .slice none 0 0, .int .i64 0]) (t := 28) ?hr ?_; (case hd => rfl); (case hg => rfl); (case hr => first | (go_simp; done) | (go_simp; rfl))
         intro gb351 hg w141 hbox hb
         have n0_ := Aside0.mk (Kd.R_below (ro_ HO_286001.out) hb)
         have n1_ := Aside0.mk (Kd.R_below (ro_ HO_292001.out) hb)
         have n2_ := Aside0.mk (Kd.R_below (ro_ HO_313001.out) hb)
         have n3_ := Aside0.mk (blk_below (bl_ BK257.out) hb)
         have n4_ := Aside0.mk (blk_below (bl_ BK258.out) hb)
         have n5_ := Aside0.mk (blk_below (bl_ BK285.out) hb)
         have n6_ := Aside0.mk (blk_below (bl_ BK291.out) hb)
         have n7_ := Aside0.mk (blk_below (bl_ BK312.out) hb)
         have n8_ := Aside0.mk (below_step (be_ HB.out) hb)
         have n9_ := Aside0.mk (hbox)
         have n10_ := Aside0.mk (gs_ hg (be_ HB.out))
         have n11_ := Aside0.mk (gs_ hg (be_ HB.out))
         have n12_ := Aside0.mk (nl_ hg (bl_ BK257.out))
         have n13_ := Aside0.mk (ng_ hg (bl_ BK257.out))
         have n14_ := Aside0.mk (nl_ hg (bl_ BK258.out))
         have n15_ := Aside0.mk (ng_ hg (bl_ BK258.out))
         have n16_ := Aside0.mk (nl_ hg (bl_ BK285.out))
         have n17_ := Aside0.mk (ng_ hg (bl_ BK285.out))
         have n18_ := Aside0.mk (nl_ hg (bl_ BK291.out))
         have n19_ := Aside0.mk (ng_ hg (bl_ BK291.out))
         have n20_ := Aside0.mk (nl_ hg (bl_ BK312.out))
         have n21_ := Aside0.mk (ng_ hg (bl_ BK312.out))
         clear HO_286001 HO_292001 HO_313001 BK257 BK258 BK285 BK291 BK312 HB
         have HO_286001 := n0_
         have HO_292001 := n1_
         have HO_313001 := n2_
         have BK257 := n3_
         have BK258 := n4_
         have BK285 := n5_
         have BK291 := n6_
         have BK312 := n7_
         have HB := n8_
         have BK351 := n9_
         have GW351 := n10_
         have GE351 := n11_
         have NB257_351 := n12_
         have NB351_257 := n13_
         have NB258_351 := n14_
         have NB351_258 := n15_
         have NB285_351 := n16_
         have NB351_285 := n17_
         have NB291_351 := n18_
         have NB351_291 := n19_
         have NB312_351 := n20_
         have NB351_312 := n21_
         clear n0_ n1_ n2_ n3_ n4_ n5_ n6_ n7_ n8_ n9_ n10_ n11_ n12_ n13_ n14_ n15_ n16_ n17_ n18_ n19_ n20_ n21_
         clear hb hbox hg
         refine hK.out _ _ (ck14_ BK257.out (ce3_ BK258.out)) (fun hHeld => ?_)
         clear hK K
         refine norm_ (a' := ?_) ?_ ?_
         rotate_left
         ·
          show Act.put _ (some 16) _ = _
          simp only [Act.put, List.setIfInBounds_toArray, List.set_cons_zero, List.set_cons_succ, i64_w, i32_w]
          rfl
         refine one_ (i := 3) (N := some 87) #[true, true, true, true, true, false, false, false, false, true, false, false] rfl rfl (one_of HT_.out (by kernel_rfl)) (by decide) (fun K hK => ?_)
         refine goes_ Try.func7 (by kernel_rfl) rfl #[.agg #[.int .i64 a1_0, .slice A1_1 l1_1.length c1_1, .int .i64 a1_2]] (by rfl) rfl rfl gm_ ?_
         with_reducible refine (laws_toBreaker.calls kj79 a1_0 _ _ l1_1 a1_2 t340 t341 t344 _ ?side1 ?side2 A128.out).mono ?_
         (case side1 => repeat (first | exact (Kd.C_below HR1_1.out HB.out) | (with_reducible refine Kd.C_alloc ?_ _) | (with_reducible refine Kd.C_drewN ?_ _) | (with_reducible refine Kd.C_drew ?_)))
         (case side2 => exact HC1_1.out)
         rintro e w142 ⟨v342, rfl, ho0, hb⟩
         refine ⟨_, rfl, ?_⟩
         have n0_ := Aside0.mk (Kd.R_elder' (ro_ HO_286001.out) (Kd.R_base ho0) hb)
         have n1_ := Aside0.mk (Kd.R_elder' (ro_ HO_292001.out) (Kd.R_base ho0) hb)
         have n2_ := Aside0.mk (Kd.R_elder' (ro_ HO_313001.out) (Kd.R_base ho0) hb)
         have n3_ := Aside0.mk (Kd.R_lower (Kd.R_new' (Kd.R_new' (Kd.R_new' ho0 (Kd.R_lt (ro_ HO_286001.out))) (Kd.R_lt (ro_ HO_292001.out))) (Kd.R_lt (ro_ HO_313001.out))) (below_size (be_ HB.out)))
         have n4_ := Aside0.mk (blk_below (bl_ BK257.out) hb)
         have n5_ := Aside0.mk (blk_below (bl_ BK258.out) hb)
         have n6_ := Aside0.mk (blk_below (bl_ BK285.out) hb)
         have n7_ := Aside0.mk (blk_below (bl_ BK291.out) hb)
         have n8_ := Aside0.mk (blk_below (bl_ BK312.out) hb)
         have n9_ := Aside0.mk (blk_below (bl_ BK351.out) hb)
         have n10_ := Aside0.mk (below_step (be_ HB.out) hb)
         clear HO_286001 HO_292001 HO_313001 BK257 BK258 BK285 BK291 BK312 BK351 HB
         have HO_286001 := n0_
         have HO_292001 := n1_
         have HO_313001 := n2_
         have HO343 := n3_
         have BK257 := n4_
         have BK258 := n5_
         have BK285 := n6_
         have BK291 := n7_
         have BK312 := n8_
         have BK351 := n9_
         have HB := n10_
         clear n0_ n1_ n2_ n3_ n4_ n5_ n6_ n7_ n8_ n9_ n10_
         (try clear hb)
         (try clear hb2)
         (try clear hk)
         (try clear hi)
         (try clear ho0)
         obtain ⟨Ao143, co143, eo143⟩ := Kd.R_slice HO343.out
         (first | subst eo143 | (injection eo143 with f1_ f2_ f3_; have f4_ := f1_.symm; have f5_ := f3_.symm; clear f1_ f2_ f3_; subst f4_; subst f5_))
         refine hK.out _ _ (ck14_ BK257.out (ce3_ BK258.out)) (fun hHeld => ?_)
         clear hK K
         refine norm_ (a' := ?_) ?_ ?_
         rotate_left
         ·
          show Act.put _ (some 87) _ = _
          simp only [Act.put, List.setIfInBounds_toArray, List.set_cons_zero, List.set_cons_succ, i64_w, i32_w]
          rfl
         refine one_ (i := 5) (N := some 89) #[true, true, true, true, true, true, false, false, false, true, false, false] rfl rfl (one_of HT_.out (by kernel_rfl)) (by decide) (fun K hK => ?_)
         refine goes_ Try.func8 (by kernel_rfl) rfl #[.agg #[.int .i64 t326, .int .i64 t327, .int .i64 t328, .int .i64 t329, .int .i64 t330, .int .i64 t331, .int .i64 t332, .int .i64 t333, .int .i64 t334, .int .i64 t335, .int .i64 t336, .int .i64 t337, .int .i64 t338, .int .i64 t339], .agg #[.int .i64 t340, .slice Ao143 t341.length co143, .int .i64 t344], .int .i64 a2] (by rfl) rfl rfl gm_ ?_
         with_reducible refine (impl_OnFailure.calls kj79 t326 t327 t328 t329 t330 t331 t332 t333 t334 t335 t336 t337 t338 t339 t340 _ _ t341 t344 a2 t345 t346 t349 t350 _ ?side1 ?side2 A129.out).mono ?_
         (case side1 => repeat (first | exact (Kd.R_reads' HO343.out).2.2 | (with_reducible refine Kd.C_alloc ?_ _) | (with_reducible refine Kd.C_drewN ?_ _) | (with_reducible refine Kd.C_drew ?_)))
         (case side2 => exact (Kd.R_reads' HO343.out).2.1)
         rintro e w144 ⟨v347, rfl, ho0, hb⟩
         refine ⟨_, rfl, ?_⟩
         have n0_ := Aside0.mk (Kd.R_elder' (ro_ HO_286001.out) (Kd.R_base ho0) hb)
         have n1_ := Aside0.mk (Kd.R_elder' (ro_ HO_292001.out) (Kd.R_base ho0) hb)
         have n2_ := Aside0.mk (Kd.R_elder' (ro_ HO_313001.out) (Kd.R_base ho0) hb)
         have n3_ := Aside0.mk (Kd.R_elder' (ro_ HO343.out) (Kd.R_base ho0) hb)
         have n4_ := Aside0.mk (Kd.R_lower (Kd.R_new' (Kd.R_new' (Kd.R_new' (Kd.R_new' ho0 (Kd.R_lt (ro_ HO_286001.out))) (Kd.R_lt (ro_ HO_292001.out))) (Kd.R_lt (ro_ HO_313001.out))) (Kd.R_lt (ro_ HO343.out))) (below_size (be_ HB.out)))
         have n5_ := Aside0.mk (blk_below (bl_ BK257.out) hb)
         have n6_ := Aside0.mk (blk_below (bl_ BK258.out) hb)
         have n7_ := Aside0.mk (blk_below (bl_ BK285.out) hb)
         have n8_ := Aside0.mk (blk_below (bl_ BK291.out) hb)
         have n9_ := Aside0.mk (blk_below (bl_ BK312.out) hb)
         have n10_ := Aside0.mk (blk_below (bl_ BK351.out) hb)
         have n11_ := Aside0.mk (below_step (be_ HB.out) hb)
         clear HO_286001 HO_292001 HO_313001 HO343 BK257 BK258 BK285 BK291 BK312 BK351 HB
         have HO_286001 := n0_
         have HO_292001 := n1_
         have HO_313001 := n2_
         have HO343 := n3_
         have HO348 := n4_
         have BK257 := n5_
         have BK258 := n6_
         have BK285 := n7_
         have BK291 := n8_
         have BK312 := n9_
         have BK351 := n10_
         have HB := n11_
         clear n0_ n1_ n2_ n3_ n4_ n5_ n6_ n7_ n8_ n9_ n10_ n11_
         (try clear hb)
         (try clear hb2)
         (try clear hk)
         (try clear hi)
         (try clear ho0)
         refine hK.out _ _ (ck14_ BK257.out (ce3_ BK258.out)) (fun hHeld => ?_)
         clear hK K
         refine norm_ (a' := ?_) ?_ ?_
         rotate_left
         ·
          show Act.put _ (some 89) _ = _
          simp only [Act.put, List.setIfInBounds_toArray, List.set_cons_zero, List.set_cons_succ, i64_w, i32_w]
          rfl
         refine pure_ (i := 6) (N := some 83) (v := ?_) (a' := ?_) #[true, true, true, true, true, true, true, false, false, true, false, false] rfl rfl (any_of HT_.out (by kernel_rfl)) (fun _ _ _ h => h) (Or.inl ⟨by rfl, ?_⟩) ?_ ?_
         rotate_left
         ·
          intro w'
          go_simp
          with_reducible rfl
         rotate_left
         ·
          simp only [Act.put, List.setIfInBounds_toArray, List.set_cons_zero, List.set_cons_succ, i64_w, i32_w]
          rfl
         refine pure_ (i := 7) (N := some 90) (v := ?_) (a' := ?_) #[true, true, true, true, true, true, true, true, false, true, false, false] rfl rfl (any_of HT_.out (by kernel_rfl)) (fun _ _ _ h => h) (Or.inl ⟨by rfl, ?_⟩) ?_ ?_
         rotate_left
         ·
          intro w'
          go_simp
          with_reducible rfl
         rotate_left
         ·
          simp only [Act.put, List.setIfInBounds_toArray, List.set_cons_zero, List.set_cons_succ, i64_w, i32_w]
          rfl
         refine pure_ (i := 8) (N := some 91) (v := ?_) (a' := ?_) #[true, true, true, true, true, true, true, true, true, true, false, false] rfl rfl (any_of HT_.out (by kernel_rfl)) (fun _ _ _ h => h) (Or.inl ⟨by rfl, ?_⟩) ?_ ?_
         rotate_left
         ·
          intro w'
          go_simp
          with_reducible rfl
         rotate_left
         ·
          simp only [Act.put, List.setIfInBounds_toArray, List.set_cons_zero, List.set_cons_succ, i64_w, i32_w]
          rfl
         exact norm_ (by simp only [putAll, Act.put, List.setIfInBounds_toArray, List.set_cons_zero, List.set_cons_succ]) (hCont (.slice Ao143 t341.length co143, v347, gb351) _ ⟨hHeld, (by (with_reducible repeat (first | apply Kd.R_alloc | apply Kd.R_drewN | apply Kd.R_drew)); exact Kd.R_mono HO343.out (fun _ hk => ⟨hk.2, ⟨hk.1.1.1.2, ⟨hk.1.1.2, hk.1.2⟩⟩⟩)), (by (with_reducible repeat (first | apply Kd.R_alloc | apply Kd.R_drewN | apply Kd.R_drew)); exact Kd.R_mono HO348.out (fun _ hk => ⟨hk.2, ⟨hk.1.1.1.2, ⟨hk.1.1.2, hk.1.2⟩⟩⟩)), (by (with_reducible repeat (first | apply Kd.R_alloc | apply Kd.R_drewN | apply Kd.R_drew)); exact Kd.R_mono HO_286001.out (fun _ hk => ⟨hk.1.2, ⟨hk.2, ⟨hk.1.1.1, hk.1.1.2⟩⟩⟩)), (by (with_reducible repeat (first | apply Kd.R_alloc | apply Kd.R_drewN | apply Kd.R_drew)); exact Kd.R_mono HO_292001.out (fun _ hk => ⟨hk.1.2, ⟨hk.2, ⟨hk.1.1.1, hk.1.1.2⟩⟩⟩)), (by (with_reducible repeat (first | apply Kd.R_alloc | apply Kd.R_drewN | apply Kd.R_drew)); exact Kd.R_mono HO_313001.out (fun _ hk => ⟨hk.1.2, ⟨hk.2, ⟨hk.1.1.1, hk.1.1.2⟩⟩⟩)), (bl_ BK257.out), (bl_ BK258.out), (bl_ BK285.out), (bl_ BK291.out), (bl_ BK312.out), (bl_ BK351.out), GW351.out, GE351.out, NB257_351.out, NB351_257.out, NB258_351.out, NB351_258.out, NB285_351.out, NB351_285.out, NB291_351.out, NB351_291.out, NB312_351.out, NB351_312.out, (be_ HB.out)⟩)
        skip
        refine box_step ?hg (N := 16) ?hd (cs := #[.int .i64 0, .slice none 0 0, .int .i64 0]) (t := 28) ?hr ?_; (case hd => rfl); (case hg => rfl); (case hr => first | (go_simp; done) | (go_simp; rfl))
        intro gb351 hg w140 hbox hb
        have n0_ := Aside0.mk (Kd.R_below (ro_ HO_286001.out) hb)
        have n1_ := Aside0.mk (Kd.R_below (ro_ HO_292001.out) hb)
        have n2_ := Aside0.mk (Kd.R_below (ro_ HO_313001.out) hb)
        have n3_ := Aside0.mk (blk_below (bl_ BK257.out) hb)
        have n4_ := Aside0.mk (blk_below (bl_ BK258.out) hb)
        have n5_ := Aside0.mk (blk_below (bl_ BK285.out) hb)
        have n6_ := Aside0.mk (blk_below (bl_ BK291.out) hb)
        have n7_ := Aside0.mk (blk_below (bl_ BK312.out) hb)
        have n8_ := Aside0.mk (below_step (be_ HB.out) hb)
        have n9_ := Aside0.mk (hbox)
        have n10_ := Aside0.mk (gs_ hg (be_ HB.out))
        have n11_ := Aside0.mk (gs_ hg (be_ HB.out))
        have n12_ := Aside0.mk (nl_ hg (bl_ BK257.out))
        have n13_ := Aside0.mk (ng_ hg (bl_ BK257.out))
        have n14_ := Aside0.mk (nl_ hg (bl_ BK258.out))
        have n15_ := Aside0.mk (ng_ hg (bl_ BK258.out))
        have n16_ := Aside0.mk (nl_ hg (bl_ BK285.out))
        have n17_ := Aside0.mk (ng_ hg (bl_ BK285.out))
        have n18_ := Aside0.mk (nl_ hg (bl_ BK291.out))
        have n19_ := Aside0.mk (ng_ hg (bl_ BK291.out))
        have n20_ := Aside0.mk (nl_ hg (bl_ BK312.out))
        have n21_ := Aside0.mk (ng_ hg (bl_ BK312.out))
        clear HO_286001 HO_292001 HO_313001 BK257 BK258 BK285 BK291 BK312 HB
        have HO_286001 := n0_
        have HO_292001 := n1_
        have HO_313001 := n2_
        have BK257 := n3_
        have BK258 := n4_
        have BK285 := n5_
        have BK291 := n6_
        have BK312 := n7_
        have HB := n8_
        have BK351 := n9_
        have GW351 := n10_
        have GE351 := n11_
        have NB257_351 := n12_
        have NB351_257 := n13_
        have NB258_351 := n14_
        have NB351_258 := n15_
        have NB285_351 := n16_
        have NB351_285 := n17_
        have NB291_351 := n18_
        have NB351_291 := n19_
        have NB312_351 := n20_
        have NB351_312 := n21_
        clear n0_ n1_ n2_ n3_ n4_ n5_ n6_ n7_ n8_ n9_ n10_ n11_ n12_ n13_ n14_ n15_ n16_ n17_ n18_ n19_ n20_ n21_
        clear hb hbox hg
        refine hK.out _ _ (ck14_ BK257.out (ce3_ BK258.out)) (fun hHeld => ?_)
        clear hK K
        refine norm_ (a' := ?_) ?_ ?_
        rotate_left
        ·
         show Act.put _ (some 16) _ = _
         simp only [Act.put, List.setIfInBounds_toArray, List.set_cons_zero, List.set_cons_succ, i64_w, i32_w]
         rfl
        refine one_ (i := 1) (N := some 85) #[true, true, true, false, true, false, false, false, false, true, false, false] rfl rfl (one_of HT_.out (by kernel_rfl)) (by decide) (fun K hK => ?_)
        refine goes_ Try.func6 (by kernel_rfl) rfl #[.agg #[.int .i64 a0_0, .int .i64 a0_1, .int .i64 a0_2, .int .i64 a0_3, .int .i64 a0_4, .int .i64 a0_5, .int .i64 a0_6, .int .i64 a0_7, .int .i64 a0_8, .int .i64 a0_9, .int .i64 a0_10, .int .i64 a0_11, .int .i64 a0_12, .int .i64 a0_13]] (by rfl) rfl rfl gm_ ?_
        with_reducible refine (laws_toConfig.calls a0_0 a0_1 a0_2 a0_3 a0_4 a0_5 a0_6 a0_7 a0_8 a0_9 a0_10 a0_11 a0_12 a0_13 t326 t327 t328 t329 t330 t331 t332 t333 t334 t335 t336 t337 t338 t339 _ A127.out).mono ?_
        rintro e w141 ⟨rfl, hb⟩
        refine ⟨_, rfl, ?_⟩
        have n0_ := Aside0.mk (Kd.R_below (ro_ HO_286001.out) hb)
        have n1_ := Aside0.mk (Kd.R_below (ro_ HO_292001.out) hb)
        have n2_ := Aside0.mk (Kd.R_below (ro_ HO_313001.out) hb)
        have n3_ := Aside0.mk (blk_below (bl_ BK257.out) hb)
        have n4_ := Aside0.mk (blk_below (bl_ BK258.out) hb)
        have n5_ := Aside0.mk (blk_below (bl_ BK285.out) hb)
        have n6_ := Aside0.mk (blk_below (bl_ BK291.out) hb)
        have n7_ := Aside0.mk (blk_below (bl_ BK312.out) hb)
        have n8_ := Aside0.mk (blk_below (bl_ BK351.out) hb)
        have n9_ := Aside0.mk (below_step (be_ HB.out) hb)
        clear HO_286001 HO_292001 HO_313001 BK257 BK258 BK285 BK291 BK312 BK351 HB
        have HO_286001 := n0_
        have HO_292001 := n1_
        have HO_313001 := n2_
        have BK257 := n3_
        have BK258 := n4_
        have BK285 := n5_
        have BK291 := n6_
        have BK312 := n7_
        have BK351 := n8_
        have HB := n9_
        clear n0_ n1_ n2_ n3_ n4_ n5_ n6_ n7_ n8_ n9_
        (try clear hb)
        (try clear hb2)
        (try clear hk)
        (try clear hi)
        refine hK.out _ _ (ck14_ BK257.out (ce3_ BK258.out)) (fun hHeld => ?_)
        clear hK K
        refine norm_ (a' := ?_) ?_ ?_
        rotate_left
        ·
         show Act.put _ (some 85) _ = _
         simp only [Act.put, List.setIfInBounds_toArray, List.set_cons_zero, List.set_cons_succ, i64_w, i32_w]
         rfl
        refine one_ (i := 3) (N := some 87) #[true, true, true, true, true, false, false, false, false, true, false, false] rfl rfl (one_of HT_.out (by kernel_rfl)) (by decide) (fun K hK => ?_)
        refine goes_ Try.func7 (by kernel_rfl) rfl #[.agg #[.int .i64 a1_0, .slice A1_1 l1_1.length c1_1, .int .i64 a1_2]] (by rfl) rfl rfl gm_ ?_
        with_reducible refine (laws_toBreaker.calls kj79 a1_0 _ _ l1_1 a1_2 t340 t341 t344 _ ?side1 ?side2 A128.out).mono ?_
        (case side1 => repeat (first | exact (Kd.C_below HR1_1.out HB.out) | (with_reducible refine Kd.C_alloc ?_ _) | (with_reducible refine Kd.C_drewN ?_ _) | (with_reducible refine Kd.C_drew ?_)))
        (case side2 => exact HC1_1.out)
        rintro e w142 ⟨v342, rfl, ho0, hb⟩
        refine ⟨_, rfl, ?_⟩
        have n0_ := Aside0.mk (Kd.R_elder' (ro_ HO_286001.out) (Kd.R_base ho0) hb)
        have n1_ := Aside0.mk (Kd.R_elder' (ro_ HO_292001.out) (Kd.R_base ho0) hb)
        have n2_ := Aside0.mk (Kd.R_elder' (ro_ HO_313001.out) (Kd.R_base ho0) hb)
        have n3_ := Aside0.mk (Kd.R_lower (Kd.R_new' (Kd.R_new' (Kd.R_new' ho0 (Kd.R_lt (ro_ HO_286001.out))) (Kd.R_lt (ro_ HO_292001.out))) (Kd.R_lt (ro_ HO_313001.out))) (below_size (be_ HB.out)))
        have n4_ := Aside0.mk (blk_below (bl_ BK257.out) hb)
        have n5_ := Aside0.mk (blk_below (bl_ BK258.out) hb)
        have n6_ := Aside0.mk (blk_below (bl_ BK285.out) hb)
        have n7_ := Aside0.mk (blk_below (bl_ BK291.out) hb)
        have n8_ := Aside0.mk (blk_below (bl_ BK312.out) hb)
        have n9_ := Aside0.mk (blk_below (bl_ BK351.out) hb)
        have n10_ := Aside0.mk (below_step (be_ HB.out) hb)
        clear HO_286001 HO_292001 HO_313001 BK257 BK258 BK285 BK291 BK312 BK351 HB
        have HO_286001 := n0_
        have HO_292001 := n1_
        have HO_313001 := n2_
        have HO343 := n3_
        have BK257 := n4_
        have BK258 := n5_
        have BK285 := n6_
        have BK291 := n7_
        have BK312 := n8_
        have BK351 := n9_
        have HB := n10_
        clear n0_ n1_ n2_ n3_ n4_ n5_ n6_ n7_ n8_ n9_ n10_
        (try clear hb)
        (try clear hb2)
        (try clear hk)
        (try clear hi)
        (try clear ho0)
        obtain ⟨Ao143, co143, eo143⟩ := Kd.R_slice HO343.out
        (first | subst eo143 | (injection eo143 with f1_ f2_ f3_; have f4_ := f1_.symm; have f5_ := f3_.symm; clear f1_ f2_ f3_; subst f4_; subst f5_))
        refine hK.out _ _ (ck14_ BK257.out (ce3_ BK258.out)) (fun hHeld => ?_)
        clear hK K
        refine norm_ (a' := ?_) ?_ ?_
        rotate_left
        ·
         show Act.put _ (some 87) _ = _
         simp only [Act.put, List.setIfInBounds_toArray, List.set_cons_zero, List.set_cons_succ, i64_w, i32_w]
         rfl
        refine one_ (i := 5) (N := some 89) #[true, true, true, true, true, true, false, false, false, true, false, false] rfl rfl (one_of HT_.out (by kernel_rfl)) (by decide) (fun K hK => ?_)
        refine goes_ Try.func8 (by kernel_rfl) rfl #[.agg #[.int .i64 t326, .int .i64 t327, .int .i64 t328, .int .i64 t329, .int .i64 t330, .int .i64 t331, .int .i64 t332, .int .i64 t333, .int .i64 t334, .int .i64 t335, .int .i64 t336, .int .i64 t337, .int .i64 t338, .int .i64 t339], .agg #[.int .i64 t340, .slice Ao143 t341.length co143, .int .i64 t344], .int .i64 a2] (by rfl) rfl rfl gm_ ?_
        with_reducible refine (impl_OnFailure.calls kj79 t326 t327 t328 t329 t330 t331 t332 t333 t334 t335 t336 t337 t338 t339 t340 _ _ t341 t344 a2 t345 t346 t349 t350 _ ?side1 ?side2 A129.out).mono ?_
        (case side1 => repeat (first | exact (Kd.R_reads' HO343.out).2.2 | (with_reducible refine Kd.C_alloc ?_ _) | (with_reducible refine Kd.C_drewN ?_ _) | (with_reducible refine Kd.C_drew ?_)))
        (case side2 => exact (Kd.R_reads' HO343.out).2.1)
        rintro e w144 ⟨v347, rfl, ho0, hb⟩
        refine ⟨_, rfl, ?_⟩
        have n0_ := Aside0.mk (Kd.R_elder' (ro_ HO_286001.out) (Kd.R_base ho0) hb)
        have n1_ := Aside0.mk (Kd.R_elder' (ro_ HO_292001.out) (Kd.R_base ho0) hb)
        have n2_ := Aside0.mk (Kd.R_elder' (ro_ HO_313001.out) (Kd.R_base ho0) hb)
        have n3_ := Aside0.mk (Kd.R_elder' (ro_ HO343.out) (Kd.R_base ho0) hb)
        have n4_ := Aside0.mk (Kd.R_lower (Kd.R_new' (Kd.R_new' (Kd.R_new' (Kd.R_new' ho0 (Kd.R_lt (ro_ HO_286001.out))) (Kd.R_lt (ro_ HO_292001.out))) (Kd.R_lt (ro_ HO_313001.out))) (Kd.R_lt (ro_ HO343.out))) (below_size (be_ HB.out)))
        have n5_ := Aside0.mk (blk_below (bl_ BK257.out) hb)
        have n6_ := Aside0.mk (blk_below (bl_ BK258.out) hb)
        have n7_ := Aside0.mk (blk_below (bl_ BK285.out) hb)
        have n8_ := Aside0.mk (blk_below (bl_ BK291.out) hb)
        have n9_ := Aside0.mk (blk_below (bl_ BK312.out) hb)
        have n10_ := Aside0.mk (blk_below (bl_ BK351.out) hb)
        have n11_ := Aside0.mk (below_step (be_ HB.out) hb)
        clear HO_286001 HO_292001 HO_313001 HO343 BK257 BK258 BK285 BK291 BK312 BK351 HB
        have HO_286001 := n0_
        have HO_292001 := n1_
        have HO_313001 := n2_
        have HO343 := n3_
        have HO348 := n4_
        have BK257 := n5_
        have BK258 := n6_
        have BK285 := n7_
        have BK291 := n8_
        have BK312 := n9_
        have BK351 := n10_
        have HB := n11_
        clear n0_ n1_ n2_ n3_ n4_ n5_ n6_ n7_ n8_ n9_ n10_ n11_
        (try clear hb)
        (try clear hb2)
        (try clear hk)
        (try clear hi)
        (try clear ho0)
        refine hK.out _ _ (ck14_ BK257.out (ce3_ BK258.out)) (fun hHeld => ?_)
        clear hK K
        refine norm_ (a' := ?_) ?_ ?_
        rotate_left
        ·
         show Act.put _ (some 89) _ = _
         simp only [Act.put, List.setIfInBounds_toArray, List.set_cons_zero, List.set_cons_succ, i64_w, i32_w]
         rfl
        refine pure_ (i := 6) (N := some 83) (v := ?_) (a' := ?_) #[true, true, true, true, true, true, true, false, false, true, false, false] rfl rfl (any_of HT_.out (by kernel_rfl)) (fun _ _ _ h => h) (Or.inl ⟨by rfl, ?_⟩) ?_ ?_
        rotate_left
        ·
         intro w'
         go_simp
         with_reducible rfl
        rotate_left
        ·
         simp only [Act.put, List.setIfInBounds_toArray, List.set_cons_zero, List.set_cons_succ, i64_w, i32_w]
         rfl
        refine pure_ (i := 7) (N := some 90) (v := ?_) (a' := ?_) #[true, true, true, true, true, true, true, true, false, true, false, false] rfl rfl (any_of HT_.out (by kernel_rfl)) (fun _ _ _ h => h) (Or.inl ⟨by rfl, ?_⟩) ?_ ?_
        rotate_left
        ·
         intro w'
         go_simp
         with_reducible rfl
        rotate_left
        ·
         simp only [Act.put, List.setIfInBounds_toArray, List.set_cons_zero, List.set_cons_succ, i64_w, i32_w]
         rfl
        refine pure_ (i := 8) (N := some 91) (v := ?_) (a' := ?_) #[true, true, true, true, true, true, true, true, true, true, false, false] rfl rfl (any_of HT_.out (by kernel_rfl)) (fun _ _ _ h => h) (Or.inl ⟨by rfl, ?_⟩) ?_ ?_
        rotate_left
        ·
         intro w'
         go_simp
         with_reducible rfl
        rotate_left
        ·
         simp only [Act.put, List.setIfInBounds_toArray, List.set_cons_zero, List.set_cons_succ, i64_w, i32_w]
         rfl
        exact norm_ (by simp only [putAll, Act.put, List.setIfInBounds_toArray, List.set_cons_zero, List.set_cons_succ]) (hCont (.slice Ao143 t341.length co143, v347, gb351) _ ⟨hHeld, (by (with_reducible repeat (first | apply Kd.R_alloc | apply Kd.R_drewN | apply Kd.R_drew)); exact Kd.R_mono HO343.out (fun _ hk => ⟨hk.2, ⟨hk.1.1.1.2, ⟨hk.1.1.2, hk.1.2⟩⟩⟩)), (by (with_reducible repeat (first | apply Kd.R_alloc | apply Kd.R_drewN | apply Kd.R_drew)); exact Kd.R_mono HO348.out (fun _ hk => ⟨hk.2, ⟨hk.1.1.1.2, ⟨hk.1.1.2, hk.1.2⟩⟩⟩)), (by (with_reducible repeat (first | apply Kd.R_alloc | apply Kd.R_drewN | apply Kd.R_drew)); exact Kd.R_mono HO_286001.out (fun _ hk => ⟨hk.1.2, ⟨hk.2, ⟨hk.1.1.1, hk.1.1.2⟩⟩⟩)), (by (with_reducible repeat (first | apply Kd.R_alloc | apply Kd.R_drewN | apply Kd.R_drew)); exact Kd.R_mono HO_292001.out (fun _ hk => ⟨hk.1.2, ⟨hk.2, ⟨hk.1.1.1, hk.1.1.2⟩⟩⟩)), (by (with_reducible repeat (first | apply Kd.R_alloc | apply Kd.R_drewN | apply Kd.R_drew)); exact Kd.R_mono HO_313001.out (fun _ hk => ⟨hk.1.2, ⟨hk.2, ⟨hk.1.1.1, hk.1.1.2⟩⟩⟩)), (bl_ BK257.out), (bl_ BK258.out), (bl_ BK285.out), (bl_ BK291.out), (bl_ BK312.out), (bl_ BK351.out), GW351.out, GE351.out, NB257_351.out, NB351_257.out, NB258_351.out, NB351_258.out, NB285_351.out, NB351_285.out, NB291_351.out, NB351_291.out, NB312_351.out, NB351_312.out, (be_ HB.out)⟩)
       rintro ⟨v342, v347, gb351⟩ w145 ⟨hS_, h0_, h1_, h2_, h3_, h4_, h5_, h6_, h7_, h8_, h9_, h10_, h11_, h12_, h13_, h14_, h15_, h16_, h17_, h18_, h19_, h20_, h21_, h22_, h23_⟩
       have n0_ : Aside0 (Kd.R (Kd.int .i64) 3 w145 w.heap.size (fun k_ => some k_ ≠ (v347 : Value).ownBlock ∧ some k_ ≠ (.slice Ao31 t280.length co31 : Value).ownBlock ∧ some k_ ≠ (.slice Ao42 t321.length co42 : Value).ownBlock ∧ some k_ ≠ (.slice Ao50 t307.length co50 : Value).ownBlock) v342 t341) := ⟨h0_⟩
       have n1_ : Aside0 (Kd.R (Kd.int .i64) 3 w145 w.heap.size (fun k_ => some k_ ≠ (v342 : Value).ownBlock ∧ some k_ ≠ (.slice Ao31 t280.length co31 : Value).ownBlock ∧ some k_ ≠ (.slice Ao42 t321.length co42 : Value).ownBlock ∧ some k_ ≠ (.slice Ao50 t307.length co50 : Value).ownBlock) v347 t346) := ⟨h1_⟩
       have n2_ : Aside0 (Kd.R (Kd.int .i64) 3 w145 w.heap.size (fun k_ => some k_ ≠ (v342 : Value).ownBlock ∧ some k_ ≠ (v347 : Value).ownBlock ∧ some k_ ≠ (.slice Ao42 t321.length co42 : Value).ownBlock ∧ some k_ ≠ (.slice Ao50 t307.length co50 : Value).ownBlock) (.slice Ao31 t280.length co31) t280) := ⟨h2_⟩
       have n3_ : Aside0 (Kd.R (Kd.int .i64) 3 w145 w.heap.size (fun k_ => some k_ ≠ (v342 : Value).ownBlock ∧ some k_ ≠ (v347 : Value).ownBlock ∧ some k_ ≠ (.slice Ao31 t280.length co31 : Value).ownBlock ∧ some k_ ≠ (.slice Ao50 t307.length co50 : Value).ownBlock) (.slice Ao42 t321.length co42) t321) := ⟨h3_⟩
       have n4_ : Aside0 (Kd.R (Kd.int .i64) 3 w145 w.heap.size (fun k_ => some k_ ≠ (v342 : Value).ownBlock ∧ some k_ ≠ (v347 : Value).ownBlock ∧ some k_ ≠ (.slice Ao31 t280.length co31 : Value).ownBlock ∧ some k_ ≠ (.slice Ao42 t321.length co42 : Value).ownBlock) (.slice Ao50 t307.length co50) t324) := ⟨h4_⟩
       have n5_ : Aside0 (w145.heap[gb257]? = some (.cells #[.int .i64 a0_0, .int .i64 a0_1, .int .i64 a0_2, .int .i64 a0_3, .int .i64 a0_4, .int .i64 a0_5, .int .i64 a0_6, .int .i64 a0_7, .int .i64 a0_8, .int .i64 a0_9, .int .i64 a0_10, .int .i64 a0_11, .int .i64 a0_12, .int .i64 a0_13] 23 (0, 0))) := ⟨h5_⟩
       have n6_ : Aside0 (w145.heap[gb258]? = some (.cells #[.int .i64 a1_0, .slice A1_1 l1_1.length c1_1, .int .i64 a1_2] 26 (0, 0))) := ⟨h6_⟩
       have n7_ : Aside0 (w145.heap[gb285]? = some (.cells #[.int .i64 t279, .slice Ao31 t280.length co31, .int .i64 t283] 28 (0, 0))) := ⟨h7_⟩
       have n8_ : Aside0 (w145.heap[gb291]? = some (.cells #[.int .i64 t286, .slice Ao42 t321.length co42, .int .i64 t290] 28 (0, 0))) := ⟨h8_⟩
       have n9_ : Aside0 (w145.heap[gb312]? = some (.cells #[.int .i64 t306, .slice Ao50 t307.length co50, .int .i64 t310] 28 (0, 0))) := ⟨h9_⟩
       have n10_ : Aside0 (w145.heap[gb351]? = some (.cells #[.int .i64 0, .slice none 0 0, .int .i64 0] 28 (0, 0))) := ⟨h10_⟩
       have n11_ : Aside0 (w.heap.size ≤ gb351) := ⟨h11_⟩
       have n12_ : Aside0 (w.heap.size ≤ gb351) := ⟨h12_⟩
       have n13_ : Aside0 (gb257 ≠ gb351) := ⟨h13_⟩
       have n14_ : Aside0 (gb351 ≠ gb257) := ⟨h14_⟩
       have n15_ : Aside0 (gb258 ≠ gb351) := ⟨h15_⟩
       have n16_ : Aside0 (gb351 ≠ gb258) := ⟨h16_⟩
       have n17_ : Aside0 (gb285 ≠ gb351) := ⟨h17_⟩
       have n18_ : Aside0 (gb351 ≠ gb285) := ⟨h18_⟩
       have n19_ : Aside0 (gb291 ≠ gb351) := ⟨h19_⟩
       have n20_ : Aside0 (gb351 ≠ gb291) := ⟨h20_⟩
       have n21_ : Aside0 (gb312 ≠ gb351) := ⟨h21_⟩
       have n22_ : Aside0 (gb351 ≠ gb312) := ⟨h22_⟩
       have n23_ : Aside0 (Below w.heap.size w w145) := ⟨h23_⟩
       clear HO_286001 HO_292001 HO_313001 BK257 BK258 BK285 BK291 BK312 HB
       clear h0_ h1_ h2_ h3_ h4_ h5_ h6_ h7_ h8_ h9_ h10_ h11_ h12_ h13_ h14_ h15_ h16_ h17_ h18_ h19_ h20_ h21_ h22_ h23_
       have HO343 := n0_
       have HO348 := n1_
       have HO_286001 := n2_
       have HO_292001 := n3_
       have HO_313001 := n4_
       have BK257 := n5_
       have BK258 := n6_
       have BK285 := n7_
       have BK291 := n8_
       have BK312 := n9_
       have BK351 := n10_
       have GW351 := n11_
       have GE351 := n12_
       have NB257_351 := n13_
       have NB351_257 := n14_
       have NB258_351 := n15_
       have NB351_258 := n16_
       have NB285_351 := n17_
       have NB351_285 := n18_
       have NB291_351 := n19_
       have NB351_291 := n20_
       have NB312_351 := n21_
       have NB351_312 := n22_
       have HB := n23_
       clear n0_ n1_ n2_ n3_ n4_ n5_ n6_ n7_ n8_ n9_ n10_ n11_ n12_ n13_ n14_ n15_ n16_ n17_ n18_ n19_ n20_ n21_ n22_ n23_
       have hHeld : w145.cell? ⟨gb257, 0, none⟩ = some (.int .i64 a0_0) ∧ w145.cell? ⟨gb257, 1, none⟩ = some (.int .i64 a0_1) ∧ w145.cell? ⟨gb257, 2, none⟩ = some (.int .i64 a0_2) ∧ w145.cell? ⟨gb257, 3, none⟩ = some (.int .i64 a0_3) ∧ w145.cell? ⟨gb257, 4, none⟩ = some (.int .i64 a0_4) ∧ w145.cell? ⟨gb257, 5, none⟩ = some (.int .i64 a0_5) ∧ w145.cell? ⟨gb257, 6, none⟩ = some (.int .i64 a0_6) ∧ w145.cell? ⟨gb257, 7, none⟩ = some (.int .i64 a0_7) ∧ w145.cell? ⟨gb257, 8, none⟩ = some (.int .i64 a0_8) ∧ w145.cell? ⟨gb257, 9, none⟩ = some (.int .i64 a0_9) ∧ w145.cell? ⟨gb257, 10, none⟩ = some (.int .i64 a0_10) ∧ w145.cell? ⟨gb257, 11, none⟩ = some (.int .i64 a0_11) ∧ w145.cell? ⟨gb257, 12, none⟩ = some (.int .i64 a0_12) ∧ w145.cell? ⟨gb257, 13, none⟩ = some (.int .i64 a0_13) ∧ w145.cell? ⟨gb258, 0, none⟩ = some (.int .i64 a1_0) ∧ w145.cell? ⟨gb258, 1, none⟩ = some (.slice A1_1 l1_1.length c1_1) ∧ w145.cell? ⟨gb258, 2, none⟩ = some (.int .i64 a1_2) := hS_
       obtain ⟨Ao147, co147, eo147⟩ := Kd.R_slice HO348.out
       (first | subst eo147 | (injection eo147 with f1_ f2_ f3_; have f4_ := f1_.symm; have f5_ := f3_.symm; clear f1_ f2_ f3_; subst f4_; subst f5_))
       refine norm_ (a' := ?_) ?_ ?_
       rotate_left
       ·
        simp only [putAll, Act.put, List.setIfInBounds_toArray, List.set_cons_zero, List.set_cons_succ]
        rfl
       refine one_ (i := 10) (N := none) #[true, true, true, true, true, true, true, true, true, true, true, false] rfl rfl (one_of HT_.out (by kernel_rfl)) (by decide) (fun K hK => ?_)
       have hs146 : w145.cell? ⟨gb351, 0, none⟩ = some (.int .i64 0) := (blk_cell BK351.out 0).trans rfl
       have hfs146 := blk_frozen BK351.out 0
       have hns146_0 := NB257_351.out
       have hns146_1 := NB258_351.out
       have hns146_2 := NB285_351.out
       have hns146_3 := NB291_351.out
       have hns146_4 := NB312_351.out
       have hms146_0 := NB351_257.out
       have hms146_1 := NB351_258.out
       have hms146_2 := NB351_285.out
       have hms146_3 := NB351_291.out
       have hms146_4 := NB351_312.out
       have hs148 : w145.cell? ⟨gb351, 1, none⟩ = some (.slice none 0 0) := (blk_cell BK351.out 1).trans rfl
       have hfs148 := blk_frozen BK351.out 1
       have hns148_0 := NB257_351.out
       have hns148_1 := NB258_351.out
       have hns148_2 := NB285_351.out
       have hns148_3 := NB291_351.out
       have hns148_4 := NB312_351.out
       have hms148_0 := NB351_257.out
       have hms148_1 := NB351_258.out
       have hms148_2 := NB351_285.out
       have hms148_3 := NB351_291.out
       have hms148_4 := NB351_312.out
       have hs149 : w145.cell? ⟨gb351, 2, none⟩ = some (.int .i64 0) := (blk_cell BK351.out 2).trans rfl
       have hfs149 := blk_frozen BK351.out 2
       have hns149_0 := NB257_351.out
       have hns149_1 := NB258_351.out
       have hns149_2 := NB285_351.out
       have hns149_3 := NB291_351.out
       have hns149_4 := NB312_351.out
       have hms149_0 := NB351_257.out
       have hms149_1 := NB351_258.out
       have hms149_2 := NB351_285.out
       have hms149_3 := NB351_291.out
       have hms149_4 := NB351_312.out
       refine skip_ (w1 := ?_) (by rfl) rfl ?_ ?_
       rotate_left
       ·
        go_simp
        rfl
       refine hK.out _ _ ⟨(cf3_ NB257_351.out (hHeld.1)), (cf3_ NB257_351.out (hHeld.2.1)), (cf3_ NB257_351.out (hHeld.2.2.1)), (cf3_ NB257_351.out (hHeld.2.2.2.1)), (cf3_ NB257_351.out (hHeld.2.2.2.2.1)), (cf3_ NB257_351.out (hHeld.2.2.2.2.2.1)), (cf3_ NB257_351.out (hHeld.2.2.2.2.2.2.1)), (cf3_ NB257_351.out (hHeld.2.2.2.2.2.2.2.1)), (cf3_ NB257_351.out (hHeld.2.2.2.2.2.2.2.2.1)), (cf3_ NB257_351.out (hHeld.2.2.2.2.2.2.2.2.2.1)), (cf3_ NB257_351.out (hHeld.2.2.2.2.2.2.2.2.2.2.1)), (cf3_ NB257_351.out (hHeld.2.2.2.2.2.2.2.2.2.2.2.1)), (cf3_ NB257_351.out (hHeld.2.2.2.2.2.2.2.2.2.2.2.2.1)), (cf3_ NB257_351.out (hHeld.2.2.2.2.2.2.2.2.2.2.2.2.2.1)), (cf3_ NB258_351.out (hHeld.2.2.2.2.2.2.2.2.2.2.2.2.2.2.1)), (cf3_ NB258_351.out (hHeld.2.2.2.2.2.2.2.2.2.2.2.2.2.2.2.1)), (cf3_ NB258_351.out (hHeld.2.2.2.2.2.2.2.2.2.2.2.2.2.2.2.2))⟩ (fun hHeld => ?_)
       clear hK K
       refine pure_ (i := 11) (N := some 17) (v := ?_) (a' := ?_) #[true, true, true, true, true, true, true, true, true, true, true, true] rfl rfl (any_of HT_.out (by kernel_rfl)) (fun _ _ _ h => h) (Or.inl ⟨by rfl, ?_⟩) ?_ ?_
       rotate_left
       ·
        intro w'
        go_simp
        with_reducible rfl
       rotate_left
       ·
        simp only [Act.put, List.setIfInBounds_toArray, List.set_cons_zero, List.set_cons_succ, i64_w, i32_w]
        rfl
       refine done_ (done_of HT_.out (by kernel_rfl)) ?_
       go_upto_region 25 with (fail)
       go_cut [100] (fun zv100 wc => ∃ (kq : Nat) (x100_129 : Bool), zv100 = .bool x100_129 ∧ Aside0 (laws_FnExactOnFailure.j2 kq t323 x100_129 t306 t324 t310 = some r) ∧ Aside0 (kq ≤ kj79) ∧ Aside0 (Kd.R (Kd.int .i64) 3 wc w.heap.size (fun k_ => some k_ ≠ ((.slice Ao42 t321.length co42) : Value).ownBlock ∧ some k_ ≠ ((.slice Ao50 t307.length co50) : Value).ownBlock ∧ some k_ ≠ ((.slice Ao147 t346.length co147) : Value).ownBlock) (.slice Ao31 t280.length co31) t280) ∧ Aside0 (Kd.R (Kd.int .i64) 3 wc w.heap.size (fun k_ => some k_ ≠ ((.slice Ao31 t280.length co31) : Value).ownBlock ∧ some k_ ≠ ((.slice Ao50 t307.length co50) : Value).ownBlock ∧ some k_ ≠ ((.slice Ao147 t346.length co147) : Value).ownBlock) (.slice Ao42 t321.length co42) t321) ∧ Aside0 (Kd.R (Kd.int .i64) 3 wc w.heap.size (fun k_ => some k_ ≠ ((.slice Ao31 t280.length co31) : Value).ownBlock ∧ some k_ ≠ ((.slice Ao42 t321.length co42) : Value).ownBlock ∧ some k_ ≠ ((.slice Ao147 t346.length co147) : Value).ownBlock) (.slice Ao50 t307.length co50) t324) ∧ Aside0 (Kd.R (Kd.int .i64) 3 wc w.heap.size (fun k_ => some k_ ≠ ((.slice Ao31 t280.length co31) : Value).ownBlock ∧ some k_ ≠ ((.slice Ao42 t321.length co42) : Value).ownBlock ∧ some k_ ≠ ((.slice Ao50 t307.length co50) : Value).ownBlock) (.slice Ao147 t346.length co147) t346) ∧ Aside0 (wc.heap[gb257]? = some (.cells #[.int .i64 a0_0, .int .i64 a0_1, .int .i64 a0_2, .int .i64 a0_3, .int .i64 a0_4, .int .i64 a0_5, .int .i64 a0_6, .int .i64 a0_7, .int .i64 a0_8, .int .i64 a0_9, .int .i64 a0_10, .int .i64 a0_11, .int .i64 a0_12, .int .i64 a0_13] 23 (0, 0))) ∧ Aside0 (wc.heap[gb258]? = some (.cells #[.int .i64 a1_0, (.slice A1_1 l1_1.length c1_1), .int .i64 a1_2] 26 (0, 0))) ∧ Aside0 (wc.heap[gb285]? = some (.cells #[.int .i64 t279, (.slice Ao31 t280.length co31), .int .i64 t283] 28 (0, 0))) ∧ Aside0 (wc.heap[gb291]? = some (.cells #[.int .i64 t286, (.slice Ao42 t321.length co42), .int .i64 t290] 28 (0, 0))) ∧ Aside0 (wc.heap[gb312]? = some (.cells #[.int .i64 t306, (.slice Ao50 t307.length co50), .int .i64 t310] 28 (0, 0))) ∧ Aside0 (wc.heap[gb351]? = some (.cells #[.int .i64 t345, (.slice Ao147 t346.length co147), .int .i64 t349] 28 (0, 0))) ∧ Aside0 (Below w.heap.size w wc))
       case first =>
        have H := HC130.out
        clear HC130
        replace H := Option.bind_eq_some_iff.mp H
        obtain ⟨t352, A1500, H⟩ := H
        replace H : (if t352 = true then (laws_FnExactOnFailure.j2 kj79 t323 (t350 != t284) t306 t324 t310) else (laws_FnExactOnFailure.j2 kj79 t323 true t306 t324 t310)) = some r := H
        have A150 := Aside0.mk A1500
        clear A1500
        by_cases c151 : t352 = true
        ·
         subst c151
         have H1 : (laws_FnExactOnFailure.j2 kj79 t323 (t350 != t284) t306 t324 t310) = some r := by rw [if_pos rfl] at H; exact H
         clear H
         have H := H1
         clear H1
         have H' := Aside0.mk H
         clear H
         have hnb152 := NB351_257.out
         have hnc152 := NB257_351.out
         have hnb153 := NB351_258.out
         have hnc153 := NB258_351.out
         have hnb154 := NB351_285.out
         have hnc154 := NB285_351.out
         have hnb155 := NB351_291.out
         have hnc155 := NB291_351.out
         have hnb156 := NB351_312.out
         have hnc156 := NB312_351.out
         obtain ⟨hcz157_0, hcz157_1, hcz157_2, hfz157_0, hfz157_1, hfz157_2⟩ := cz3_ BK351.out
         have hnb158 := NB285_257.out
         have hnc158 := NB257_285.out
         have hnb159 := NB285_258.out
         have hnc159 := NB258_285.out
         have hnb160 := NB285_291.out
         have hnc160 := NB291_285.out
         have hnb161 := NB285_312.out
         have hnc161 := NB312_285.out
         obtain ⟨hcz162_0, hcz162_1, hcz162_2, hfz162_0, hfz162_1, hfz162_2⟩ := cz3_ BK285.out
         go_wp2_with (first | ((with_reducible refine gate_callee (f := 9) rfl ?_); refine goesL_ (some 94) rfl rfl Try.func9 (by kernel_rfl) rfl #[.agg #[.int .i64 t345, .slice Ao147 t346.length co147, .int .i64 t349], .agg #[.int .i64 t279, .slice Ao31 t280.length co31, .int .i64 t283]] rfl gm_ ?_; (with_reducible refine (laws_eqBreaker.calls kj79 t345 _ _ t346 t349 t279 _ _ t280 t283 true _ ?side1 ?side2 ?side3 ?side4 A150.out).mono ?_); (case side1 => refine (Kd.R_reads' (e := 3) (base := w.heap.size) (ok := fun k_ => (some k_ ≠ (v342 : Value).ownBlock ∧ (some k_ ≠ (.slice Ao31 t280.length co31 : Value).ownBlock ∧ (some k_ ≠ (.slice Ao42 t321.length co42 : Value).ownBlock ∧ some k_ ≠ (.slice Ao50 t307.length co50 : Value).ownBlock)))) (n := t346.length) (c := co147) ?_).2.2; exact (by (with_reducible repeat (first | apply Kd.R_alloc | apply Kd.R_drewN | apply Kd.R_drew)); exact (Kd.R_mono (Kd.R_far (p := ⟨gb351, 2, none⟩) (Kd.R_far (p := ⟨gb351, 1, none⟩) (Kd.R_far (p := ⟨gb351, 0, none⟩) (Kd.R_types HO348.out BK351.out (by decide)) (fun _ hk => hk.2) (.int .i64 t345)) (fun _ hk => hk.2) (.slice Ao147 t346.length co147)) (fun _ hk => hk.2) (.int .i64 t349)) (fun _ h_ => h_.1)))); (case side2 => exact (Kd.R_reads' HO348.out).2.1); (case side3 => refine (Kd.R_reads' (e := 3) (base := w.heap.size) (ok := fun k_ => (some k_ ≠ (v342 : Value).ownBlock ∧ (some k_ ≠ (.slice Ao147 t346.length co147 : Value).ownBlock ∧ (some k_ ≠ (.slice Ao42 t321.length co42 : Value).ownBlock ∧ some k_ ≠ (.slice Ao50 t307.length co50 : Value).ownBlock)))) (n := t280.length) (c := co31) ?_).2.2; exact (by (with_reducible repeat (first | apply Kd.R_alloc | apply Kd.R_drewN | apply Kd.R_drew)); exact (Kd.R_mono (Kd.R_far (p := ⟨gb351, 2, none⟩) (Kd.R_far (p := ⟨gb351, 1, none⟩) (Kd.R_far (p := ⟨gb351, 0, none⟩) (Kd.R_types HO_286001.out BK351.out (by decide)) (fun _ hk => hk.2) (.int .i64 t345)) (fun _ hk => hk.2) (.slice Ao147 t346.length co147)) (fun _ hk => hk.2) (.int .i64 t349)) (fun _ h_ => h_.1)))); (case side4 => exact (Kd.R_reads' HO_286001.out).2.1); rintro e w163 ⟨rfl, hb⟩; refine ⟨_, rfl, ?_⟩; have n0_ := Aside0.mk (Kd.R_below (by (with_reducible repeat (first | apply Kd.R_alloc | apply Kd.R_drewN | apply Kd.R_drew)); exact (Kd.R_mono (Kd.R_far (p := ⟨gb351, 2, none⟩) (Kd.R_far (p := ⟨gb351, 1, none⟩) (Kd.R_far (p := ⟨gb351, 0, none⟩) (Kd.R_types HO_286001.out BK351.out (by decide)) (fun _ hk => hk.2) (.int .i64 t345)) (fun _ hk => hk.2) (.slice Ao147 t346.length co147)) (fun _ hk => hk.2) (.int .i64 t349)) (fun _ h_ => h_.1))) hb); have n1_ := Aside0.mk (Kd.R_below (by (with_reducible repeat (first | apply Kd.R_alloc | apply Kd.R_drewN | apply Kd.R_drew)); exact (Kd.R_mono (Kd.R_far (p := ⟨gb351, 2, none⟩) (Kd.R_far (p := ⟨gb351, 1, none⟩) (Kd.R_far (p := ⟨gb351, 0, none⟩) (Kd.R_types HO_292001.out BK351.out (by decide)) (fun _ hk => hk.2) (.int .i64 t345)) (fun _ hk => hk.2) (.slice Ao147 t346.length co147)) (fun _ hk => hk.2) (.int .i64 t349)) (fun _ h_ => h_.1))) hb); have n2_ := Aside0.mk (Kd.R_below (by (with_reducible repeat (first | apply Kd.R_alloc | apply Kd.R_drewN | apply Kd.R_drew)); exact (Kd.R_mono (Kd.R_far (p := ⟨gb351, 2, none⟩) (Kd.R_far (p := ⟨gb351, 1, none⟩) (Kd.R_far (p := ⟨gb351, 0, none⟩) (Kd.R_types HO_313001.out BK351.out (by decide)) (fun _ hk => hk.2) (.int .i64 t345)) (fun _ hk => hk.2) (.slice Ao147 t346.length co147)) (fun _ hk => hk.2) (.int .i64 t349)) (fun _ h_ => h_.1))) hb); have n3_ := Aside0.mk (Kd.R_below (by (with_reducible repeat (first | apply Kd.R_alloc | apply Kd.R_drewN | apply Kd.R_drew)); exact (Kd.R_mono (Kd.R_far (p := ⟨gb351, 2, none⟩) (Kd.R_far (p := ⟨gb351, 1, none⟩) (Kd.R_far (p := ⟨gb351, 0, none⟩) (Kd.R_types HO343.out BK351.out (by decide)) (fun _ hk => hk.2) (.int .i64 t345)) (fun _ hk => hk.2) (.slice Ao147 t346.length co147)) (fun _ hk => hk.2) (.int .i64 t349)) (fun _ h_ => h_.1))) hb); have n4_ := Aside0.mk (Kd.R_below (by (with_reducible repeat (first | apply Kd.R_alloc | apply Kd.R_drewN | apply Kd.R_drew)); exact (Kd.R_mono (Kd.R_far (p := ⟨gb351, 2, none⟩) (Kd.R_far (p := ⟨gb351, 1, none⟩) (Kd.R_far (p := ⟨gb351, 0, none⟩) (Kd.R_types HO348.out BK351.out (by decide)) (fun _ hk => hk.2) (.int .i64 t345)) (fun _ hk => hk.2) (.slice Ao147 t346.length co147)) (fun _ hk => hk.2) (.int .i64 t349)) (fun _ h_ => h_.1))) hb); have n5_ := Aside0.mk (blk_below (g := gb257) (o := .cells #[.int .i64 a0_0, .int .i64 a0_1, .int .i64 a0_2, .int .i64 a0_3, .int .i64 a0_4, .int .i64 a0_5, .int .i64 a0_6, .int .i64 a0_7, .int .i64 a0_8, .int .i64 a0_9, .int .i64 a0_10, .int .i64 a0_11, .int .i64 a0_12, .int .i64 a0_13] 23 (0, 0)) (by refine bl_ ?_; refine blk_far ?_ NB257_351.out _; refine bl_ ?_; refine blk_far ?_ NB257_351.out _; refine bl_ ?_; refine blk_far ?_ NB257_351.out _; refine bl_ ?_; exact BK257.out) hb); have n6_ := Aside0.mk (blk_below (g := gb258) (o := .cells #[.int .i64 a1_0, .slice A1_1 l1_1.length c1_1, .int .i64 a1_2] 26 (0, 0)) (by refine bl_ ?_; refine blk_far ?_ NB258_351.out _; refine bl_ ?_; refine blk_far ?_ NB258_351.out _; refine bl_ ?_; refine blk_far ?_ NB258_351.out _; refine bl_ ?_; exact BK258.out) hb); have n7_ := Aside0.mk (blk_below (g := gb285) (o := .cells #[.int .i64 t279, .slice Ao31 t280.length co31, .int .i64 t283] 28 (0, 0)) (by refine bl_ ?_; refine blk_far ?_ NB285_351.out _; refine bl_ ?_; refine blk_far ?_ NB285_351.out _; refine bl_ ?_; refine blk_far ?_ NB285_351.out _; refine bl_ ?_; exact BK285.out) hb); have n8_ := Aside0.mk (blk_below (g := gb291) (o := .cells #[.int .i64 t286, .slice Ao42 t321.length co42, .int .i64 t290] 28 (0, 0)) (by refine bl_ ?_; refine blk_far ?_ NB291_351.out _; refine bl_ ?_; refine blk_far ?_ NB291_351.out _; refine bl_ ?_; refine blk_far ?_ NB291_351.out _; refine bl_ ?_; exact BK291.out) hb); have n9_ := Aside0.mk (blk_below (g := gb312) (o := .cells #[.int .i64 t306, .slice Ao50 t307.length co50, .int .i64 t310] 28 (0, 0)) (by refine bl_ ?_; refine blk_far ?_ NB312_351.out _; refine bl_ ?_; refine blk_far ?_ NB312_351.out _; refine bl_ ?_; refine blk_far ?_ NB312_351.out _; refine bl_ ?_; exact BK312.out) hb); have n10_ := Aside0.mk (blk_below (g := gb351) (o := .cells #[.int .i64 t345, .slice Ao147 t346.length co147, .int .i64 t349] 28 (0, 0)) (by refine bl_ ?_; refine blk_put (cs := #[.int .i64 t345, .slice Ao147 t346.length co147, .int .i64 0]) ?_ 2 _ rfl; refine bl_ ?_; refine blk_put (cs := #[.int .i64 t345, .slice none 0 0, .int .i64 0]) ?_ 1 _ rfl; refine bl_ ?_; refine blk_put (cs := #[.int .i64 0, .slice none 0 0, .int .i64 0]) ?_ 0 _ rfl; refine bl_ ?_; exact BK351.out) hb); have n11_ := Aside0.mk (below_step (be_ HB.out) hb); clear HO_286001 HO_292001 HO_313001 HO343 HO348 BK257 BK258 BK285 BK291 BK312 BK351 HB; have HO_286001 := n0_; have HO_292001 := n1_; have HO_313001 := n2_; have HO343 := n3_; have HO348 := n4_; have BK257 := n5_; have BK258 := n6_; have BK285 := n7_; have BK291 := n8_; have BK312 := n9_; have BK351 := n10_; have HB := n11_; clear n0_ n1_ n2_ n3_ n4_ n5_ n6_ n7_ n8_ n9_ n10_ n11_; (try clear hb); (try clear hb2); (try clear hk); (try clear hi)))
         go_meet
         case rel => exact ⟨_, ((t350 != t284)), (by first | rfl | (simp; done) | (simp [*]; done)), H', ⟨by have := HJ16.out; have := HJ79.out; first | omega | exact Nat.le_refl _⟩, ⟨by (try simp only [hl292001_79]); (with_reducible repeat (first | apply Kd.R_alloc | apply Kd.R_drewN | apply Kd.R_drew)); exact Kd.R_mono HO_286001.out (fun _ hk => ⟨hk.2.2.1, ⟨hk.2.2.2, hk.2.1⟩⟩)⟩, ⟨by (try simp only [hl292001_79]); (with_reducible repeat (first | apply Kd.R_alloc | apply Kd.R_drewN | apply Kd.R_drew)); exact Kd.R_mono HO_292001.out (fun _ hk => ⟨hk.2.2.1, ⟨hk.2.2.2, hk.2.1⟩⟩)⟩, ⟨by (try simp only [hl292001_79]); (with_reducible repeat (first | apply Kd.R_alloc | apply Kd.R_drewN | apply Kd.R_drew)); exact Kd.R_mono HO_313001.out (fun _ hk => ⟨hk.2.2.1, ⟨hk.2.2.2, hk.2.1⟩⟩)⟩, ⟨by (try simp only [hl292001_79]); (with_reducible repeat (first | apply Kd.R_alloc | apply Kd.R_drewN | apply Kd.R_drew)); exact Kd.R_mono HO348.out (fun _ hk => ⟨hk.2.1, ⟨hk.2.2.1, hk.2.2.2⟩⟩)⟩, ⟨by (try simp only [hl292001_79]); refine bl_ ?_; exact BK257.out⟩, ⟨by (try simp only [hl292001_79]); refine bl_ ?_; exact BK258.out⟩, ⟨by (try simp only [hl292001_79]); refine bl_ ?_; exact BK285.out⟩, ⟨by (try simp only [hl292001_79]); refine bl_ ?_; exact BK291.out⟩, ⟨by (try simp only [hl292001_79]); refine bl_ ?_; exact BK312.out⟩, ⟨by (try simp only [hl292001_79]); refine bl_ ?_; exact BK351.out⟩, ⟨be_ HB.out⟩⟩
        replace c151 := Bool.eq_false_iff.mpr c151
        subst c151
        have H1 : (laws_FnExactOnFailure.j2 kj79 t323 true t306 t324 t310) = some r := by rw [if_neg (show ¬ (false = true) by decide)] at H; exact H
        clear H
        have H := H1
        clear H1
        have H' := Aside0.mk H
        clear H
        have hnb164 := NB351_257.out
        have hnc164 := NB257_351.out
        have hnb165 := NB351_258.out
        have hnc165 := NB258_351.out
        have hnb166 := NB351_285.out
        have hnc166 := NB285_351.out
        have hnb167 := NB351_291.out
        have hnc167 := NB291_351.out
        have hnb168 := NB351_312.out
        have hnc168 := NB312_351.out
        obtain ⟨hcz169_0, hcz169_1, hcz169_2, hfz169_0, hfz169_1, hfz169_2⟩ := cz3_ BK351.out
        have hnb170 := NB285_257.out
        have hnc170 := NB257_285.out
        have hnb171 := NB285_258.out
        have hnc171 := NB258_285.out
        have hnb172 := NB285_291.out
        have hnc172 := NB291_285.out
        have hnb173 := NB285_312.out
        have hnc173 := NB312_285.out
        obtain ⟨hcz174_0, hcz174_1, hcz174_2, hfz174_0, hfz174_1, hfz174_2⟩ := cz3_ BK285.out
        go_wp2_with (first | ((with_reducible refine gate_callee (f := 9) rfl ?_); refine goesL_ (some 94) rfl rfl Try.func9 (by kernel_rfl) rfl #[.agg #[.int .i64 t345, .slice Ao147 t346.length co147, .int .i64 t349], .agg #[.int .i64 t279, .slice Ao31 t280.length co31, .int .i64 t283]] rfl gm_ ?_; (with_reducible refine (laws_eqBreaker.calls kj79 t345 _ _ t346 t349 t279 _ _ t280 t283 false _ ?side1 ?side2 ?side3 ?side4 A150.out).mono ?_); (case side1 => refine (Kd.R_reads' (e := 3) (base := w.heap.size) (ok := fun k_ => (some k_ ≠ (v342 : Value).ownBlock ∧ (some k_ ≠ (.slice Ao31 t280.length co31 : Value).ownBlock ∧ (some k_ ≠ (.slice Ao42 t321.length co42 : Value).ownBlock ∧ some k_ ≠ (.slice Ao50 t307.length co50 : Value).ownBlock)))) (n := t346.length) (c := co147) ?_).2.2; exact (by (with_reducible repeat (first | apply Kd.R_alloc | apply Kd.R_drewN | apply Kd.R_drew)); exact (Kd.R_mono (Kd.R_far (p := ⟨gb351, 2, none⟩) (Kd.R_far (p := ⟨gb351, 1, none⟩) (Kd.R_far (p := ⟨gb351, 0, none⟩) (Kd.R_types HO348.out BK351.out (by decide)) (fun _ hk => hk.2) (.int .i64 t345)) (fun _ hk => hk.2) (.slice Ao147 t346.length co147)) (fun _ hk => hk.2) (.int .i64 t349)) (fun _ h_ => h_.1)))); (case side2 => exact (Kd.R_reads' HO348.out).2.1); (case side3 => refine (Kd.R_reads' (e := 3) (base := w.heap.size) (ok := fun k_ => (some k_ ≠ (v342 : Value).ownBlock ∧ (some k_ ≠ (.slice Ao147 t346.length co147 : Value).ownBlock ∧ (some k_ ≠ (.slice Ao42 t321.length co42 : Value).ownBlock ∧ some k_ ≠ (.slice Ao50 t307.length co50 : Value).ownBlock)))) (n := t280.length) (c := co31) ?_).2.2; exact (by (with_reducible repeat (first | apply Kd.R_alloc | apply Kd.R_drewN | apply Kd.R_drew)); exact (Kd.R_mono (Kd.R_far (p := ⟨gb351, 2, none⟩) (Kd.R_far (p := ⟨gb351, 1, none⟩) (Kd.R_far (p := ⟨gb351, 0, none⟩) (Kd.R_types HO_286001.out BK351.out (by decide)) (fun _ hk => hk.2) (.int .i64 t345)) (fun _ hk => hk.2) (.slice Ao147 t346.length co147)) (fun _ hk => hk.2) (.int .i64 t349)) (fun _ h_ => h_.1)))); (case side4 => exact (Kd.R_reads' HO_286001.out).2.1); rintro e w175 ⟨rfl, hb⟩; refine ⟨_, rfl, ?_⟩; have n0_ := Aside0.mk (Kd.R_below (by (with_reducible repeat (first | apply Kd.R_alloc | apply Kd.R_drewN | apply Kd.R_drew)); exact (Kd.R_mono (Kd.R_far (p := ⟨gb351, 2, none⟩) (Kd.R_far (p := ⟨gb351, 1, none⟩) (Kd.R_far (p := ⟨gb351, 0, none⟩) (Kd.R_types HO_286001.out BK351.out (by decide)) (fun _ hk => hk.2) (.int .i64 t345)) (fun _ hk => hk.2) (.slice Ao147 t346.length co147)) (fun _ hk => hk.2) (.int .i64 t349)) (fun _ h_ => h_.1))) hb); have n1_ := Aside0.mk (Kd.R_below (by (with_reducible repeat (first | apply Kd.R_alloc | apply Kd.R_drewN | apply Kd.R_drew)); exact (Kd.R_mono (Kd.R_far (p := ⟨gb351, 2, none⟩) (Kd.R_far (p := ⟨gb351, 1, none⟩) (Kd.R_far (p := ⟨gb351, 0, none⟩) (Kd.R_types HO_292001.out BK351.out (by decide)) (fun _ hk => hk.2) (.int .i64 t345)) (fun _ hk => hk.2) (.slice Ao147 t346.length co147)) (fun _ hk => hk.2) (.int .i64 t349)) (fun _ h_ => h_.1))) hb); have n2_ := Aside0.mk (Kd.R_below (by (with_reducible repeat (first | apply Kd.R_alloc | apply Kd.R_drewN | apply Kd.R_drew)); exact (Kd.R_mono (Kd.R_far (p := ⟨gb351, 2, none⟩) (Kd.R_far (p := ⟨gb351, 1, none⟩) (Kd.R_far (p := ⟨gb351, 0, none⟩) (Kd.R_types HO_313001.out BK351.out (by decide)) (fun _ hk => hk.2) (.int .i64 t345)) (fun _ hk => hk.2) (.slice Ao147 t346.length co147)) (fun _ hk => hk.2) (.int .i64 t349)) (fun _ h_ => h_.1))) hb); have n3_ := Aside0.mk (Kd.R_below (by (with_reducible repeat (first | apply Kd.R_alloc | apply Kd.R_drewN | apply Kd.R_drew)); exact (Kd.R_mono (Kd.R_far (p := ⟨gb351, 2, none⟩) (Kd.R_far (p := ⟨gb351, 1, none⟩) (Kd.R_far (p := ⟨gb351, 0, none⟩) (Kd.R_types HO343.out BK351.out (by decide)) (fun _ hk => hk.2) (.int .i64 t345)) (fun _ hk => hk.2) (.slice Ao147 t346.length co147)) (fun _ hk => hk.2) (.int .i64 t349)) (fun _ h_ => h_.1))) hb); have n4_ := Aside0.mk (Kd.R_below (by (with_reducible repeat (first | apply Kd.R_alloc | apply Kd.R_drewN | apply Kd.R_drew)); exact (Kd.R_mono (Kd.R_far (p := ⟨gb351, 2, none⟩) (Kd.R_far (p := ⟨gb351, 1, none⟩) (Kd.R_far (p := ⟨gb351, 0, none⟩) (Kd.R_types HO348.out BK351.out (by decide)) (fun _ hk => hk.2) (.int .i64 t345)) (fun _ hk => hk.2) (.slice Ao147 t346.length co147)) (fun _ hk => hk.2) (.int .i64 t349)) (fun _ h_ => h_.1))) hb); have n5_ := Aside0.mk (blk_below (g := gb257) (o := .cells #[.int .i64 a0_0, .int .i64 a0_1, .int .i64 a0_2, .int .i64 a0_3, .int .i64 a0_4, .int .i64 a0_5, .int .i64 a0_6, .int .i64 a0_7, .int .i64 a0_8, .int .i64 a0_9, .int .i64 a0_10, .int .i64 a0_11, .int .i64 a0_12, .int .i64 a0_13] 23 (0, 0)) (by refine bl_ ?_; refine blk_far ?_ NB257_351.out _; refine bl_ ?_; refine blk_far ?_ NB257_351.out _; refine bl_ ?_; refine blk_far ?_ NB257_351.out _; refine bl_ ?_; exact BK257.out) hb); have n6_ := Aside0.mk (blk_below (g := gb258) (o := .cells #[.int .i64 a1_0, .slice A1_1 l1_1.length c1_1, .int .i64 a1_2] 26 (0, 0)) (by refine bl_ ?_; refine blk_far ?_ NB258_351.out _; refine bl_ ?_; refine blk_far ?_ NB258_351.out _; refine bl_ ?_; refine blk_far ?_ NB258_351.out _; refine bl_ ?_; exact BK258.out) hb); have n7_ := Aside0.mk (blk_below (g := gb285) (o := .cells #[.int .i64 t279, .slice Ao31 t280.length co31, .int .i64 t283] 28 (0, 0)) (by refine bl_ ?_; refine blk_far ?_ NB285_351.out _; refine bl_ ?_; refine blk_far ?_ NB285_351.out _; refine bl_ ?_; refine blk_far ?_ NB285_351.out _; refine bl_ ?_; exact BK285.out) hb); have n8_ := Aside0.mk (blk_below (g := gb291) (o := .cells #[.int .i64 t286, .slice Ao42 t321.length co42, .int .i64 t290] 28 (0, 0)) (by refine bl_ ?_; refine blk_far ?_ NB291_351.out _; refine bl_ ?_; refine blk_far ?_ NB291_351.out _; refine bl_ ?_; refine blk_far ?_ NB291_351.out _; refine bl_ ?_; exact BK291.out) hb); have n9_ := Aside0.mk (blk_below (g := gb312) (o := .cells #[.int .i64 t306, .slice Ao50 t307.length co50, .int .i64 t310] 28 (0, 0)) (by refine bl_ ?_; refine blk_far ?_ NB312_351.out _; refine bl_ ?_; refine blk_far ?_ NB312_351.out _; refine bl_ ?_; refine blk_far ?_ NB312_351.out _; refine bl_ ?_; exact BK312.out) hb); have n10_ := Aside0.mk (blk_below (g := gb351) (o := .cells #[.int .i64 t345, .slice Ao147 t346.length co147, .int .i64 t349] 28 (0, 0)) (by refine bl_ ?_; refine blk_put (cs := #[.int .i64 t345, .slice Ao147 t346.length co147, .int .i64 0]) ?_ 2 _ rfl; refine bl_ ?_; refine blk_put (cs := #[.int .i64 t345, .slice none 0 0, .int .i64 0]) ?_ 1 _ rfl; refine bl_ ?_; refine blk_put (cs := #[.int .i64 0, .slice none 0 0, .int .i64 0]) ?_ 0 _ rfl; refine bl_ ?_; exact BK351.out) hb); have n11_ := Aside0.mk (below_step (be_ HB.out) hb); clear HO_286001 HO_292001 HO_313001 HO343 HO348 BK257 BK258 BK285 BK291 BK312 BK351 HB; have HO_286001 := n0_; have HO_292001 := n1_; have HO_313001 := n2_; have HO343 := n3_; have HO348 := n4_; have BK257 := n5_; have BK258 := n6_; have BK285 := n7_; have BK291 := n8_; have BK312 := n9_; have BK351 := n10_; have HB := n11_; clear n0_ n1_ n2_ n3_ n4_ n5_ n6_ n7_ n8_ n9_ n10_ n11_; (try clear hb); (try clear hb2); (try clear hk); (try clear hi)))
        go_meet
        case rel => exact ⟨_, (true), (by first | rfl | (simp; done) | (simp [*]; done)), H', ⟨by have := HJ16.out; have := HJ79.out; first | omega | exact Nat.le_refl _⟩, ⟨by (try simp only [hl292001_79]); (with_reducible repeat (first | apply Kd.R_alloc | apply Kd.R_drewN | apply Kd.R_drew)); exact Kd.R_mono HO_286001.out (fun _ hk => ⟨hk.2.2.1, ⟨hk.2.2.2, hk.2.1⟩⟩)⟩, ⟨by (try simp only [hl292001_79]); (with_reducible repeat (first | apply Kd.R_alloc | apply Kd.R_drewN | apply Kd.R_drew)); exact Kd.R_mono HO_292001.out (fun _ hk => ⟨hk.2.2.1, ⟨hk.2.2.2, hk.2.1⟩⟩)⟩, ⟨by (try simp only [hl292001_79]); (with_reducible repeat (first | apply Kd.R_alloc | apply Kd.R_drewN | apply Kd.R_drew)); exact Kd.R_mono HO_313001.out (fun _ hk => ⟨hk.2.2.1, ⟨hk.2.2.2, hk.2.1⟩⟩)⟩, ⟨by (try simp only [hl292001_79]); (with_reducible repeat (first | apply Kd.R_alloc | apply Kd.R_drewN | apply Kd.R_drew)); exact Kd.R_mono HO348.out (fun _ hk => ⟨hk.2.1, ⟨hk.2.2.1, hk.2.2.2⟩⟩)⟩, ⟨by (try simp only [hl292001_79]); refine bl_ ?_; exact BK257.out⟩, ⟨by (try simp only [hl292001_79]); refine bl_ ?_; exact BK258.out⟩, ⟨by (try simp only [hl292001_79]); refine bl_ ?_; exact BK285.out⟩, ⟨by (try simp only [hl292001_79]); refine bl_ ?_; exact BK291.out⟩, ⟨by (try simp only [hl292001_79]); refine bl_ ?_; exact BK312.out⟩, ⟨by (try simp only [hl292001_79]); refine bl_ ?_; exact BK351.out⟩, ⟨be_ HB.out⟩⟩
       case rest =>
        clear HC130
        try clear c1
        try clear p2
        try clear c6
        try clear c7
        try clear c8
        try clear c9
        try clear c15
        try clear c16
        try clear c17
        try clear c151
        try clear c152
        try clear c153
        try clear c154
        try clear c155
        try clear c156
        try clear c158
        try clear c159
        try clear c160
        try clear c161
        try clear c164
        try clear c165
        try clear c166
        try clear c167
        try clear c168
        try clear c170
        try clear c171
        try clear c172
        try clear c173
        try clear hcz157_0
        try clear hcz157_1
        try clear hcz157_2
        try clear hcz162_0
        try clear hcz162_1
        try clear hcz162_2
        try clear hcz169_0
        try clear hcz169_1
        try clear hcz169_2
        try clear hcz174_0
        try clear hcz174_1
        try clear hcz174_2
        try clear hfz157_0
        try clear hfz157_1
        try clear hfz157_2
        try clear hfz162_0
        try clear hfz162_1
        try clear hfz162_2
        try clear hfz169_0
        try clear hfz169_1
        try clear hfz169_2
        try clear hfz174_0
        try clear hfz174_1
        try clear hfz174_2
        obtain ⟨kq, x100_129, rfl, HA, HJ129, HO_286001, HO_292001, HO_313001, HO_352001, BK257, BK258, BK285, BK291, BK312, BK351, HB⟩ := hcut
        have hl313001_129 := (Kd.R_reads' HO_313001.out).1
        rw [hl313001_129] at HO_313001
        (try simp only [hl313001_129])
        (try simp only [hl313001_129] at BK257)
        (try simp only [hl313001_129] at BK258)
        (try simp only [hl313001_129] at BK285)
        (try simp only [hl313001_129] at BK291)
        (try simp only [hl313001_129] at BK312)
        (try simp only [hl313001_129] at BK351)
        (try simp only [hl313001_129] at HO_286001)
        (try simp only [hl313001_129] at HO_292001)
        (try simp only [hl313001_129] at HO_352001)
        cases kq with
        | zero => exact absurd HA.out (by simp [laws_FnExactOnFailure.j2])
        | succ kj129 =>
         have H := HA.out
         clear HA
         simp only [laws_FnExactOnFailure.j2] at H
         by_cases c176 : x100_129 = true
         ·
          subst c176
          have H1 : (some false) = some r := by rw [if_pos rfl] at H; exact H
          clear H
          have H := H1
          clear H1
          obtain rfl := Option.some.inj H
          go_wp2
          go_ret
          exact ⟨by first | rfl | (simp [errW_none, errW_some] <;> rfl) | (simp [*, errW_none, errW_some] <;> rfl), be_ HB.out⟩
         replace c176 := Bool.eq_false_iff.mpr c176
         subst c176
         have H1 : ((laws_heldBreaker.f kj129 t306 t324 t310 1).bind fun t353 => (if t353 < 0 then (some false) else (if t353 = t323 then (some true) else (some false)))) = some r := by rw [if_neg (show ¬ (false = true) by decide)] at H; exact H
         clear H
         have H := H1
         clear H1
         replace H := Option.bind_eq_some_iff.mp H
         obtain ⟨t353, A1770, H⟩ := H
         replace H : (if t353 < 0 then (some false) else (if t353 = t323 then (some true) else (some false))) = some r := H
         have A177 := Aside0.mk A1770
         clear A1770
         by_cases c178 : t353 < 0
         ·
          rw [if_pos c178] at H
          have c178b0 : decide (t353 < 0) = true := decide_eq_true c178
          clear c178
          obtain rfl := Option.some.inj H
          have hnb179 := NB312_257.out
          have hnc179 := NB257_312.out
          have hnb180 := NB312_258.out
          have hnc180 := NB258_312.out
          have hnb181 := NB312_285.out
          have hnc181 := NB285_312.out
          have hnb182 := NB312_291.out
          have hnc182 := NB291_312.out
          have hnb183 := NB312_351.out
          have hnc183 := NB351_312.out
          obtain ⟨hcz184_0, hcz184_1, hcz184_2, hfz184_0, hfz184_1, hfz184_2⟩ := cz3_ BK312.out
          go_wp2_with (first | ((with_reducible refine gate_callee (f := 11) rfl ?_); refine goesL_ (some 103) rfl rfl Try.func11 (by kernel_rfl) rfl #[.agg #[.int .i64 t306, .slice Ao50 t324.length co50, .int .i64 t310], .int .i64 1] rfl gm_ ?_; (with_reducible refine (laws_heldBreaker.calls kj129 t306 _ _ t324 t310 1 t353 _ ?side1 ?side2 A177.out).mono ?_); (case side1 => repeat (first | exact (Kd.R_reads' HO_313001.out).2.2 | (with_reducible refine Kd.C_alloc ?_ _) | (with_reducible refine Kd.C_drewN ?_ _) | (with_reducible refine Kd.C_drew ?_))); (case side2 => exact (Kd.R_reads' HO_313001.out).2.1); rintro e w185 ⟨rfl, hb⟩; refine ⟨_, rfl, ?_⟩; have n0_ := Aside0.mk (Kd.R_below (ro_ HO_286001.out) hb); have n1_ := Aside0.mk (Kd.R_below (ro_ HO_292001.out) hb); have n2_ := Aside0.mk (Kd.R_below (ro_ HO_313001.out) hb); have n3_ := Aside0.mk (Kd.R_below (ro_ HO_352001.out) hb); have n4_ := Aside0.mk (blk_below (bl_ BK257.out) hb); have n5_ := Aside0.mk (blk_below (bl_ BK258.out) hb); have n6_ := Aside0.mk (blk_below (bl_ BK285.out) hb); have n7_ := Aside0.mk (blk_below (bl_ BK291.out) hb); have n8_ := Aside0.mk (blk_below (bl_ BK312.out) hb); have n9_ := Aside0.mk (blk_below (bl_ BK351.out) hb); have n10_ := Aside0.mk (below_step (be_ HB.out) hb); clear HO_286001 HO_292001 HO_313001 HO_352001 BK257 BK258 BK285 BK291 BK312 BK351 HB; have HO_286001 := n0_; have HO_292001 := n1_; have HO_313001 := n2_; have HO_352001 := n3_; have BK257 := n4_; have BK258 := n5_; have BK285 := n6_; have BK291 := n7_; have BK312 := n8_; have BK351 := n9_; have HB := n10_; clear n0_ n1_ n2_ n3_ n4_ n5_ n6_ n7_ n8_ n9_ n10_; (try clear hb); (try clear hb2); (try clear hk); (try clear hi)))
          go_ret
          exact ⟨by first | rfl | (simp [errW_none, errW_some] <;> rfl) | (simp [*, errW_none, errW_some] <;> rfl), be_ HB.out⟩
         rw [if_neg c178] at H
         have c178b0 : decide (t353 < 0) = false := decide_eq_false c178
         clear c178
         by_cases c186 : t353 = t323
         ·
          rw [if_pos c186] at H
          have c186b0 : (t353 == t323) = true := beq_iff_eq.mpr c186
          have c186b1 : (t353 != t323) = false := bne_eq_false_iff_eq.mpr c186
          clear c186
          obtain rfl := Option.some.inj H
          have hnb187 := NB312_257.out
          have hnc187 := NB257_312.out
          have hnb188 := NB312_258.out
          have hnc188 := NB258_312.out
          have hnb189 := NB312_285.out
          have hnc189 := NB285_312.out
          have hnb190 := NB312_291.out
          have hnc190 := NB291_312.out
          have hnb191 := NB312_351.out
          have hnc191 := NB351_312.out
          obtain ⟨hcz192_0, hcz192_1, hcz192_2, hfz192_0, hfz192_1, hfz192_2⟩ := cz3_ BK312.out
          go_wp2_with (first | ((with_reducible refine gate_callee (f := 11) rfl ?_); refine goesL_ (some 103) rfl rfl Try.func11 (by kernel_rfl) rfl #[.agg #[.int .i64 t306, .slice Ao50 t324.length co50, .int .i64 t310], .int .i64 1] rfl gm_ ?_; (with_reducible refine (laws_heldBreaker.calls kj129 t306 _ _ t324 t310 1 t353 _ ?side1 ?side2 A177.out).mono ?_); (case side1 => repeat (first | exact (Kd.R_reads' HO_313001.out).2.2 | (with_reducible refine Kd.C_alloc ?_ _) | (with_reducible refine Kd.C_drewN ?_ _) | (with_reducible refine Kd.C_drew ?_))); (case side2 => exact (Kd.R_reads' HO_313001.out).2.1); rintro e w193 ⟨rfl, hb⟩; refine ⟨_, rfl, ?_⟩; have n0_ := Aside0.mk (Kd.R_below (ro_ HO_286001.out) hb); have n1_ := Aside0.mk (Kd.R_below (ro_ HO_292001.out) hb); have n2_ := Aside0.mk (Kd.R_below (ro_ HO_313001.out) hb); have n3_ := Aside0.mk (Kd.R_below (ro_ HO_352001.out) hb); have n4_ := Aside0.mk (blk_below (bl_ BK257.out) hb); have n5_ := Aside0.mk (blk_below (bl_ BK258.out) hb); have n6_ := Aside0.mk (blk_below (bl_ BK285.out) hb); have n7_ := Aside0.mk (blk_below (bl_ BK291.out) hb); have n8_ := Aside0.mk (blk_below (bl_ BK312.out) hb); have n9_ := Aside0.mk (blk_below (bl_ BK351.out) hb); have n10_ := Aside0.mk (below_step (be_ HB.out) hb); clear HO_286001 HO_292001 HO_313001 HO_352001 BK257 BK258 BK285 BK291 BK312 BK351 HB; have HO_286001 := n0_; have HO_292001 := n1_; have HO_313001 := n2_; have HO_352001 := n3_; have BK257 := n4_; have BK258 := n5_; have BK285 := n6_; have BK291 := n7_; have BK312 := n8_; have BK351 := n9_; have HB := n10_; clear n0_ n1_ n2_ n3_ n4_ n5_ n6_ n7_ n8_ n9_ n10_; (try clear hb); (try clear hb2); (try clear hk); (try clear hi)))
          go_ret
          exact ⟨by first | rfl | (simp [errW_none, errW_some] <;> rfl) | (simp [*, errW_none, errW_some] <;> rfl), be_ HB.out⟩
         rw [if_neg c186] at H
         have c186b0 : (t353 == t323) = false := beq_eq_false_iff_ne.mpr c186
         have c186b1 : (t353 != t323) = true := bne_iff_ne.mpr c186
         obtain rfl := Option.some.inj H
         have hnb194 := NB312_257.out
         have hnc194 := NB257_312.out
         have hnb195 := NB312_258.out
         have hnc195 := NB258_312.out
         have hnb196 := NB312_285.out
         have hnc196 := NB285_312.out
         have hnb197 := NB312_291.out
         have hnc197 := NB291_312.out
         have hnb198 := NB312_351.out
         have hnc198 := NB351_312.out
         obtain ⟨hcz199_0, hcz199_1, hcz199_2, hfz199_0, hfz199_1, hfz199_2⟩ := cz3_ BK312.out
         go_wp2_with (first | ((with_reducible refine gate_callee (f := 11) rfl ?_); refine goesL_ (some 103) rfl rfl Try.func11 (by kernel_rfl) rfl #[.agg #[.int .i64 t306, .slice Ao50 t324.length co50, .int .i64 t310], .int .i64 1] rfl gm_ ?_; (with_reducible refine (laws_heldBreaker.calls kj129 t306 _ _ t324 t310 1 t353 _ ?side1 ?side2 A177.out).mono ?_); (case side1 => repeat (first | exact (Kd.R_reads' HO_313001.out).2.2 | (with_reducible refine Kd.C_alloc ?_ _) | (with_reducible refine Kd.C_drewN ?_ _) | (with_reducible refine Kd.C_drew ?_))); (case side2 => exact (Kd.R_reads' HO_313001.out).2.1); rintro e w200 ⟨rfl, hb⟩; refine ⟨_, rfl, ?_⟩; have n0_ := Aside0.mk (Kd.R_below (ro_ HO_286001.out) hb); have n1_ := Aside0.mk (Kd.R_below (ro_ HO_292001.out) hb); have n2_ := Aside0.mk (Kd.R_below (ro_ HO_313001.out) hb); have n3_ := Aside0.mk (Kd.R_below (ro_ HO_352001.out) hb); have n4_ := Aside0.mk (blk_below (bl_ BK257.out) hb); have n5_ := Aside0.mk (blk_below (bl_ BK258.out) hb); have n6_ := Aside0.mk (blk_below (bl_ BK285.out) hb); have n7_ := Aside0.mk (blk_below (bl_ BK291.out) hb); have n8_ := Aside0.mk (blk_below (bl_ BK312.out) hb); have n9_ := Aside0.mk (blk_below (bl_ BK351.out) hb); have n10_ := Aside0.mk (below_step (be_ HB.out) hb); clear HO_286001 HO_292001 HO_313001 HO_352001 BK257 BK258 BK285 BK291 BK312 BK351 HB; have HO_286001 := n0_; have HO_292001 := n1_; have HO_313001 := n2_; have HO_352001 := n3_; have BK257 := n4_; have BK258 := n5_; have BK285 := n6_; have BK291 := n7_; have BK312 := n8_; have BK351 := n9_; have HB := n10_; clear n0_ n1_ n2_ n3_ n4_ n5_ n6_ n7_ n8_ n9_ n10_; (try clear hb); (try clear hb2); (try clear hk); (try clear hi)))
         go_ret
         exact ⟨by first | rfl | (simp [errW_none, errW_some] <;> rfl) | (simp [*, errW_none, errW_some] <;> rfl), be_ HB.out⟩
      rw [if_neg c126] at H
      have c126b0 : (t325 == t323) = false := beq_eq_false_iff_ne.mpr c126
      have c126b1 : (t325 != t323) = true := bne_iff_ne.mpr c126
      obtain rfl := Option.some.inj H
      have hnb201 := NB312_257.out
      have hnc201 := NB257_312.out
      have hnb202 := NB312_258.out
      have hnc202 := NB258_312.out
      have hnb203 := NB312_285.out
      have hnc203 := NB285_312.out
      have hnb204 := NB312_291.out
      have hnc204 := NB291_312.out
      obtain ⟨hcz205_0, hcz205_1, hcz205_2, hfz205_0, hfz205_1, hfz205_2⟩ := cz3_ BK312.out
      go_wp2_with (first | ((with_reducible refine gate_callee (f := 10) rfl ?_); refine goesL_ (some 74) rfl rfl Try.func10 (by kernel_rfl) rfl #[.agg #[.int .i64 t306, .slice Ao50 t307.length co50, .int .i64 t310], .int .i64 1] rfl gm_ ?_; (with_reducible refine (laws_markBreaker.calls kj79 t306 (fun k_ => some k_ = (.slice Ao50 t307.length co50 : Value).ownBlock) (.slice Ao50 t307.length co50) t307 t310 1 t323 t324 w _ ?side1 ?side2 A115.out).mono ?_); (case side1 => exact be_ HB.out); (case side2 => exact Kd.R_tight rfl HO_313001.out); rintro e w206 ⟨rfl, hy0, hb, hkp⟩; refine ⟨_, rfl, ?_⟩; have n0_ := Aside0.mk (Kd.R_mono (ok' := fun k_ => some k_ ≠ (.slice Ao42 t321.length co42 : Value).ownBlock ∧ some k_ ≠ (.slice Ao50 t307.length co50 : Value).ownBlock) (Kd.R_keptB (HO_286001.out) hkp rn_) rm_); have n1_ := Aside0.mk (Kd.R_mono (ok' := fun k_ => some k_ ≠ (.slice Ao31 t280.length co31 : Value).ownBlock ∧ some k_ ≠ (.slice Ao50 t307.length co50 : Value).ownBlock) (Kd.R_keptB (HO_292001.out) hkp rn_) rm_); have n2_ := Aside0.mk (Kd.R_reok rfl hy0 (fun k_ e_ => HO_313001.out.1 k_ e_)); have n3_ := Aside0.mk (blk_kept (bl_ BK257.out) hkp (fun hs_ => (fun e_ => (Kd.R_ne HO_313001.out BK257.out (by decide)) e_) hs_)); have n4_ := Aside0.mk (blk_kept (bl_ BK258.out) hkp (fun hs_ => (fun e_ => (Kd.R_ne HO_313001.out BK258.out (by decide)) e_) hs_)); have n5_ := Aside0.mk (blk_kept (bl_ BK285.out) hkp (fun hs_ => (fun e_ => (Kd.R_ne HO_313001.out BK285.out (by decide)) e_) hs_)); have n6_ := Aside0.mk (blk_kept (bl_ BK291.out) hkp (fun hs_ => (fun e_ => (Kd.R_ne HO_313001.out BK291.out (by decide)) e_) hs_)); have n7_ := Aside0.mk (blk_kept (bl_ BK312.out) hkp (fun hs_ => (fun e_ => (Kd.R_ne HO_313001.out BK312.out (by decide)) e_) hs_)); have n8_ := Aside0.mk (hb); clear HO_286001 HO_292001 HO_313001 BK257 BK258 BK285 BK291 BK312 HB; have HO_286001 := n0_; have HO_292001 := n1_; have HO_313001 := n2_; have BK257 := n3_; have BK258 := n4_; have BK285 := n5_; have BK291 := n6_; have BK312 := n7_; have HB := n8_; clear n0_ n1_ n2_ n3_ n4_ n5_ n6_ n7_ n8_; (try clear hb); (try clear hkp); (try clear hy0); obtain ⟨hcz207_0, hcz207_1, hcz207_2, hfz207_0, hfz207_1, hfz207_2⟩ := cz3_ BK312.out) | ((with_reducible refine gate_callee (f := 11) rfl ?_); refine goesL_ (some 77) rfl rfl Try.func11 (by kernel_rfl) rfl #[.agg #[.int .i64 t306, .slice Ao50 t324.length co50, .int .i64 t310], .int .i64 1] rfl (by (try simp only [List.map_toArray, List.map_cons, List.map_nil]); first | done | (rw [show t324.length = t307.length from (Kd.R_reads' HO_313001.out).1.symm] <;> rfl) | rfl | (simp only [List.length_drop, List.length_take]; rfl)) ?_; (with_reducible refine (laws_heldBreaker.calls kj79 t306 _ _ t324 t310 1 t325 _ ?side1 ?side2 A116.out).mono ?_); (case side1 => repeat (first | exact (Kd.R_reads' HO_313001.out).2.2 | (with_reducible refine Kd.C_alloc ?_ _) | (with_reducible refine Kd.C_drewN ?_ _) | (with_reducible refine Kd.C_drew ?_))); (case side2 => rw [show t324.length = t307.length from (Kd.R_reads' HO_313001.out).1.symm]; exact (Kd.R_reads' HO_313001.out).2.1); rintro e w208 ⟨rfl, hb⟩; refine ⟨_, rfl, ?_⟩; have n0_ := Aside0.mk (Kd.R_below (ro_ HO_286001.out) hb); have n1_ := Aside0.mk (Kd.R_below (ro_ HO_292001.out) hb); have n2_ := Aside0.mk (Kd.R_below (ro_ HO_313001.out) hb); have n3_ := Aside0.mk (blk_below (bl_ BK257.out) hb); have n4_ := Aside0.mk (blk_below (bl_ BK258.out) hb); have n5_ := Aside0.mk (blk_below (bl_ BK285.out) hb); have n6_ := Aside0.mk (blk_below (bl_ BK291.out) hb); have n7_ := Aside0.mk (blk_below (bl_ BK312.out) hb); have n8_ := Aside0.mk (below_step (be_ HB.out) hb); clear HO_286001 HO_292001 HO_313001 BK257 BK258 BK285 BK291 BK312 HB; have HO_286001 := n0_; have HO_292001 := n1_; have HO_313001 := n2_; have BK257 := n3_; have BK258 := n4_; have BK285 := n5_; have BK291 := n6_; have BK312 := n7_; have HB := n8_; clear n0_ n1_ n2_ n3_ n4_ n5_ n6_ n7_ n8_; (try clear hb); (try clear hb2); (try clear hk); (try clear hi)))
      go_ret
      exact ⟨by first | rfl | (simp [errW_none, errW_some] <;> rfl) | (simp [*, errW_none, errW_some] <;> rfl), be_ HB.out⟩
   replace c78 := Bool.eq_false_iff.mpr c78
   subst c78
   have H1 : (some false) = some r := by rw [if_neg (show ¬ (false = true) by decide)] at H; exact H
   clear H
   have H := H1
   clear H1
   obtain rfl := Option.some.inj H
   try go_wp2
   have n0_ := Aside0.mk (Kd.R_drew HO_286001.out)
   have n1_ := Aside0.mk (Kd.R_drew HO_292001.out)
   have n2_ := Aside0.mk (Kd.R_drew HO_313001.out)
   have n3_ := Aside0.mk (blk_drew BK257.out)
   have n4_ := Aside0.mk (blk_drew BK258.out)
   have n5_ := Aside0.mk (blk_drew BK285.out)
   have n6_ := Aside0.mk (blk_drew BK291.out)
   have n7_ := Aside0.mk (blk_drew BK312.out)
   have n8_ := Aside0.mk (below_drew1 HB.out)
   clear HO_286001 HO_292001 HO_313001 BK257 BK258 BK285 BK291 BK312 HB
   have HO_286001 := n0_
   have HO_292001 := n1_
   have HO_313001 := n2_
   have BK257 := n3_
   have BK258 := n4_
   have BK285 := n5_
   have BK291 := n6_
   have BK312 := n7_
   have HB := n8_
   clear n0_ n1_ n2_ n3_ n4_ n5_ n6_ n7_ n8_
   refine start_ (n := 5) (S := fun w' => w'.cell? ⟨gb291, 0, none⟩ = some (.int .i64 t286) ∧ w'.cell? ⟨gb291, 1, none⟩ = some (.slice Ao42 t287.length co42) ∧ w'.cell? ⟨gb291, 2, none⟩ = some (.int .i64 t290) ∧ w'.cell? ⟨gb258, 0, none⟩ = some (.int .i64 a1_0) ∧ w'.cell? ⟨gb258, 1, none⟩ = some (.slice A1_1 l1_1.length c1_1) ∧ w'.cell? ⟨gb258, 2, none⟩ = some (.int .i64 a1_2)) (ds := []) #[false, false, false, false, false] (by kernel_rfl) rfl rfl (ck3_ BK291.out (ce3_ BK258.out)) (fun hHeld => ?_)
   generalize wc.drew = w209 at HO_286001 HO_292001 HO_313001 BK257 BK258 BK285 BK291 BK312 HB hHeld ⊢
   refine take_ (i := 0) (N := some 51) (v := ?_) (a' := ?_) #[true, false, false, false, false] rfl rfl (by kernel_rfl) (fun _ _ _ h => h) (Or.inl ⟨by rfl, ?_⟩) hHeld ?_ ?_
   rotate_left
   ·
    rintro w' ⟨s0, s1, s2, s3, s4, s5⟩
    go_simp
    with_reducible rfl
   rotate_left
   ·
    simp only [Act.put, List.setIfInBounds_toArray, List.set_cons_zero, List.set_cons_succ, i64_w, i32_w]
    rfl
   refine take_ (i := 1) (N := some 52) (v := ?_) (a' := ?_) #[true, true, false, false, false] rfl rfl (by kernel_rfl) (fun _ _ _ h => h) (Or.inl ⟨by rfl, ?_⟩) hHeld ?_ ?_
   rotate_left
   ·
    rintro w' ⟨s0, s1, s2, s3, s4, s5⟩
    go_simp
    with_reducible rfl
   rotate_left
   ·
    simp only [Act.put, List.setIfInBounds_toArray, List.set_cons_zero, List.set_cons_succ, i64_w, i32_w]
    rfl
   refine one_ (i := 2) (N := some 53) #[true, true, true, false, false] rfl rfl (by kernel_rfl) (by decide) (fun K hK => ?_)
   refine goes_ Try.func7 (by kernel_rfl) rfl #[.agg #[.int .i64 a1_0, .slice A1_1 l1_1.length c1_1, .int .i64 a1_2]] (by rfl) rfl rfl gm_ ?_
   with_reducible refine (laws_toBreaker.calls kj16 a1_0 _ _ l1_1 a1_2 t314 t315 t318 _ ?side1 ?side2 A76.out).mono ?_
   (case side1 => repeat (first | exact (Kd.C_below HR1_1.out HB.out) | (with_reducible refine Kd.C_alloc ?_ _) | (with_reducible refine Kd.C_drewN ?_ _) | (with_reducible refine Kd.C_drew ?_)))
   (case side2 => exact HC1_1.out)
   rintro e w210 ⟨v316, rfl, ho0, hb⟩
   refine ⟨_, rfl, ?_⟩
   have n0_ := Aside0.mk (Kd.R_elder' (ro_ HO_286001.out) (Kd.R_base ho0) hb)
   have n1_ := Aside0.mk (Kd.R_elder' (ro_ HO_292001.out) (Kd.R_base ho0) hb)
   have n2_ := Aside0.mk (Kd.R_elder' (ro_ HO_313001.out) (Kd.R_base ho0) hb)
   have n3_ := Aside0.mk (Kd.R_lower (Kd.R_new' (Kd.R_new' (Kd.R_new' ho0 (Kd.R_lt (ro_ HO_286001.out))) (Kd.R_lt (ro_ HO_292001.out))) (Kd.R_lt (ro_ HO_313001.out))) (below_size (be_ HB.out)))
   have n4_ := Aside0.mk (blk_below (bl_ BK257.out) hb)
   have n5_ := Aside0.mk (blk_below (bl_ BK258.out) hb)
   have n6_ := Aside0.mk (blk_below (bl_ BK285.out) hb)
   have n7_ := Aside0.mk (blk_below (bl_ BK291.out) hb)
   have n8_ := Aside0.mk (blk_below (bl_ BK312.out) hb)
   have n9_ := Aside0.mk (below_step (be_ HB.out) hb)
   clear HO_286001 HO_292001 HO_313001 BK257 BK258 BK285 BK291 BK312 HB
   have HO_286001 := n0_
   have HO_292001 := n1_
   have HO_313001 := n2_
   have HO317 := n3_
   have BK257 := n4_
   have BK258 := n5_
   have BK285 := n6_
   have BK291 := n7_
   have BK312 := n8_
   have HB := n9_
   clear n0_ n1_ n2_ n3_ n4_ n5_ n6_ n7_ n8_ n9_
   (try clear hb)
   (try clear hb2)
   (try clear hk)
   (try clear hi)
   (try clear ho0)
   obtain ⟨Ao211, co211, eo211⟩ := Kd.R_slice HO317.out
   (first | subst eo211 | (injection eo211 with f1_ f2_ f3_; have f4_ := f1_.symm; have f5_ := f3_.symm; clear f1_ f2_ f3_; subst f4_; subst f5_))
   refine hK.out _ _ (ck3_ BK291.out (ce3_ BK258.out)) (fun hHeld => ?_)
   clear hK K
   refine norm_ (a' := ?_) ?_ ?_
   rotate_left
   ·
    show Act.put _ (some 53) _ = _
    simp only [Act.put, List.setIfInBounds_toArray, List.set_cons_zero, List.set_cons_succ, i64_w, i32_w]
    rfl
   refine one_ (i := 3) (N := some 54) #[true, true, true, true, false] rfl rfl (by kernel_rfl) (by decide) (fun K hK => ?_)
   refine goes_ Try.func9 (by kernel_rfl) rfl #[.agg #[.int .i64 t286, .slice Ao42 t287.length co42, .int .i64 t290], .agg #[.int .i64 t314, .slice Ao211 t315.length co211, .int .i64 t318]] (by rfl) rfl rfl gm_ ?_
   with_reducible refine (laws_eqBreaker.calls kj16 t286 _ _ t287 t290 t314 _ _ t315 t318 false _ ?side1 ?side2 ?side3 ?side4 A77.out).mono ?_
   (case side1 => repeat (first | exact (Kd.R_reads' HO_292001.out).2.2 | (with_reducible refine Kd.C_alloc ?_ _) | (with_reducible refine Kd.C_drewN ?_ _) | (with_reducible refine Kd.C_drew ?_)))
   (case side2 => exact (Kd.R_reads' HO_292001.out).2.1)
   (case side3 => repeat (first | exact (Kd.R_reads' HO317.out).2.2 | (with_reducible refine Kd.C_alloc ?_ _) | (with_reducible refine Kd.C_drewN ?_ _) | (with_reducible refine Kd.C_drew ?_)))
   (case side4 => exact (Kd.R_reads' HO317.out).2.1)
   rintro e w212 ⟨rfl, hb⟩
   refine ⟨_, rfl, ?_⟩
   have n0_ := Aside0.mk (Kd.R_below (ro_ HO_286001.out) hb)
   have n1_ := Aside0.mk (Kd.R_below (ro_ HO_292001.out) hb)
   have n2_ := Aside0.mk (Kd.R_below (ro_ HO_313001.out) hb)
   have n3_ := Aside0.mk (Kd.R_below (ro_ HO317.out) hb)
   have n4_ := Aside0.mk (blk_below (bl_ BK257.out) hb)
   have n5_ := Aside0.mk (blk_below (bl_ BK258.out) hb)
   have n6_ := Aside0.mk (blk_below (bl_ BK285.out) hb)
   have n7_ := Aside0.mk (blk_below (bl_ BK291.out) hb)
   have n8_ := Aside0.mk (blk_below (bl_ BK312.out) hb)
   have n9_ := Aside0.mk (below_step (be_ HB.out) hb)
   clear HO_286001 HO_292001 HO_313001 HO317 BK257 BK258 BK285 BK291 BK312 HB
   have HO_286001 := n0_
   have HO_292001 := n1_
   have HO_313001 := n2_
   have HO317 := n3_
   have BK257 := n4_
   have BK258 := n5_
   have BK285 := n6_
   have BK291 := n7_
   have BK312 := n8_
   have HB := n9_
   clear n0_ n1_ n2_ n3_ n4_ n5_ n6_ n7_ n8_ n9_
   (try clear hb)
   (try clear hb2)
   (try clear hk)
   (try clear hi)
   refine hK.out _ _ (ck3_ BK291.out (ce3_ BK258.out)) (fun hHeld => ?_)
   clear hK K
   refine norm_ (a' := ?_) ?_ ?_
   rotate_left
   ·
    show Act.put _ (some 54) _ = _
    simp only [Act.put, List.setIfInBounds_toArray, List.set_cons_zero, List.set_cons_succ, i64_w, i32_w]
    rfl
   refine pure_ (i := 4) (N := some 55) (v := ?_) (a' := ?_) #[true, true, true, true, true] rfl rfl (by kernel_rfl) (fun _ _ _ h => h) (Or.inl ⟨by rfl, ?_⟩) ?_ ?_
   rotate_left
   ·
    intro w'
    go_simp
    with_reducible rfl
   rotate_left
   ·
    simp only [Act.put, List.setIfInBounds_toArray, List.set_cons_zero, List.set_cons_succ, i64_w, i32_w]
    rfl
   refine done_ (by kernel_rfl) ?_
   try go_wp2
   go_ret
   exact ⟨by first | rfl | (simp [errW_none, errW_some] <;> rfl) | (simp [*, errW_none, errW_some] <;> rfl), be_ HB.out⟩

end Go.Proofs.Ythafbkpoepblgae.MFnExactOnFailure
