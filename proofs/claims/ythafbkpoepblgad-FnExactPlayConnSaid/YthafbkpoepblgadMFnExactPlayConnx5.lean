-- Written by a program of this session over the kit's print, with stand-ins for the functions that the print leaves; Lean checks it.
import Derived.Test.YthafbkpoepblgadMFnExactPlayConnx0
import Derived.Test.YthafbkpoepblgadMFnExactPlayConnx4
namespace Go.Proofs.Ythafbkpoepblgad.MFnExactPlayConn
open Go.RowKit Go.Proofs.YthafbkpoepblgadW.PrintWords Go.Proofs.YthafbkpoepblgadW.PrintLast Go.Proofs.YthafbkpoepblgadW.PrintMore
attribute [local go_sem] max2_int min2_int max_two min_two max_three min_three max_four min_four   -- for this text's walks alone
set_option linter.unusedVariables false
set_option linter.unusedSimpArgs false

/-! ### impl_StepConn: function 19 -/
mutual
def impl_StepConn.j0 : Nat → Int → Int → Int → Bool → Int → Int → Int → Int → Int → Bool → Option (Int × Int × Int × Int × Int × Bool × Bool)
 | 0, _, _, _, _, _, _, _, _, _, _ => none
 | k + 1, x1, x2, x3, x26, x190000, x190001, x190002, x190003, x190004, x190005 => if x26 = true then (some (x190000, x190001, x190002, x190003, x190004, x190005, false)) else (if x1 = 0 then (impl_StepConn.j1 k x1 x2 x3 0 1 x190000 x190001 x190002 x190003 x190004 x190005) else (if x1 = 1 then (impl_StepConn.j1 k x1 x2 x3 0 4 x190000 x190001 x190002 x190003 x190004 x190005) else (if x1 = 2 then (impl_StepConn.j1 k x1 x2 x3 1 3 x190000 x190001 x190002 x190003 x190004 x190005) else (if x1 = 3 then (impl_StepConn.j1 k x1 x2 x3 3 1 x190000 x190001 x190002 x190003 x190004 x190005) else (if x1 = 4 then (impl_StepConn.j1 k x1 x2 x3 1 2 x190000 x190001 x190002 x190003 x190004 x190005) else (if x1 = 5 then (impl_StepConn.j1 k x1 x2 x3 2 1 x190000 x190001 x190002 x190003 x190004 x190005) else (if x1 = 6 then (impl_StepConn.j1 k x1 x2 x3 2 4 x190000 x190001 x190002 x190003 x190004 x190005) else (if x1 = 7 then (if x190001 = 4 then (impl_StepConn.j1 k x1 x2 x3 (-1) (-1) x190000 x190001 x190002 x190003 x190004 x190005) else (impl_StepConn.j1 k x1 x2 x3 x190001 4 x190000 x190001 x190002 x190003 x190004 x190005)) else (impl_StepConn.j1 k x1 x2 x3 (-1) (-1) x190000 x190001 x190002 x190003 x190004 x190005)))))))))
def impl_StepConn.j1 : Nat → Int → Int → Int → Int → Int → Int → Int → Int → Int → Int → Bool → Option (Int × Int × Int × Int × Int × Bool × Bool)
 | 0, _, _, _, _, _, _, _, _, _, _, _ => none
 | k + 1, x1, x2, x3, x10, x11, x190000, x190001, x190002, x190003, x190004, x190005 => if x10 = x190001 then (if x1 = 2 then ((impl_isId.f x3).bind fun t193 => (impl_StepConn.j2 k x1 x2 x3 x11 (!t193) x190000 x190001 x190002 x190003 x190004 x190005)) else (impl_StepConn.j2 k x1 x2 x3 x11 false x190000 x190001 x190002 x190003 x190004 x190005)) else (impl_StepConn.j2 k x1 x2 x3 x11 true x190000 x190001 x190002 x190003 x190004 x190005)
def impl_StepConn.j2 : Nat → Int → Int → Int → Int → Bool → Int → Int → Int → Int → Int → Bool → Option (Int × Int × Int × Int × Int × Bool × Bool)
 | 0, _, _, _, _, _, _, _, _, _, _, _ => none
 | k + 1, x1, x2, x3, x11, x62, x190000, x190001, x190002, x190003, x190004, x190005 => if x62 = true then (some (x190000, x190001, x190002, x190003, x190004, x190005, false)) else (if x1 = 0 then (if x1 = 2 then (some (x190000, x11, x2, x2, x3, false, true)) else (some (x190000, x11, x2, x2, 0, false, true))) else (if x1 = 2 then (some (x190000, x11, x190002, x2, x3, false, true)) else (some (x190000, x11, x190002, x2, 0, false, true))))
end
def impl_StepConn.f (k : Nat) (a0_0 : Int) (a0_1 : Int) (a0_2 : Int) (a0_3 : Int) (a0_4 : Int) (a0_5 : Bool) (a1 : Int) (a2 : Int) (a3 : Int) : Option (Int × Int × Int × Int × Int × Bool × Bool) := (impl_ConnOk.f k a0_0 a0_1 a0_2 a0_3 a0_4 a0_5).bind fun t191 => (if t191 = true then ((impl_TickOk.f a2).bind fun t192 => (if t192 = true then (impl_StepConn.j0 k a1 a2 a3 (decide (a2 < a0_3)) a0_0 a0_1 a0_2 a0_3 a0_4 a0_5) else (impl_StepConn.j0 k a1 a2 a3 true a0_0 a0_1 a0_2 a0_3 a0_4 a0_5))) else (impl_StepConn.j0 k a1 a2 a3 true a0_0 a0_1 a0_2 a0_3 a0_4 a0_5))
theorem impl_StepConn.mono_l : ∀ k, (∀ y0 y1 y2 y3 y4 y5 y6 y7 y8 y9, LeO (impl_StepConn.j0 k y0 y1 y2 y3 y4 y5 y6 y7 y8 y9) (impl_StepConn.j0 (k + 1) y0 y1 y2 y3 y4 y5 y6 y7 y8 y9)) ∧ (∀ y0 y1 y2 y3 y4 y5 y6 y7 y8 y9 y10, LeO (impl_StepConn.j1 k y0 y1 y2 y3 y4 y5 y6 y7 y8 y9 y10) (impl_StepConn.j1 (k + 1) y0 y1 y2 y3 y4 y5 y6 y7 y8 y9 y10)) ∧ (∀ y0 y1 y2 y3 y4 y5 y6 y7 y8 y9 y10, LeO (impl_StepConn.j2 k y0 y1 y2 y3 y4 y5 y6 y7 y8 y9 y10) (impl_StepConn.j2 (k + 1) y0 y1 y2 y3 y4 y5 y6 y7 y8 y9 y10))
 | 0 => ⟨fun _ _ _ _ _ _ _ _ _ _ r h => by simp [impl_StepConn.j0] at h, fun _ _ _ _ _ _ _ _ _ _ _ r h => by simp [impl_StepConn.j1] at h, fun _ _ _ _ _ _ _ _ _ _ _ r h => by simp [impl_StepConn.j2] at h⟩
 | k + 1 => by
  obtain ⟨ih0, ih1, ih2⟩ := impl_StepConn.mono_l k
  refine ⟨?_, ?_, ?_⟩
  ·
   intro y0 y1 y2 y3 y4 y5 y6 y7 y8 y9
   unfold impl_StepConn.j0
   repeat' first
   | (with_reducible exact ih0 _ _ _ _ _ _ _ _ _ _)
   | (with_reducible exact ih1 _ _ _ _ _ _ _ _ _ _ _)
   | (with_reducible exact ih2 _ _ _ _ _ _ _ _ _ _ _)
   | (with_reducible exact impl_ConnOk.mono _ _ _ _ _ _ _)
   | (with_reducible exact LeO.refl _)
   | (with_reducible exact LeO.none _)
   | (with_reducible refine LeO.ite ?_ ?_)
   | (with_reducible refine LeO.bind ?_ (fun _ => ?_))
   | exact ih0 _ _ _ _ _ _ _ _ _ _
   | exact ih1 _ _ _ _ _ _ _ _ _ _ _
   | exact ih2 _ _ _ _ _ _ _ _ _ _ _
   | exact impl_ConnOk.mono _ _ _ _ _ _ _
   | exact LeO.none _
   | refine LeO.ite ?_ ?_
   | refine LeO.bind ?_ (fun _ => ?_)
  ·
   intro y0 y1 y2 y3 y4 y5 y6 y7 y8 y9 y10
   unfold impl_StepConn.j1
   repeat' first
   | (with_reducible exact ih0 _ _ _ _ _ _ _ _ _ _)
   | (with_reducible exact ih1 _ _ _ _ _ _ _ _ _ _ _)
   | (with_reducible exact ih2 _ _ _ _ _ _ _ _ _ _ _)
   | (with_reducible exact impl_ConnOk.mono _ _ _ _ _ _ _)
   | (with_reducible exact LeO.refl _)
   | (with_reducible exact LeO.none _)
   | (with_reducible refine LeO.ite ?_ ?_)
   | (with_reducible refine LeO.bind ?_ (fun _ => ?_))
   | exact ih0 _ _ _ _ _ _ _ _ _ _
   | exact ih1 _ _ _ _ _ _ _ _ _ _ _
   | exact ih2 _ _ _ _ _ _ _ _ _ _ _
   | exact impl_ConnOk.mono _ _ _ _ _ _ _
   | exact LeO.none _
   | refine LeO.ite ?_ ?_
   | refine LeO.bind ?_ (fun _ => ?_)
  ·
   intro y0 y1 y2 y3 y4 y5 y6 y7 y8 y9 y10
   unfold impl_StepConn.j2
   repeat' first
   | (with_reducible exact ih0 _ _ _ _ _ _ _ _ _ _)
   | (with_reducible exact ih1 _ _ _ _ _ _ _ _ _ _ _)
   | (with_reducible exact ih2 _ _ _ _ _ _ _ _ _ _ _)
   | (with_reducible exact impl_ConnOk.mono _ _ _ _ _ _ _)
   | (with_reducible exact LeO.refl _)
   | (with_reducible exact LeO.none _)
   | (with_reducible refine LeO.ite ?_ ?_)
   | (with_reducible refine LeO.bind ?_ (fun _ => ?_))
   | exact ih0 _ _ _ _ _ _ _ _ _ _
   | exact ih1 _ _ _ _ _ _ _ _ _ _ _
   | exact ih2 _ _ _ _ _ _ _ _ _ _ _
   | exact impl_ConnOk.mono _ _ _ _ _ _ _
   | exact LeO.none _
   | refine LeO.ite ?_ ?_
   | refine LeO.bind ?_ (fun _ => ?_)
theorem impl_StepConn.mono : ∀ a0 a1 a2 a3 a4 a5 a6 a7 a8 k, LeO (impl_StepConn.f k a0 a1 a2 a3 a4 a5 a6 a7 a8) (impl_StepConn.f (k + 1) a0 a1 a2 a3 a4 a5 a6 a7 a8) := by
 intro a0 a1 a2 a3 a4 a5 a6 a7 a8 k
 obtain ⟨ih0, ih1, ih2⟩ := impl_StepConn.mono_l k
 unfold impl_StepConn.f
 repeat' first
  | (with_reducible exact ih0 _ _ _ _ _ _ _ _ _ _)
  | (with_reducible exact ih1 _ _ _ _ _ _ _ _ _ _ _)
  | (with_reducible exact ih2 _ _ _ _ _ _ _ _ _ _ _)
  | (with_reducible exact impl_ConnOk.mono _ _ _ _ _ _ _)
  | (with_reducible exact LeO.refl _)
  | (with_reducible exact LeO.none _)
  | (with_reducible refine LeO.ite ?_ ?_)
  | (with_reducible refine LeO.bind ?_ (fun _ => ?_))
  | exact ih0 _ _ _ _ _ _ _ _ _ _
  | exact ih1 _ _ _ _ _ _ _ _ _ _ _
  | exact ih2 _ _ _ _ _ _ _ _ _ _ _
  | exact impl_ConnOk.mono _ _ _ _ _ _ _
  | exact LeO.none _
  | refine LeO.ite ?_ ?_
  | refine LeO.bind ?_ (fun _ => ?_)
set_option maxHeartbeats 40000000 in
set_option maxRecDepth 100000 in
theorem impl_StepConn.calls (k : Nat) (a0_0 : Int) (a0_1 : Int) (a0_2 : Int) (a0_3 : Int) (a0_4 : Int) (a0_5 : Bool) (a1 : Int) (a2 : Int) (a3 : Int) (r1 : Int) (r2 : Int) (r3 : Int) (r4 : Int) (r5 : Int) (r6 : Bool) (r7 : Bool) (w : World) (h : impl_StepConn.f k a0_0 a0_1 a0_2 a0_3 a0_4 a0_5 a1 a2 a3 = some (r1, r2, r3, r4, r5, r6, r7)) :
 Calls Try.prog 19 #[.agg #[.int .i64 a0_0, .int .i64 a0_1, .int .i64 a0_2, .int .i64 a0_3, .int .i64 a0_4, .bool a0_5], .int .i64 a1, .int .i64 a2, .int .i64 a3] w fun e w' => e = .returned (.tuple #[.agg #[.int .i64 r1, .int .i64 r2, .int .i64 r3, .int .i64 r4, .int .i64 r5, .bool r6], .bool r7]) ∧ Below w.heap.size w w' := by
 have hu25 := Try.underlying25
 have HB := Aside0.mk (Below.refl w.heap.size w)
 have H : ((impl_ConnOk.f k a0_0 a0_1 a0_2 a0_3 a0_4 a0_5).bind fun t191 => (if t191 = true then ((impl_TickOk.f a2).bind fun t192 => (if t192 = true then (impl_StepConn.j0 k a1 a2 a3 (decide (a2 < a0_3)) a0_0 a0_1 a0_2 a0_3 a0_4 a0_5) else (impl_StepConn.j0 k a1 a2 a3 true a0_0 a0_1 a0_2 a0_3 a0_4 a0_5))) else (impl_StepConn.j0 k a1 a2 a3 true a0_0 a0_1 a0_2 a0_3 a0_4 a0_5))) = some (r1, r2, r3, r4, r5, r6, r7) := h
 clear h
 have HC5 := Aside0.mk H
 clear H
 go_enter Try.func19, Try.ntmps19
 go_upto_region 1 with (first | ((with_reducible refine gate_dst (N := 4) rfl ?_); refine box_event ?hg (N := 4) ?hd (cs := #[.int .i64 a0_0, .int .i64 a0_1, .int .i64 a0_2, .int .i64 a0_3, .int .i64 a0_4, .bool a0_5]) (t := 25) ?hr ?_; (case hd => rfl); (case hg => rfl); (case hr => first | (go_simp; done) | (go_simp; rfl)); intro gb189 hg w6 hbox hb; have n0_ := Aside0.mk (below_step (be_ HB.out) hb); have n1_ := Aside0.mk (hbox); have n2_ := Aside0.mk ((by rw [hg]; exact (below_size (be_ HB.out)) : w.heap.size ≤ gb189)); have n3_ := Aside0.mk ((by rw [hg]; exact (below_size (be_ HB.out)) : w.heap.size ≤ gb189)); clear HB; have HB := n0_; have BK189 := n1_; have GW189 := n2_; have GE189 := n3_; clear n0_ n1_ n2_ n3_; clear hb hbox hg) | ((with_reducible refine gate_dst (N := 8) rfl ?_); refine box_event ?hg (N := 8) ?hd (cs := #[.int .i64 0, .int .i64 0, .int .i64 0, .int .i64 0, .int .i64 0, .bool false]) (t := 25) ?hr ?_; (case hd => rfl); (case hg => rfl); (case hr => first | (go_simp; done) | (go_simp; rfl)); intro gb190 hg w7 hbox hb; have n0_ := Aside0.mk (blk_below (bl_ BK189.out) hb); have n1_ := Aside0.mk (below_step (be_ HB.out) hb); have n2_ := Aside0.mk (hbox); have n3_ := Aside0.mk ((by rw [hg]; exact (below_size (be_ HB.out)) : w.heap.size ≤ gb190)); have n4_ := Aside0.mk ((by rw [hg]; exact (below_size (be_ HB.out)) : w.heap.size ≤ gb190)); have n5_ := Aside0.mk ((by rw [hg]; exact Nat.ne_of_lt (blk_lt (g := gb189) (o := .cells #[.int .i64 a0_0, .int .i64 a0_1, .int .i64 a0_2, .int .i64 a0_3, .int .i64 a0_4, .bool a0_5] 25 (0, 0)) (bl_ BK189.out)) : gb189 ≠ gb190)); have n6_ := Aside0.mk ((by rw [hg]; exact Nat.ne_of_gt (blk_lt (g := gb189) (o := .cells #[.int .i64 a0_0, .int .i64 a0_1, .int .i64 a0_2, .int .i64 a0_3, .int .i64 a0_4, .bool a0_5] 25 (0, 0)) (bl_ BK189.out)) : gb190 ≠ gb189)); clear BK189 HB; have BK189 := n0_; have HB := n1_; have BK190 := n2_; have GW190 := n3_; have GE190 := n4_; have NB189_190 := n5_; have NB190_189 := n6_; clear n0_ n1_ n2_ n3_ n4_ n5_ n6_; clear hb hbox hg))
 (try simp only [Act.put, List.setIfInBounds_toArray, List.set_cons_zero, List.set_cons_succ])
 go_cut [26] (fun zv26 wc => ∃ (kq : Nat) (x26_4 : Bool), zv26 = .bool x26_4 ∧ Aside0 (impl_StepConn.j0 kq a1 a2 a3 x26_4 a0_0 a0_1 a0_2 a0_3 a0_4 a0_5 = some (r1, r2, r3, r4, r5, r6, r7)) ∧ Aside0 (kq ≤ k) ∧ Aside0 (wc.heap[gb189]? = some (.cells #[.int .i64 a0_0, .int .i64 a0_1, .int .i64 a0_2, .int .i64 a0_3, .int .i64 a0_4, .bool a0_5] 25 (0, 0))) ∧ Aside0 (wc.heap[gb190]? = some (.cells #[.int .i64 0, .int .i64 0, .int .i64 0, .int .i64 0, .int .i64 0, .bool false] 25 (0, 0))) ∧ Aside0 (Below w.heap.size w wc))
 case first =>
  have H := HC5.out
  clear HC5
  replace H := Option.bind_eq_some_iff.mp H
  obtain ⟨t191, A80, H⟩ := H
  replace H : (if t191 = true then ((impl_TickOk.f a2).bind fun t192 => (if t192 = true then (impl_StepConn.j0 k a1 a2 a3 (decide (a2 < a0_3)) a0_0 a0_1 a0_2 a0_3 a0_4 a0_5) else (impl_StepConn.j0 k a1 a2 a3 true a0_0 a0_1 a0_2 a0_3 a0_4 a0_5))) else (impl_StepConn.j0 k a1 a2 a3 true a0_0 a0_1 a0_2 a0_3 a0_4 a0_5)) = some (r1, r2, r3, r4, r5, r6, r7) := H
  have A8 := Aside0.mk A80
  clear A80
  by_cases c9 : t191 = true
  ·
   subst c9
   have H1 : ((impl_TickOk.f a2).bind fun t192 => (if t192 = true then (impl_StepConn.j0 k a1 a2 a3 (decide (a2 < a0_3)) a0_0 a0_1 a0_2 a0_3 a0_4 a0_5) else (impl_StepConn.j0 k a1 a2 a3 true a0_0 a0_1 a0_2 a0_3 a0_4 a0_5))) = some (r1, r2, r3, r4, r5, r6, r7) := by rw [if_pos rfl] at H; exact H
   clear H
   have H := H1
   clear H1
   replace H := Option.bind_eq_some_iff.mp H
   obtain ⟨t192, A100, H⟩ := H
   replace H : (if t192 = true then (impl_StepConn.j0 k a1 a2 a3 (decide (a2 < a0_3)) a0_0 a0_1 a0_2 a0_3 a0_4 a0_5) else (impl_StepConn.j0 k a1 a2 a3 true a0_0 a0_1 a0_2 a0_3 a0_4 a0_5)) = some (r1, r2, r3, r4, r5, r6, r7) := H
   have A10 := Aside0.mk A100
   clear A100
   by_cases c11 : t192 = true
   ·
    subst c11
    have H1 : (impl_StepConn.j0 k a1 a2 a3 (decide (a2 < a0_3)) a0_0 a0_1 a0_2 a0_3 a0_4 a0_5) = some (r1, r2, r3, r4, r5, r6, r7) := by rw [if_pos rfl] at H; exact H
    clear H
    have H := H1
    clear H1
    have H' := Aside0.mk H
    clear H
    have hnb12 := NB189_190.out
    have hnc12 := NB190_189.out
    obtain ⟨hcz13_0, hcz13_1, hcz13_2, hcz13_3, hcz13_4, hcz13_5, hfz13_0, hfz13_1, hfz13_2, hfz13_3, hfz13_4, hfz13_5⟩ := cz6_ BK189.out
    go_wp2_with (first | ((with_reducible refine gate_callee (f := 24) rfl ?_); refine goesL_ (some 14) rfl rfl Try.func24 (by kernel_rfl) rfl #[.agg #[.int .i64 a0_0, .int .i64 a0_1, .int .i64 a0_2, .int .i64 a0_3, .int .i64 a0_4, .bool a0_5]] rfl (by (try simp only [List.map_toArray, List.map_cons, List.map_nil]); first | done | rfl | (simp only [List.length_drop, List.length_take]; rfl)) ?_; (with_reducible refine (impl_ConnOk.calls k a0_0 a0_1 a0_2 a0_3 a0_4 a0_5 true _ A8.out).mono ?_); rintro e w14 ⟨rfl, hb⟩; refine ⟨_, rfl, ?_⟩; have n0_ := Aside0.mk (blk_below (bl_ BK189.out) hb); have n1_ := Aside0.mk (blk_below (bl_ BK190.out) hb); have n2_ := Aside0.mk (below_step (be_ HB.out) hb); clear BK189 BK190 HB; have BK189 := n0_; have BK190 := n1_; have HB := n2_; clear n0_ n1_ n2_; (try clear hb); (try clear hb2); (try clear hk); (try clear hi)) | (go_at_call 25; (with_reducible refine (impl_TickOk.calls a2 true _ A10.out).mono ?_); rintro e w' ⟨rfl, ⟨nd, rfl⟩⟩; obtain ⟨hcz15_0, hcz15_1, hcz15_2, hcz15_3, hcz15_4, hcz15_5, hfz15_0, hfz15_1, hfz15_2, hfz15_3, hfz15_4, hfz15_5⟩ := cz6_ BK189.out))
    go_meet
    case rel => exact ⟨_, (decide (a2 < a0_3)), (by first | rfl | (simp; done) | (simp [*]; done)), H', ⟨by first | omega | exact Nat.le_refl _⟩, ⟨by refine bl_ ?_; exact BK189.out⟩, ⟨by refine bl_ ?_; exact BK190.out⟩, ⟨be_ HB.out⟩⟩
   ·
    replace c11 := Bool.eq_false_iff.mpr c11
    subst c11
    have H1 : (impl_StepConn.j0 k a1 a2 a3 true a0_0 a0_1 a0_2 a0_3 a0_4 a0_5) = some (r1, r2, r3, r4, r5, r6, r7) := by rw [if_neg (show ¬ (false = true) by decide)] at H; exact H
    clear H
    have H := H1
    clear H1
    have H' := Aside0.mk H
    clear H
    have hnb16 := NB189_190.out
    have hnc16 := NB190_189.out
    obtain ⟨hcz17_0, hcz17_1, hcz17_2, hcz17_3, hcz17_4, hcz17_5, hfz17_0, hfz17_1, hfz17_2, hfz17_3, hfz17_4, hfz17_5⟩ := cz6_ BK189.out
    go_wp2_with (first | ((with_reducible refine gate_callee (f := 24) rfl ?_); refine goesL_ (some 14) rfl rfl Try.func24 (by kernel_rfl) rfl #[.agg #[.int .i64 a0_0, .int .i64 a0_1, .int .i64 a0_2, .int .i64 a0_3, .int .i64 a0_4, .bool a0_5]] rfl (by (try simp only [List.map_toArray, List.map_cons, List.map_nil]); first | done | rfl | (simp only [List.length_drop, List.length_take]; rfl)) ?_; (with_reducible refine (impl_ConnOk.calls k a0_0 a0_1 a0_2 a0_3 a0_4 a0_5 true _ A8.out).mono ?_); rintro e w18 ⟨rfl, hb⟩; refine ⟨_, rfl, ?_⟩; have n0_ := Aside0.mk (blk_below (bl_ BK189.out) hb); have n1_ := Aside0.mk (blk_below (bl_ BK190.out) hb); have n2_ := Aside0.mk (below_step (be_ HB.out) hb); clear BK189 BK190 HB; have BK189 := n0_; have BK190 := n1_; have HB := n2_; clear n0_ n1_ n2_; (try clear hb); (try clear hb2); (try clear hk); (try clear hi)) | (go_at_call 25; (with_reducible refine (impl_TickOk.calls a2 false _ A10.out).mono ?_); rintro e w' ⟨rfl, ⟨nd, rfl⟩⟩))
    go_meet
    case rel => exact ⟨_, (true), (by first | rfl | (simp; done) | (simp [*]; done)), H', ⟨by first | omega | exact Nat.le_refl _⟩, ⟨by refine bl_ ?_; exact BK189.out⟩, ⟨by refine bl_ ?_; exact BK190.out⟩, ⟨be_ HB.out⟩⟩
  ·
   replace c9 := Bool.eq_false_iff.mpr c9
   subst c9
   have H1 : (impl_StepConn.j0 k a1 a2 a3 true a0_0 a0_1 a0_2 a0_3 a0_4 a0_5) = some (r1, r2, r3, r4, r5, r6, r7) := by rw [if_neg (show ¬ (false = true) by decide)] at H; exact H
   clear H
   have H := H1
   clear H1
   have H' := Aside0.mk H
   clear H
   have hnb19 := NB189_190.out
   have hnc19 := NB190_189.out
   obtain ⟨hcz20_0, hcz20_1, hcz20_2, hcz20_3, hcz20_4, hcz20_5, hfz20_0, hfz20_1, hfz20_2, hfz20_3, hfz20_4, hfz20_5⟩ := cz6_ BK189.out
   go_wp2_with (first | ((with_reducible refine gate_callee (f := 24) rfl ?_); refine goesL_ (some 14) rfl rfl Try.func24 (by kernel_rfl) rfl #[.agg #[.int .i64 a0_0, .int .i64 a0_1, .int .i64 a0_2, .int .i64 a0_3, .int .i64 a0_4, .bool a0_5]] rfl (by (try simp only [List.map_toArray, List.map_cons, List.map_nil]); first | done | rfl | (simp only [List.length_drop, List.length_take]; rfl)) ?_; (with_reducible refine (impl_ConnOk.calls k a0_0 a0_1 a0_2 a0_3 a0_4 a0_5 false _ A8.out).mono ?_); rintro e w21 ⟨rfl, hb⟩; refine ⟨_, rfl, ?_⟩; have n0_ := Aside0.mk (blk_below (bl_ BK189.out) hb); have n1_ := Aside0.mk (blk_below (bl_ BK190.out) hb); have n2_ := Aside0.mk (below_step (be_ HB.out) hb); clear BK189 BK190 HB; have BK189 := n0_; have BK190 := n1_; have HB := n2_; clear n0_ n1_ n2_; (try clear hb); (try clear hb2); (try clear hk); (try clear hi)))
   go_meet
   case rel => exact ⟨_, (true), (by first | rfl | (simp; done) | (simp [*]; done)), H', ⟨by first | omega | exact Nat.le_refl _⟩, ⟨by refine bl_ ?_; exact BK189.out⟩, ⟨by refine bl_ ?_; exact BK190.out⟩, ⟨be_ HB.out⟩⟩
 case rest =>
  clear HC5
  try clear c1
  try clear c2
  try clear p2
  try clear c9
  try clear c11
  try clear c12
  try clear c16
  try clear c19
  try clear hcz13_0
  try clear hcz13_1
  try clear hcz13_2
  try clear hcz13_3
  try clear hcz13_4
  try clear hcz13_5
  try clear hcz15_0
  try clear hcz15_1
  try clear hcz15_2
  try clear hcz15_3
  try clear hcz15_4
  try clear hcz15_5
  try clear hcz17_0
  try clear hcz17_1
  try clear hcz17_2
  try clear hcz17_3
  try clear hcz17_4
  try clear hcz17_5
  try clear hcz20_0
  try clear hcz20_1
  try clear hcz20_2
  try clear hcz20_3
  try clear hcz20_4
  try clear hcz20_5
  try clear hfz13_0
  try clear hfz13_1
  try clear hfz13_2
  try clear hfz13_3
  try clear hfz13_4
  try clear hfz13_5
  try clear hfz15_0
  try clear hfz15_1
  try clear hfz15_2
  try clear hfz15_3
  try clear hfz15_4
  try clear hfz15_5
  try clear hfz17_0
  try clear hfz17_1
  try clear hfz17_2
  try clear hfz17_3
  try clear hfz17_4
  try clear hfz17_5
  try clear hfz20_0
  try clear hfz20_1
  try clear hfz20_2
  try clear hfz20_3
  try clear hfz20_4
  try clear hfz20_5
  obtain ⟨kq, x26_4, rfl, HA, HJ4, BK189, BK190, HB⟩ := hcut
  cases kq with
  | zero => exact absurd HA.out (by simp [impl_StepConn.j0])
  | succ kj4 =>
   have H := HA.out
   clear HA
   simp only [impl_StepConn.j0] at H
   by_cases c22 : x26_4 = true
   ·
    subst c22
    have H1 : (some (a0_0, a0_1, a0_2, a0_3, a0_4, a0_5, false)) = some (r1, r2, r3, r4, r5, r6, r7) := by rw [if_pos rfl] at H; exact H
    clear H
    have H := H1
    clear H1
    simp only [Option.some.injEq, Prod.mk.injEq] at H
    obtain ⟨rfl, rfl, rfl, rfl, rfl, rfl, rfl⟩ := H
    have hnb23 := NB189_190.out
    have hnc23 := NB190_189.out
    obtain ⟨hcz24_0, hcz24_1, hcz24_2, hcz24_3, hcz24_4, hcz24_5, hfz24_0, hfz24_1, hfz24_2, hfz24_3, hfz24_4, hfz24_5⟩ := cz6_ BK189.out
    obtain ⟨hcz25_0, hcz25_1, hcz25_2, hcz25_3, hcz25_4, hcz25_5, hfz25_0, hfz25_1, hfz25_2, hfz25_3, hfz25_4, hfz25_5⟩ := cz6_ BK190.out
    go_wp2
    refine bodyPost_ret (results_ct rfl _ _ gb190 25 #[.int .i64 a0_0, .int .i64 a0_1, .int .i64 a0_2, .int .i64 a0_3, .int .i64 a0_4, .bool a0_5] (0, 0) _ rfl (by refine bl_ ?_; refine blk_put (cs := #[.int .i64 a0_0, .int .i64 a0_1, .int .i64 a0_2, .int .i64 a0_3, .int .i64 a0_4, .bool false]) ?_ 5 _ rfl; refine bl_ ?_; refine blk_put (cs := #[.int .i64 a0_0, .int .i64 a0_1, .int .i64 a0_2, .int .i64 a0_3, .int .i64 0, .bool false]) ?_ 4 _ rfl; refine bl_ ?_; refine blk_put (cs := #[.int .i64 a0_0, .int .i64 a0_1, .int .i64 a0_2, .int .i64 0, .int .i64 0, .bool false]) ?_ 3 _ rfl; refine bl_ ?_; refine blk_put (cs := #[.int .i64 a0_0, .int .i64 a0_1, .int .i64 0, .int .i64 0, .int .i64 0, .bool false]) ?_ 2 _ rfl; refine bl_ ?_; refine blk_put (cs := #[.int .i64 a0_0, .int .i64 0, .int .i64 0, .int .i64 0, .int .i64 0, .bool false]) ?_ 1 _ rfl; refine bl_ ?_; refine blk_put (cs := #[.int .i64 0, .int .i64 0, .int .i64 0, .int .i64 0, .int .i64 0, .bool false]) ?_ 0 _ rfl; refine bl_ ?_; exact BK190.out) Try.underlying25 rfl (by kernel_rfl)) rfl ?_
    exact ⟨by first | rfl | (simp [errW_none, errW_some] <;> rfl) | (simp [*, errW_none, errW_some] <;> rfl), be_ HB.out⟩
   ·
    replace c22 := Bool.eq_false_iff.mpr c22
    subst c22
    have H1 : (if a1 = 0 then (impl_StepConn.j1 kj4 a1 a2 a3 0 1 a0_0 a0_1 a0_2 a0_3 a0_4 a0_5) else (if a1 = 1 then (impl_StepConn.j1 kj4 a1 a2 a3 0 4 a0_0 a0_1 a0_2 a0_3 a0_4 a0_5) else (if a1 = 2 then (impl_StepConn.j1 kj4 a1 a2 a3 1 3 a0_0 a0_1 a0_2 a0_3 a0_4 a0_5) else (if a1 = 3 then (impl_StepConn.j1 kj4 a1 a2 a3 3 1 a0_0 a0_1 a0_2 a0_3 a0_4 a0_5) else (if a1 = 4 then (impl_StepConn.j1 kj4 a1 a2 a3 1 2 a0_0 a0_1 a0_2 a0_3 a0_4 a0_5) else (if a1 = 5 then (impl_StepConn.j1 kj4 a1 a2 a3 2 1 a0_0 a0_1 a0_2 a0_3 a0_4 a0_5) else (if a1 = 6 then (impl_StepConn.j1 kj4 a1 a2 a3 2 4 a0_0 a0_1 a0_2 a0_3 a0_4 a0_5) else (if a1 = 7 then (if a0_1 = 4 then (impl_StepConn.j1 kj4 a1 a2 a3 (-1) (-1) a0_0 a0_1 a0_2 a0_3 a0_4 a0_5) else (impl_StepConn.j1 kj4 a1 a2 a3 a0_1 4 a0_0 a0_1 a0_2 a0_3 a0_4 a0_5)) else (impl_StepConn.j1 kj4 a1 a2 a3 (-1) (-1) a0_0 a0_1 a0_2 a0_3 a0_4 a0_5))))))))) = some (r1, r2, r3, r4, r5, r6, r7) := by rw [if_neg (show ¬ (false = true) by decide)] at H; exact H
    clear H
    have H := H1
    clear H1
    have HC26 := Aside0.mk H
    clear H
    go_upto_block 0 with (fail)
    go_cut [10, 11] (fun zv10 zv11 wc => ∃ (kq : Nat) (x10_25 : Int) (x11_25 : Int), zv10 = .int .i64 x10_25 ∧ zv11 = .int .i64 x11_25 ∧ Aside0 (impl_StepConn.j1 kq a1 a2 a3 x10_25 x11_25 a0_0 a0_1 a0_2 a0_3 a0_4 a0_5 = some (r1, r2, r3, r4, r5, r6, r7)) ∧ Aside0 (kq ≤ kj4) ∧ Aside0 (wc.heap[gb189]? = some (.cells #[.int .i64 a0_0, .int .i64 a0_1, .int .i64 a0_2, .int .i64 a0_3, .int .i64 a0_4, .bool a0_5] 25 (0, 0))) ∧ Aside0 (wc.heap[gb190]? = some (.cells #[.int .i64 0, .int .i64 0, .int .i64 0, .int .i64 0, .int .i64 0, .bool false] 25 (0, 0))) ∧ Aside0 (Below w.heap.size w wc))
    case first =>
     have H := HC26.out
     clear HC26
     by_cases c27 : a1 = 0
     ·
      rw [if_pos c27] at H
      have c27b0 : (a1 == 0) = true := beq_iff_eq.mpr c27
      have c27b1 : (a1 != 0) = false := bne_eq_false_iff_eq.mpr c27
      clear c27
      (first | rw [c27b0] | (simp only [i64_w, i32_w]; rw [c27b0]) | skip)
      have H' := Aside0.mk H
      clear H
      go_wp2
      go_meet
      case rel => exact ⟨_, (0), (1), (by first | rfl | (simp; done) | (simp [*]; done)), (by first | rfl | (simp; done) | (simp [*]; done)), H', ⟨by have := HJ4.out; first | omega | exact Nat.le_refl _⟩, ⟨by refine bl_ ?_; exact BK189.out⟩, ⟨by refine bl_ ?_; exact BK190.out⟩, ⟨be_ HB.out⟩⟩
     ·
      rw [if_neg c27] at H
      have c27b0 : (a1 == 0) = false := beq_eq_false_iff_ne.mpr c27
      have c27b1 : (a1 != 0) = true := bne_iff_ne.mpr c27
      (first | rw [c27b0] | (simp only [i64_w, i32_w]; rw [c27b0]) | skip)
      by_cases c28 : a1 = 1
      ·
       rw [if_pos c28] at H
       have c28b0 : (a1 == 1) = true := beq_iff_eq.mpr c28
       have c28b1 : (a1 != 1) = false := bne_eq_false_iff_eq.mpr c28
       clear c28
       have H' := Aside0.mk H
       clear H
       go_wp2
       go_meet
       case rel => exact ⟨_, (0), (4), (by first | rfl | (simp; done) | (simp [*]; done)), (by first | rfl | (simp; done) | (simp [*]; done)), H', ⟨by have := HJ4.out; first | omega | exact Nat.le_refl _⟩, ⟨by refine bl_ ?_; exact BK189.out⟩, ⟨by refine bl_ ?_; exact BK190.out⟩, ⟨be_ HB.out⟩⟩
      ·
       rw [if_neg c28] at H
       have c28b0 : (a1 == 1) = false := beq_eq_false_iff_ne.mpr c28
       have c28b1 : (a1 != 1) = true := bne_iff_ne.mpr c28
       by_cases c29 : a1 = 2
       ·
        rw [if_pos c29] at H
        have c29b0 : (a1 == 2) = true := beq_iff_eq.mpr c29
        have c29b1 : (a1 != 2) = false := bne_eq_false_iff_eq.mpr c29
        clear c29
        have H' := Aside0.mk H
        clear H
        go_wp2
        go_meet
        case rel => exact ⟨_, (1), (3), (by first | rfl | (simp; done) | (simp [*]; done)), (by first | rfl | (simp; done) | (simp [*]; done)), H', ⟨by have := HJ4.out; first | omega | exact Nat.le_refl _⟩, ⟨by refine bl_ ?_; exact BK189.out⟩, ⟨by refine bl_ ?_; exact BK190.out⟩, ⟨be_ HB.out⟩⟩
       ·
        rw [if_neg c29] at H
        have c29b0 : (a1 == 2) = false := beq_eq_false_iff_ne.mpr c29
        have c29b1 : (a1 != 2) = true := bne_iff_ne.mpr c29
        by_cases c30 : a1 = 3
        ·
         rw [if_pos c30] at H
         have c30b0 : (a1 == 3) = true := beq_iff_eq.mpr c30
         have c30b1 : (a1 != 3) = false := bne_eq_false_iff_eq.mpr c30
         clear c30
         have H' := Aside0.mk H
         clear H
         go_wp2
         go_meet
         case rel => exact ⟨_, (3), (1), (by first | rfl | (simp; done) | (simp [*]; done)), (by first | rfl | (simp; done) | (simp [*]; done)), H', ⟨by have := HJ4.out; first | omega | exact Nat.le_refl _⟩, ⟨by refine bl_ ?_; exact BK189.out⟩, ⟨by refine bl_ ?_; exact BK190.out⟩, ⟨be_ HB.out⟩⟩
        ·
         rw [if_neg c30] at H
         have c30b0 : (a1 == 3) = false := beq_eq_false_iff_ne.mpr c30
         have c30b1 : (a1 != 3) = true := bne_iff_ne.mpr c30
         by_cases c31 : a1 = 4
         ·
          rw [if_pos c31] at H
          have c31b0 : (a1 == 4) = true := beq_iff_eq.mpr c31
          have c31b1 : (a1 != 4) = false := bne_eq_false_iff_eq.mpr c31
          clear c31
          have H' := Aside0.mk H
          clear H
          go_wp2
          go_meet
          case rel => exact ⟨_, (1), (2), (by first | rfl | (simp; done) | (simp [*]; done)), (by first | rfl | (simp; done) | (simp [*]; done)), H', ⟨by have := HJ4.out; first | omega | exact Nat.le_refl _⟩, ⟨by refine bl_ ?_; exact BK189.out⟩, ⟨by refine bl_ ?_; exact BK190.out⟩, ⟨be_ HB.out⟩⟩
         ·
          rw [if_neg c31] at H
          have c31b0 : (a1 == 4) = false := beq_eq_false_iff_ne.mpr c31
          have c31b1 : (a1 != 4) = true := bne_iff_ne.mpr c31
          by_cases c32 : a1 = 5
          ·
           rw [if_pos c32] at H
           have c32b0 : (a1 == 5) = true := beq_iff_eq.mpr c32
           have c32b1 : (a1 != 5) = false := bne_eq_false_iff_eq.mpr c32
           clear c32
           have H' := Aside0.mk H
           clear H
           go_wp2
           go_meet
           case rel => exact ⟨_, (2), (1), (by first | rfl | (simp; done) | (simp [*]; done)), (by first | rfl | (simp; done) | (simp [*]; done)), H', ⟨by have := HJ4.out; first | omega | exact Nat.le_refl _⟩, ⟨by refine bl_ ?_; exact BK189.out⟩, ⟨by refine bl_ ?_; exact BK190.out⟩, ⟨be_ HB.out⟩⟩
          ·
           rw [if_neg c32] at H
           have c32b0 : (a1 == 5) = false := beq_eq_false_iff_ne.mpr c32
           have c32b1 : (a1 != 5) = true := bne_iff_ne.mpr c32
           by_cases c33 : a1 = 6
           ·
            rw [if_pos c33] at H
            have c33b0 : (a1 == 6) = true := beq_iff_eq.mpr c33
            have c33b1 : (a1 != 6) = false := bne_eq_false_iff_eq.mpr c33
            clear c33
            have H' := Aside0.mk H
            clear H
            go_wp2
            go_meet
            case rel => exact ⟨_, (2), (4), (by first | rfl | (simp; done) | (simp [*]; done)), (by first | rfl | (simp; done) | (simp [*]; done)), H', ⟨by have := HJ4.out; first | omega | exact Nat.le_refl _⟩, ⟨by refine bl_ ?_; exact BK189.out⟩, ⟨by refine bl_ ?_; exact BK190.out⟩, ⟨be_ HB.out⟩⟩
           ·
            rw [if_neg c33] at H
            have c33b0 : (a1 == 6) = false := beq_eq_false_iff_ne.mpr c33
            have c33b1 : (a1 != 6) = true := bne_iff_ne.mpr c33
            by_cases c34 : a1 = 7
            ·
             rw [if_pos c34] at H
             have c34b0 : (a1 == 7) = true := beq_iff_eq.mpr c34
             have c34b1 : (a1 != 7) = false := bne_eq_false_iff_eq.mpr c34
             clear c34
             by_cases c35 : a0_1 = 4
             ·
              rw [if_pos c35] at H
              have c35b0 : (a0_1 == 4) = true := beq_iff_eq.mpr c35
              have c35b1 : (a0_1 != 4) = false := bne_eq_false_iff_eq.mpr c35
              clear c35
              have H' := Aside0.mk H
              clear H
              have hnb36 := NB189_190.out
              have hnc36 := NB190_189.out
              obtain ⟨hcz37_0, hcz37_1, hcz37_2, hcz37_3, hcz37_4, hcz37_5, hfz37_0, hfz37_1, hfz37_2, hfz37_3, hfz37_4, hfz37_5⟩ := cz6_ BK189.out
              go_wp2
              go_meet
              case rel => exact ⟨_, ((-1)), ((-1)), (by first | rfl | (simp; done) | (simp [*]; done)), (by first | rfl | (simp; done) | (simp [*]; done)), H', ⟨by have := HJ4.out; first | omega | exact Nat.le_refl _⟩, ⟨by refine bl_ ?_; exact BK189.out⟩, ⟨by refine bl_ ?_; exact BK190.out⟩, ⟨be_ HB.out⟩⟩
             ·
              rw [if_neg c35] at H
              have c35b0 : (a0_1 == 4) = false := beq_eq_false_iff_ne.mpr c35
              have c35b1 : (a0_1 != 4) = true := bne_iff_ne.mpr c35
              have H' := Aside0.mk H
              clear H
              have hnb38 := NB189_190.out
              have hnc38 := NB190_189.out
              obtain ⟨hcz39_0, hcz39_1, hcz39_2, hcz39_3, hcz39_4, hcz39_5, hfz39_0, hfz39_1, hfz39_2, hfz39_3, hfz39_4, hfz39_5⟩ := cz6_ BK189.out
              go_wp2
              go_meet
              case rel => exact ⟨_, (a0_1), (4), (by first | rfl | (simp; done) | (simp [*]; done)), (by first | rfl | (simp; done) | (simp [*]; done)), H', ⟨by have := HJ4.out; first | omega | exact Nat.le_refl _⟩, ⟨by refine bl_ ?_; exact BK189.out⟩, ⟨by refine bl_ ?_; exact BK190.out⟩, ⟨be_ HB.out⟩⟩
            ·
             rw [if_neg c34] at H
             have c34b0 : (a1 == 7) = false := beq_eq_false_iff_ne.mpr c34
             have c34b1 : (a1 != 7) = true := bne_iff_ne.mpr c34
             have H' := Aside0.mk H
             clear H
             go_wp2
             go_meet
             case rel => exact ⟨_, ((-1)), ((-1)), (by first | rfl | (simp; done) | (simp [*]; done)), (by first | rfl | (simp; done) | (simp [*]; done)), H', ⟨by have := HJ4.out; first | omega | exact Nat.le_refl _⟩, ⟨by refine bl_ ?_; exact BK189.out⟩, ⟨by refine bl_ ?_; exact BK190.out⟩, ⟨be_ HB.out⟩⟩
    case rest =>
     clear HC26
     try clear c1
     try clear c2
     try clear p2
     try clear c3
     try clear c9
     try clear c11
     try clear c12
     try clear c16
     try clear c19
     try clear c22
     try clear c23
     try clear c24
     try clear c27
     try clear c27b0
     try clear c27b1
     try clear c28
     try clear c28b0
     try clear c28b1
     try clear c29
     try clear c29b0
     try clear c29b1
     try clear c30
     try clear c30b0
     try clear c30b1
     try clear c31
     try clear c31b0
     try clear c31b1
     try clear c32
     try clear c32b0
     try clear c32b1
     try clear c33
     try clear c33b0
     try clear c33b1
     try clear c34
     try clear c34b0
     try clear c34b1
     try clear c35
     try clear c35b0
     try clear c35b1
     try clear c36
     try clear c38
     try clear hcz13_0
     try clear hcz13_1
     try clear hcz13_2
     try clear hcz13_3
     try clear hcz13_4
     try clear hcz13_5
     try clear hcz15_0
     try clear hcz15_1
     try clear hcz15_2
     try clear hcz15_3
     try clear hcz15_4
     try clear hcz15_5
     try clear hcz17_0
     try clear hcz17_1
     try clear hcz17_2
     try clear hcz17_3
     try clear hcz17_4
     try clear hcz17_5
     try clear hcz20_0
     try clear hcz20_1
     try clear hcz20_2
     try clear hcz20_3
     try clear hcz20_4
     try clear hcz20_5
     try clear hcz24_0
     try clear hcz24_1
     try clear hcz24_2
     try clear hcz24_3
     try clear hcz24_4
     try clear hcz24_5
     try clear hcz25_0
     try clear hcz25_1
     try clear hcz25_2
     try clear hcz25_3
     try clear hcz25_4
     try clear hcz25_5
     try clear hcz37_0
     try clear hcz37_1
     try clear hcz37_2
     try clear hcz37_3
     try clear hcz37_4
     try clear hcz37_5
     try clear hcz39_0
     try clear hcz39_1
     try clear hcz39_2
     try clear hcz39_3
     try clear hcz39_4
     try clear hcz39_5
     try clear hfz13_0
     try clear hfz13_1
     try clear hfz13_2
     try clear hfz13_3
     try clear hfz13_4
     try clear hfz13_5
     try clear hfz15_0
     try clear hfz15_1
     try clear hfz15_2
     try clear hfz15_3
     try clear hfz15_4
     try clear hfz15_5
     try clear hfz17_0
     try clear hfz17_1
     try clear hfz17_2
     try clear hfz17_3
     try clear hfz17_4
     try clear hfz17_5
     try clear hfz20_0
     try clear hfz20_1
     try clear hfz20_2
     try clear hfz20_3
     try clear hfz20_4
     try clear hfz20_5
     try clear hfz24_0
     try clear hfz24_1
     try clear hfz24_2
     try clear hfz24_3
     try clear hfz24_4
     try clear hfz24_5
     try clear hfz25_0
     try clear hfz25_1
     try clear hfz25_2
     try clear hfz25_3
     try clear hfz25_4
     try clear hfz25_5
     try clear hfz37_0
     try clear hfz37_1
     try clear hfz37_2
     try clear hfz37_3
     try clear hfz37_4
     try clear hfz37_5
     try clear hfz39_0
     try clear hfz39_1
     try clear hfz39_2
     try clear hfz39_3
     try clear hfz39_4
     try clear hfz39_5
     try clear p2
     obtain ⟨kq, x10_25, x11_25, rfl, rfl, HA, HJ25, BK189, BK190, HB⟩ := hcut
     cases kq with
     | zero => exact absurd HA.out (by simp [impl_StepConn.j1])
     | succ kj25 =>
      have H := HA.out
      clear HA
      simp only [impl_StepConn.j1] at H
      have HC40 := Aside0.mk H
      clear H
      go_upto_region 22 with (fail)
      go_cut [62] (fun zv62 wc => ∃ (kq : Nat) (x62_39 : Bool), zv62 = .bool x62_39 ∧ Aside0 (impl_StepConn.j2 kq a1 a2 a3 x11_25 x62_39 a0_0 a0_1 a0_2 a0_3 a0_4 a0_5 = some (r1, r2, r3, r4, r5, r6, r7)) ∧ Aside0 (kq ≤ kj25) ∧ Aside0 (wc.heap[gb189]? = some (.cells #[.int .i64 a0_0, .int .i64 a0_1, .int .i64 a0_2, .int .i64 a0_3, .int .i64 a0_4, .bool a0_5] 25 (0, 0))) ∧ Aside0 (wc.heap[gb190]? = some (.cells #[.int .i64 0, .int .i64 0, .int .i64 0, .int .i64 0, .int .i64 0, .bool false] 25 (0, 0))) ∧ Aside0 (Below w.heap.size w wc))
      case first =>
       have H := HC40.out
       clear HC40
       by_cases c41 : x10_25 = a0_1
       ·
        rw [if_pos c41] at H
        have c41b0 : (x10_25 == a0_1) = true := beq_iff_eq.mpr c41
        have c41b1 : (x10_25 != a0_1) = false := bne_eq_false_iff_eq.mpr c41
        clear c41
        (first | rw [c41b0] | (simp only [i64_w, i32_w]; rw [c41b0]) | skip)
        by_cases c42 : a1 = 2
        ·
         rw [if_pos c42] at H
         have c42b0 : (a1 == 2) = true := beq_iff_eq.mpr c42
         have c42b1 : (a1 != 2) = false := bne_eq_false_iff_eq.mpr c42
         clear c42
         replace H := Option.bind_eq_some_iff.mp H
         obtain ⟨t193, A430, H⟩ := H
         replace H : (impl_StepConn.j2 kj25 a1 a2 a3 x11_25 (!t193) a0_0 a0_1 a0_2 a0_3 a0_4 a0_5) = some (r1, r2, r3, r4, r5, r6, r7) := H
         have A43 := Aside0.mk A430
         clear A430
         have H' := Aside0.mk H
         clear H
         have hnb44 := NB189_190.out
         have hnc44 := NB190_189.out
         obtain ⟨hcz45_0, hcz45_1, hcz45_2, hcz45_3, hcz45_4, hcz45_5, hfz45_0, hfz45_1, hfz45_2, hfz45_3, hfz45_4, hfz45_5⟩ := cz6_ BK189.out
         go_wp2_with (first | (go_at_call 26; (with_reducible refine (impl_isId.calls a3 t193 _ A43.out).mono ?_); rintro e w' ⟨rfl, ⟨nd, rfl⟩⟩))
         go_meet
         case rel => exact ⟨_, (!t193), (by first | rfl | (simp; done) | (simp [*]; done)), H', ⟨by have := HJ4.out; have := HJ25.out; first | omega | exact Nat.le_refl _⟩, ⟨by refine bl_ ?_; exact BK189.out⟩, ⟨by refine bl_ ?_; exact BK190.out⟩, ⟨be_ HB.out⟩⟩
        ·
         rw [if_neg c42] at H
         have c42b0 : (a1 == 2) = false := beq_eq_false_iff_ne.mpr c42
         have c42b1 : (a1 != 2) = true := bne_iff_ne.mpr c42
         have H' := Aside0.mk H
         clear H
         have hnb46 := NB189_190.out
         have hnc46 := NB190_189.out
         obtain ⟨hcz47_0, hcz47_1, hcz47_2, hcz47_3, hcz47_4, hcz47_5, hfz47_0, hfz47_1, hfz47_2, hfz47_3, hfz47_4, hfz47_5⟩ := cz6_ BK189.out
         go_wp2
         go_meet
         case rel => exact ⟨_, (false), (by first | rfl | (simp; done) | (simp [*]; done)), H', ⟨by have := HJ4.out; have := HJ25.out; first | omega | exact Nat.le_refl _⟩, ⟨by refine bl_ ?_; exact BK189.out⟩, ⟨by refine bl_ ?_; exact BK190.out⟩, ⟨be_ HB.out⟩⟩
       ·
        rw [if_neg c41] at H
        have c41b0 : (x10_25 == a0_1) = false := beq_eq_false_iff_ne.mpr c41
        have c41b1 : (x10_25 != a0_1) = true := bne_iff_ne.mpr c41
        (first | rw [c41b0] | (simp only [i64_w, i32_w]; rw [c41b0]) | skip)
        have H' := Aside0.mk H
        clear H
        have hnb48 := NB189_190.out
        have hnc48 := NB190_189.out
        obtain ⟨hcz49_0, hcz49_1, hcz49_2, hcz49_3, hcz49_4, hcz49_5, hfz49_0, hfz49_1, hfz49_2, hfz49_3, hfz49_4, hfz49_5⟩ := cz6_ BK189.out
        go_wp2
        go_meet
        case rel => exact ⟨_, (true), (by first | rfl | (simp; done) | (simp [*]; done)), H', ⟨by have := HJ4.out; have := HJ25.out; first | omega | exact Nat.le_refl _⟩, ⟨by refine bl_ ?_; exact BK189.out⟩, ⟨by refine bl_ ?_; exact BK190.out⟩, ⟨be_ HB.out⟩⟩
      case rest =>
       clear HC40
       try clear c1
       try clear c2
       try clear p2
       try clear c3
       try clear c4
       try clear c9
       try clear c11
       try clear c12
       try clear c16
       try clear c19
       try clear c22
       try clear c23
       try clear c24
       try clear c27
       try clear c27b0
       try clear c27b1
       try clear c28
       try clear c28b0
       try clear c28b1
       try clear c29
       try clear c29b0
       try clear c29b1
       try clear c30
       try clear c30b0
       try clear c30b1
       try clear c31
       try clear c31b0
       try clear c31b1
       try clear c32
       try clear c32b0
       try clear c32b1
       try clear c33
       try clear c33b0
       try clear c33b1
       try clear c34
       try clear c34b0
       try clear c34b1
       try clear c35
       try clear c35b0
       try clear c35b1
       try clear c36
       try clear c38
       try clear c41
       try clear c41b0
       try clear c41b1
       try clear c42
       try clear c42b0
       try clear c42b1
       try clear c44
       try clear c46
       try clear c48
       try clear hcz13_0
       try clear hcz13_1
       try clear hcz13_2
       try clear hcz13_3
       try clear hcz13_4
       try clear hcz13_5
       try clear hcz15_0
       try clear hcz15_1
       try clear hcz15_2
       try clear hcz15_3
       try clear hcz15_4
       try clear hcz15_5
       try clear hcz17_0
       try clear hcz17_1
       try clear hcz17_2
       try clear hcz17_3
       try clear hcz17_4
       try clear hcz17_5
       try clear hcz20_0
       try clear hcz20_1
       try clear hcz20_2
       try clear hcz20_3
       try clear hcz20_4
       try clear hcz20_5
       try clear hcz24_0
       try clear hcz24_1
       try clear hcz24_2
       try clear hcz24_3
       try clear hcz24_4
       try clear hcz24_5
       try clear hcz25_0
       try clear hcz25_1
       try clear hcz25_2
       try clear hcz25_3
       try clear hcz25_4
       try clear hcz25_5
       try clear hcz37_0
       try clear hcz37_1
       try clear hcz37_2
       try clear hcz37_3
       try clear hcz37_4
       try clear hcz37_5
       try clear hcz39_0
       try clear hcz39_1
       try clear hcz39_2
       try clear hcz39_3
       try clear hcz39_4
       try clear hcz39_5
       try clear hcz45_0
       try clear hcz45_1
       try clear hcz45_2
       try clear hcz45_3
       try clear hcz45_4
       try clear hcz45_5
       try clear hcz47_0
       try clear hcz47_1
       try clear hcz47_2
       try clear hcz47_3
       try clear hcz47_4
       try clear hcz47_5
       try clear hcz49_0
       try clear hcz49_1
       try clear hcz49_2
       try clear hcz49_3
       try clear hcz49_4
       try clear hcz49_5
       try clear hfz13_0
       try clear hfz13_1
       try clear hfz13_2
       try clear hfz13_3
       try clear hfz13_4
       try clear hfz13_5
       try clear hfz15_0
       try clear hfz15_1
       try clear hfz15_2
       try clear hfz15_3
       try clear hfz15_4
       try clear hfz15_5
       try clear hfz17_0
       try clear hfz17_1
       try clear hfz17_2
       try clear hfz17_3
       try clear hfz17_4
       try clear hfz17_5
       try clear hfz20_0
       try clear hfz20_1
       try clear hfz20_2
       try clear hfz20_3
       try clear hfz20_4
       try clear hfz20_5
       try clear hfz24_0
       try clear hfz24_1
       try clear hfz24_2
       try clear hfz24_3
       try clear hfz24_4
       try clear hfz24_5
       try clear hfz25_0
       try clear hfz25_1
       try clear hfz25_2
       try clear hfz25_3
       try clear hfz25_4
       try clear hfz25_5
       try clear hfz37_0
       try clear hfz37_1
       try clear hfz37_2
       try clear hfz37_3
       try clear hfz37_4
       try clear hfz37_5
       try clear hfz39_0
       try clear hfz39_1
       try clear hfz39_2
       try clear hfz39_3
       try clear hfz39_4
       try clear hfz39_5
       try clear hfz45_0
       try clear hfz45_1
       try clear hfz45_2
       try clear hfz45_3
       try clear hfz45_4
       try clear hfz45_5
       try clear hfz47_0
       try clear hfz47_1
       try clear hfz47_2
       try clear hfz47_3
       try clear hfz47_4
       try clear hfz47_5
       try clear hfz49_0
       try clear hfz49_1
       try clear hfz49_2
       try clear hfz49_3
       try clear hfz49_4
       try clear hfz49_5
       try clear p2
       obtain ⟨kq, x62_39, rfl, HA, HJ39, BK189, BK190, HB⟩ := hcut
       cases kq with
       | zero => exact absurd HA.out (by simp [impl_StepConn.j2])
       | succ kj39 =>
        have H := HA.out
        clear HA
        simp only [impl_StepConn.j2] at H
        by_cases c50 : x62_39 = true
        ·
         subst c50
         have H1 : (some (a0_0, a0_1, a0_2, a0_3, a0_4, a0_5, false)) = some (r1, r2, r3, r4, r5, r6, r7) := by rw [if_pos rfl] at H; exact H
         clear H
         have H := H1
         clear H1
         simp only [Option.some.injEq, Prod.mk.injEq] at H
         obtain ⟨rfl, rfl, rfl, rfl, rfl, rfl, rfl⟩ := H
         have hnb51 := NB189_190.out
         have hnc51 := NB190_189.out
         obtain ⟨hcz52_0, hcz52_1, hcz52_2, hcz52_3, hcz52_4, hcz52_5, hfz52_0, hfz52_1, hfz52_2, hfz52_3, hfz52_4, hfz52_5⟩ := cz6_ BK189.out
         obtain ⟨hcz53_0, hcz53_1, hcz53_2, hcz53_3, hcz53_4, hcz53_5, hfz53_0, hfz53_1, hfz53_2, hfz53_3, hfz53_4, hfz53_5⟩ := cz6_ BK190.out
         go_wp2
         refine bodyPost_ret (results_ct rfl _ _ gb190 25 #[.int .i64 a0_0, .int .i64 a0_1, .int .i64 a0_2, .int .i64 a0_3, .int .i64 a0_4, .bool a0_5] (0, 0) _ rfl (by refine bl_ ?_; refine blk_put (cs := #[.int .i64 a0_0, .int .i64 a0_1, .int .i64 a0_2, .int .i64 a0_3, .int .i64 a0_4, .bool false]) ?_ 5 _ rfl; refine bl_ ?_; refine blk_put (cs := #[.int .i64 a0_0, .int .i64 a0_1, .int .i64 a0_2, .int .i64 a0_3, .int .i64 0, .bool false]) ?_ 4 _ rfl; refine bl_ ?_; refine blk_put (cs := #[.int .i64 a0_0, .int .i64 a0_1, .int .i64 a0_2, .int .i64 0, .int .i64 0, .bool false]) ?_ 3 _ rfl; refine bl_ ?_; refine blk_put (cs := #[.int .i64 a0_0, .int .i64 a0_1, .int .i64 0, .int .i64 0, .int .i64 0, .bool false]) ?_ 2 _ rfl; refine bl_ ?_; refine blk_put (cs := #[.int .i64 a0_0, .int .i64 0, .int .i64 0, .int .i64 0, .int .i64 0, .bool false]) ?_ 1 _ rfl; refine bl_ ?_; refine blk_put (cs := #[.int .i64 0, .int .i64 0, .int .i64 0, .int .i64 0, .int .i64 0, .bool false]) ?_ 0 _ rfl; refine bl_ ?_; exact BK190.out) Try.underlying25 rfl (by kernel_rfl)) rfl ?_
         exact ⟨by first | rfl | (simp [errW_none, errW_some] <;> rfl) | (simp [*, errW_none, errW_some] <;> rfl), be_ HB.out⟩
        ·
         replace c50 := Bool.eq_false_iff.mpr c50
         subst c50
         have H1 : (if a1 = 0 then (if a1 = 2 then (some (a0_0, x11_25, a2, a2, a3, false, true)) else (some (a0_0, x11_25, a2, a2, 0, false, true))) else (if a1 = 2 then (some (a0_0, x11_25, a0_2, a2, a3, false, true)) else (some (a0_0, x11_25, a0_2, a2, 0, false, true)))) = some (r1, r2, r3, r4, r5, r6, r7) := by rw [if_neg (show ¬ (false = true) by decide)] at H; exact H
         clear H
         have H := H1
         clear H1
         by_cases c54 : a1 = 0
         ·
          rw [if_pos c54] at H
          have c54b0 : (a1 == 0) = true := beq_iff_eq.mpr c54
          have c54b1 : (a1 != 0) = false := bne_eq_false_iff_eq.mpr c54
          clear c54
          by_cases c55 : a1 = 2
          ·
           rw [if_pos c55] at H
           exact absurd ((beq_iff_eq.mp c54b0).symm.trans c55) (by decide)
          ·
           rw [if_neg c55] at H
           have c55b0 : (a1 == 2) = false := beq_eq_false_iff_ne.mpr c55
           have c55b1 : (a1 != 2) = true := bne_iff_ne.mpr c55
           simp only [Option.some.injEq, Prod.mk.injEq] at H
           obtain ⟨rfl, rfl, rfl, rfl, rfl, rfl, rfl⟩ := H
           have hnb63 := NB189_190.out
           have hnc63 := NB190_189.out
           obtain ⟨hcz64_0, hcz64_1, hcz64_2, hcz64_3, hcz64_4, hcz64_5, hfz64_0, hfz64_1, hfz64_2, hfz64_3, hfz64_4, hfz64_5⟩ := cz6_ BK189.out
           go_wp2_with (first | ((with_reducible refine gate_dst (N := 12) rfl ?_); refine box_event ?hg (N := 12) ?hd (cs := #[.int .i64 0, .int .i64 0, .int .i64 0, .int .i64 0, .int .i64 0, .bool false]) (t := 25) ?hr ?_; (case hd => rfl); (case hg => rfl); (case hr => first | (go_simp; done) | (go_simp; rfl)); intro gb194 hg w65 hbox hb; have n0_ := Aside0.mk (blk_below (bl_ BK189.out) hb); have n1_ := Aside0.mk (blk_below (bl_ BK190.out) hb); have n2_ := Aside0.mk (below_step (be_ HB.out) hb); have n3_ := Aside0.mk (hbox); have n4_ := Aside0.mk ((by rw [hg]; exact (below_size (be_ HB.out)) : w.heap.size ≤ gb194)); have n5_ := Aside0.mk ((by rw [hg]; exact (below_size (be_ HB.out)) : w.heap.size ≤ gb194)); have n6_ := Aside0.mk ((by rw [hg]; exact Nat.ne_of_lt (blk_lt (g := gb189) (o := .cells #[.int .i64 a0_0, .int .i64 a0_1, .int .i64 a0_2, .int .i64 a0_3, .int .i64 a0_4, .bool a0_5] 25 (0, 0)) (bl_ BK189.out)) : gb189 ≠ gb194)); have n7_ := Aside0.mk ((by rw [hg]; exact Nat.ne_of_gt (blk_lt (g := gb189) (o := .cells #[.int .i64 a0_0, .int .i64 a0_1, .int .i64 a0_2, .int .i64 a0_3, .int .i64 a0_4, .bool a0_5] 25 (0, 0)) (bl_ BK189.out)) : gb194 ≠ gb189)); have n8_ := Aside0.mk ((by rw [hg]; exact Nat.ne_of_lt (blk_lt (g := gb190) (o := .cells #[.int .i64 0, .int .i64 0, .int .i64 0, .int .i64 0, .int .i64 0, .bool false] 25 (0, 0)) (bl_ BK190.out)) : gb190 ≠ gb194)); have n9_ := Aside0.mk ((by rw [hg]; exact Nat.ne_of_gt (blk_lt (g := gb190) (o := .cells #[.int .i64 0, .int .i64 0, .int .i64 0, .int .i64 0, .int .i64 0, .bool false] 25 (0, 0)) (bl_ BK190.out)) : gb194 ≠ gb190)); clear BK189 BK190 HB; have BK189 := n0_; have BK190 := n1_; have HB := n2_; have BK194 := n3_; have GW194 := n4_; have GE194 := n5_; have NB189_194 := n6_; have NB194_189 := n7_; have NB190_194 := n8_; have NB194_190 := n9_; clear n0_ n1_ n2_ n3_ n4_ n5_ n6_ n7_ n8_ n9_; clear hb hbox hg; have hnb66 := NB194_189.out; have hnc66 := NB189_194.out; have hnb67 := NB194_190.out; have hnc67 := NB190_194.out; obtain ⟨hcz68_0, hcz68_1, hcz68_2, hcz68_3, hcz68_4, hcz68_5, hfz68_0, hfz68_1, hfz68_2, hfz68_3, hfz68_4, hfz68_5⟩ := cz6_ BK194.out; obtain ⟨hcz69_0, hcz69_1, hcz69_2, hcz69_3, hcz69_4, hcz69_5, hfz69_0, hfz69_1, hfz69_2, hfz69_3, hfz69_4, hfz69_5⟩ := cz6_ BK190.out) | ((with_reducible refine gate_store (t := 25) (p := 12) rfl ?_); refine store_event (t := 25) (p := 12) (v := ?vo_w904) (w1 := ((((((w65.setCell ⟨gb194, 0, none⟩ (.int .i64 a0_0)).setCell ⟨gb194, 1, none⟩ (.int .i64 x11_25)).setCell ⟨gb194, 2, none⟩ (.int .i64 a0_2)).setCell ⟨gb194, 3, none⟩ (.int .i64 a2)).setCell ⟨gb194, 4, none⟩ (.int .i64 0)).setCell ⟨gb194, 5, none⟩ (.bool false))) ?hg ?ho ?hn ?hr ?_; (case ho => rfl); (case hg => rfl); (case hn => rfl); (case hr => first | (go_simp; done) | (go_simp; rfl)); intro w904 hw; have n0_ : Aside0 (w904.heap[gb189]? = some (.cells #[.int .i64 a0_0, .int .i64 a0_1, .int .i64 a0_2, .int .i64 a0_3, .int .i64 a0_4, .bool a0_5] 25 (0, 0))) := ⟨(by rw [hw]; exact (by refine blk_far ?_ NB189_194.out _; refine blk_far ?_ NB189_194.out _; refine blk_far ?_ NB189_194.out _; refine blk_far ?_ NB189_194.out _; refine blk_far ?_ NB189_194.out _; refine blk_far ?_ NB189_194.out _; exact BK189.out))⟩; have n1_ : Aside0 (w904.heap[gb190]? = some (.cells #[.int .i64 0, .int .i64 0, .int .i64 0, .int .i64 0, .int .i64 0, .bool false] 25 (0, 0))) := ⟨(by rw [hw]; exact (by refine blk_far ?_ NB190_194.out _; refine blk_far ?_ NB190_194.out _; refine blk_far ?_ NB190_194.out _; refine blk_far ?_ NB190_194.out _; refine blk_far ?_ NB190_194.out _; refine blk_far ?_ NB190_194.out _; exact BK190.out))⟩; have n2_ : Aside0 (w904.heap[gb194]? = some (.cells #[.int .i64 a0_0, .int .i64 x11_25, .int .i64 a0_2, .int .i64 a2, .int .i64 0, .bool false] 25 (0, 0))) := ⟨(by rw [hw]; exact (by refine blk_put (cs := #[.int .i64 a0_0, .int .i64 x11_25, .int .i64 a0_2, .int .i64 a2, .int .i64 0, .bool false]) ?_ 5 _ rfl; refine blk_put (cs := #[.int .i64 a0_0, .int .i64 x11_25, .int .i64 a0_2, .int .i64 a2, .int .i64 0, .bool false]) ?_ 4 _ rfl; refine blk_put (cs := #[.int .i64 a0_0, .int .i64 x11_25, .int .i64 a0_2, .int .i64 0, .int .i64 0, .bool false]) ?_ 3 _ rfl; refine blk_put (cs := #[.int .i64 a0_0, .int .i64 x11_25, .int .i64 0, .int .i64 0, .int .i64 0, .bool false]) ?_ 2 _ rfl; refine blk_put (cs := #[.int .i64 a0_0, .int .i64 0, .int .i64 0, .int .i64 0, .int .i64 0, .bool false]) ?_ 1 _ rfl; refine blk_put (cs := #[.int .i64 0, .int .i64 0, .int .i64 0, .int .i64 0, .int .i64 0, .bool false]) ?_ 0 _ rfl; exact BK194.out))⟩; have n3_ : Aside0 (Below w.heap.size w w904) := ⟨(by rw [hw]; exact (be_ HB.out))⟩; clear hw BK189 BK190 BK194 HB; have BK189 := n0_; have BK190 := n1_; have BK194 := n2_; have HB := n3_; clear n0_ n1_ n2_ n3_; obtain ⟨hcz9040_0, hcz9040_1, hcz9040_2, hcz9040_3, hcz9040_4, hcz9040_5, hfz9040_0, hfz9040_1, hfz9040_2, hfz9040_3, hfz9040_4, hfz9040_5⟩ := cz6_ BK189.out; obtain ⟨hcz9041_0, hcz9041_1, hcz9041_2, hcz9041_3, hcz9041_4, hcz9041_5, hfz9041_0, hfz9041_1, hfz9041_2, hfz9041_3, hfz9041_4, hfz9041_5⟩ := cz6_ BK190.out; obtain ⟨hcz9042_0, hcz9042_1, hcz9042_2, hcz9042_3, hcz9042_4, hcz9042_5, hfz9042_0, hfz9042_1, hfz9042_2, hfz9042_3, hfz9042_4, hfz9042_5⟩ := cz6_ BK194.out) | ((with_reducible refine gate_store (t := 3) (p := 74) rfl ?_); refine store_event (t := 3) (p := 74) (v := ?vo_w905) (w1 := (w904.setCell ⟨gb194, 2, none⟩ (.int .i64 a2))) ?hg ?ho ?hn ?hr ?_; (case ho => rfl); (case hg => rfl); (case hn => rfl); (case hr => first | (go_simp; done) | (go_simp; rfl)); intro w905 hw; have n0_ : Aside0 (w905.heap[gb189]? = some (.cells #[.int .i64 a0_0, .int .i64 a0_1, .int .i64 a0_2, .int .i64 a0_3, .int .i64 a0_4, .bool a0_5] 25 (0, 0))) := ⟨(by rw [hw]; exact (by refine blk_far ?_ NB189_194.out _; exact BK189.out))⟩; have n1_ : Aside0 (w905.heap[gb190]? = some (.cells #[.int .i64 0, .int .i64 0, .int .i64 0, .int .i64 0, .int .i64 0, .bool false] 25 (0, 0))) := ⟨(by rw [hw]; exact (by refine blk_far ?_ NB190_194.out _; exact BK190.out))⟩; have n2_ : Aside0 (w905.heap[gb194]? = some (.cells #[.int .i64 a0_0, .int .i64 x11_25, .int .i64 a2, .int .i64 a2, .int .i64 0, .bool false] 25 (0, 0))) := ⟨(by rw [hw]; exact (by refine blk_put (cs := #[.int .i64 a0_0, .int .i64 x11_25, .int .i64 a0_2, .int .i64 a2, .int .i64 0, .bool false]) ?_ 2 _ rfl; exact BK194.out))⟩; have n3_ : Aside0 (Below w.heap.size w w905) := ⟨(by rw [hw]; exact (be_ HB.out))⟩; clear hw BK189 BK190 BK194 HB; have BK189 := n0_; have BK190 := n1_; have BK194 := n2_; have HB := n3_; clear n0_ n1_ n2_ n3_; obtain ⟨hcz9050_0, hcz9050_1, hcz9050_2, hcz9050_3, hcz9050_4, hcz9050_5, hfz9050_0, hfz9050_1, hfz9050_2, hfz9050_3, hfz9050_4, hfz9050_5⟩ := cz6_ BK189.out; obtain ⟨hcz9051_0, hcz9051_1, hcz9051_2, hcz9051_3, hcz9051_4, hcz9051_5, hfz9051_0, hfz9051_1, hfz9051_2, hfz9051_3, hfz9051_4, hfz9051_5⟩ := cz6_ BK190.out; obtain ⟨hcz9052_0, hcz9052_1, hcz9052_2, hcz9052_3, hcz9052_4, hcz9052_5, hfz9052_0, hfz9052_1, hfz9052_2, hfz9052_3, hfz9052_4, hfz9052_5⟩ := cz6_ BK194.out))
           refine bodyPost_ret (results_ct rfl _ _ gb190 25 #[.int .i64 a0_0, .int .i64 x11_25, .int .i64 a2, .int .i64 a2, .int .i64 0, .bool false] (0, 0) _ rfl (by refine bl_ ?_; refine blk_put (cs := #[.int .i64 a0_0, .int .i64 x11_25, .int .i64 a2, .int .i64 a2, .int .i64 0, .bool false]) ?_ 5 _ rfl; refine bl_ ?_; refine blk_put (cs := #[.int .i64 a0_0, .int .i64 x11_25, .int .i64 a2, .int .i64 a2, .int .i64 0, .bool false]) ?_ 4 _ rfl; refine bl_ ?_; refine blk_put (cs := #[.int .i64 a0_0, .int .i64 x11_25, .int .i64 a2, .int .i64 0, .int .i64 0, .bool false]) ?_ 3 _ rfl; refine bl_ ?_; refine blk_put (cs := #[.int .i64 a0_0, .int .i64 x11_25, .int .i64 0, .int .i64 0, .int .i64 0, .bool false]) ?_ 2 _ rfl; refine bl_ ?_; refine blk_put (cs := #[.int .i64 a0_0, .int .i64 0, .int .i64 0, .int .i64 0, .int .i64 0, .bool false]) ?_ 1 _ rfl; refine bl_ ?_; refine blk_put (cs := #[.int .i64 0, .int .i64 0, .int .i64 0, .int .i64 0, .int .i64 0, .bool false]) ?_ 0 _ rfl; exact BK190.out) Try.underlying25 rfl (by kernel_rfl)) rfl ?_
           exact ⟨by first | rfl | (simp [errW_none, errW_some] <;> rfl) | (simp [*, errW_none, errW_some] <;> rfl), be_ HB.out⟩
         ·
          rw [if_neg c54] at H
          have c54b0 : (a1 == 0) = false := beq_eq_false_iff_ne.mpr c54
          have c54b1 : (a1 != 0) = true := bne_iff_ne.mpr c54
          by_cases c70 : a1 = 2
          ·
           rw [if_pos c70] at H
           have c70b0 : (a1 == 2) = true := beq_iff_eq.mpr c70
           have c70b1 : (a1 != 2) = false := bne_eq_false_iff_eq.mpr c70
           clear c70
           simp only [Option.some.injEq, Prod.mk.injEq] at H
           obtain ⟨rfl, rfl, rfl, rfl, rfl, rfl, rfl⟩ := H
           have hnb71 := NB189_190.out
           have hnc71 := NB190_189.out
           obtain ⟨hcz72_0, hcz72_1, hcz72_2, hcz72_3, hcz72_4, hcz72_5, hfz72_0, hfz72_1, hfz72_2, hfz72_3, hfz72_4, hfz72_5⟩ := cz6_ BK189.out
           go_wp2_with (first | ((with_reducible refine gate_dst (N := 12) rfl ?_); refine box_event ?hg (N := 12) ?hd (cs := #[.int .i64 0, .int .i64 0, .int .i64 0, .int .i64 0, .int .i64 0, .bool false]) (t := 25) ?hr ?_; (case hd => rfl); (case hg => rfl); (case hr => first | (go_simp; done) | (go_simp; rfl)); intro gb194 hg w73 hbox hb; have n0_ := Aside0.mk (blk_below (bl_ BK189.out) hb); have n1_ := Aside0.mk (blk_below (bl_ BK190.out) hb); have n2_ := Aside0.mk (below_step (be_ HB.out) hb); have n3_ := Aside0.mk (hbox); have n4_ := Aside0.mk ((by rw [hg]; exact (below_size (be_ HB.out)) : w.heap.size ≤ gb194)); have n5_ := Aside0.mk ((by rw [hg]; exact (below_size (be_ HB.out)) : w.heap.size ≤ gb194)); have n6_ := Aside0.mk ((by rw [hg]; exact Nat.ne_of_lt (blk_lt (g := gb189) (o := .cells #[.int .i64 a0_0, .int .i64 a0_1, .int .i64 a0_2, .int .i64 a0_3, .int .i64 a0_4, .bool a0_5] 25 (0, 0)) (bl_ BK189.out)) : gb189 ≠ gb194)); have n7_ := Aside0.mk ((by rw [hg]; exact Nat.ne_of_gt (blk_lt (g := gb189) (o := .cells #[.int .i64 a0_0, .int .i64 a0_1, .int .i64 a0_2, .int .i64 a0_3, .int .i64 a0_4, .bool a0_5] 25 (0, 0)) (bl_ BK189.out)) : gb194 ≠ gb189)); have n8_ := Aside0.mk ((by rw [hg]; exact Nat.ne_of_lt (blk_lt (g := gb190) (o := .cells #[.int .i64 0, .int .i64 0, .int .i64 0, .int .i64 0, .int .i64 0, .bool false] 25 (0, 0)) (bl_ BK190.out)) : gb190 ≠ gb194)); have n9_ := Aside0.mk ((by rw [hg]; exact Nat.ne_of_gt (blk_lt (g := gb190) (o := .cells #[.int .i64 0, .int .i64 0, .int .i64 0, .int .i64 0, .int .i64 0, .bool false] 25 (0, 0)) (bl_ BK190.out)) : gb194 ≠ gb190)); clear BK189 BK190 HB; have BK189 := n0_; have BK190 := n1_; have HB := n2_; have BK194 := n3_; have GW194 := n4_; have GE194 := n5_; have NB189_194 := n6_; have NB194_189 := n7_; have NB190_194 := n8_; have NB194_190 := n9_; clear n0_ n1_ n2_ n3_ n4_ n5_ n6_ n7_ n8_ n9_; clear hb hbox hg; have hnb74 := NB194_189.out; have hnc74 := NB189_194.out; have hnb75 := NB194_190.out; have hnc75 := NB190_194.out; obtain ⟨hcz76_0, hcz76_1, hcz76_2, hcz76_3, hcz76_4, hcz76_5, hfz76_0, hfz76_1, hfz76_2, hfz76_3, hfz76_4, hfz76_5⟩ := cz6_ BK194.out; obtain ⟨hcz77_0, hcz77_1, hcz77_2, hcz77_3, hcz77_4, hcz77_5, hfz77_0, hfz77_1, hfz77_2, hfz77_3, hfz77_4, hfz77_5⟩ := cz6_ BK190.out) | ((with_reducible refine gate_store (t := 25) (p := 12) rfl ?_); refine store_event (t := 25) (p := 12) (v := ?vo_w906) (w1 := ((((((w73.setCell ⟨gb194, 0, none⟩ (.int .i64 a0_0)).setCell ⟨gb194, 1, none⟩ (.int .i64 x11_25)).setCell ⟨gb194, 2, none⟩ (.int .i64 a0_2)).setCell ⟨gb194, 3, none⟩ (.int .i64 a2)).setCell ⟨gb194, 4, none⟩ (.int .i64 0)).setCell ⟨gb194, 5, none⟩ (.bool false))) ?hg ?ho ?hn ?hr ?_; (case ho => rfl); (case hg => rfl); (case hn => rfl); (case hr => first | (go_simp; done) | (go_simp; rfl)); intro w906 hw; have n0_ : Aside0 (w906.heap[gb189]? = some (.cells #[.int .i64 a0_0, .int .i64 a0_1, .int .i64 a0_2, .int .i64 a0_3, .int .i64 a0_4, .bool a0_5] 25 (0, 0))) := ⟨(by rw [hw]; exact (by refine blk_far ?_ NB189_194.out _; refine blk_far ?_ NB189_194.out _; refine blk_far ?_ NB189_194.out _; refine blk_far ?_ NB189_194.out _; refine blk_far ?_ NB189_194.out _; refine blk_far ?_ NB189_194.out _; exact BK189.out))⟩; have n1_ : Aside0 (w906.heap[gb190]? = some (.cells #[.int .i64 0, .int .i64 0, .int .i64 0, .int .i64 0, .int .i64 0, .bool false] 25 (0, 0))) := ⟨(by rw [hw]; exact (by refine blk_far ?_ NB190_194.out _; refine blk_far ?_ NB190_194.out _; refine blk_far ?_ NB190_194.out _; refine blk_far ?_ NB190_194.out _; refine blk_far ?_ NB190_194.out _; refine blk_far ?_ NB190_194.out _; exact BK190.out))⟩; have n2_ : Aside0 (w906.heap[gb194]? = some (.cells #[.int .i64 a0_0, .int .i64 x11_25, .int .i64 a0_2, .int .i64 a2, .int .i64 0, .bool false] 25 (0, 0))) := ⟨(by rw [hw]; exact (by refine blk_put (cs := #[.int .i64 a0_0, .int .i64 x11_25, .int .i64 a0_2, .int .i64 a2, .int .i64 0, .bool false]) ?_ 5 _ rfl; refine blk_put (cs := #[.int .i64 a0_0, .int .i64 x11_25, .int .i64 a0_2, .int .i64 a2, .int .i64 0, .bool false]) ?_ 4 _ rfl; refine blk_put (cs := #[.int .i64 a0_0, .int .i64 x11_25, .int .i64 a0_2, .int .i64 0, .int .i64 0, .bool false]) ?_ 3 _ rfl; refine blk_put (cs := #[.int .i64 a0_0, .int .i64 x11_25, .int .i64 0, .int .i64 0, .int .i64 0, .bool false]) ?_ 2 _ rfl; refine blk_put (cs := #[.int .i64 a0_0, .int .i64 0, .int .i64 0, .int .i64 0, .int .i64 0, .bool false]) ?_ 1 _ rfl; refine blk_put (cs := #[.int .i64 0, .int .i64 0, .int .i64 0, .int .i64 0, .int .i64 0, .bool false]) ?_ 0 _ rfl; exact BK194.out))⟩; have n3_ : Aside0 (Below w.heap.size w w906) := ⟨(by rw [hw]; exact (be_ HB.out))⟩; clear hw BK189 BK190 BK194 HB; have BK189 := n0_; have BK190 := n1_; have BK194 := n2_; have HB := n3_; clear n0_ n1_ n2_ n3_; obtain ⟨hcz9060_0, hcz9060_1, hcz9060_2, hcz9060_3, hcz9060_4, hcz9060_5, hfz9060_0, hfz9060_1, hfz9060_2, hfz9060_3, hfz9060_4, hfz9060_5⟩ := cz6_ BK189.out; obtain ⟨hcz9061_0, hcz9061_1, hcz9061_2, hcz9061_3, hcz9061_4, hcz9061_5, hfz9061_0, hfz9061_1, hfz9061_2, hfz9061_3, hfz9061_4, hfz9061_5⟩ := cz6_ BK190.out; obtain ⟨hcz9062_0, hcz9062_1, hcz9062_2, hcz9062_3, hcz9062_4, hcz9062_5, hfz9062_0, hfz9062_1, hfz9062_2, hfz9062_3, hfz9062_4, hfz9062_5⟩ := cz6_ BK194.out) | ((with_reducible refine gate_store (t := 3) (p := 78) rfl ?_); refine store_event (t := 3) (p := 78) (v := ?vo_w907) (w1 := (w906.setCell ⟨gb194, 4, none⟩ (.int .i64 a3))) ?hg ?ho ?hn ?hr ?_; (case ho => rfl); (case hg => rfl); (case hn => rfl); (case hr => first | (go_simp; done) | (go_simp; rfl)); intro w907 hw; have n0_ : Aside0 (w907.heap[gb189]? = some (.cells #[.int .i64 a0_0, .int .i64 a0_1, .int .i64 a0_2, .int .i64 a0_3, .int .i64 a0_4, .bool a0_5] 25 (0, 0))) := ⟨(by rw [hw]; exact (by refine blk_far ?_ NB189_194.out _; exact BK189.out))⟩; have n1_ : Aside0 (w907.heap[gb190]? = some (.cells #[.int .i64 0, .int .i64 0, .int .i64 0, .int .i64 0, .int .i64 0, .bool false] 25 (0, 0))) := ⟨(by rw [hw]; exact (by refine blk_far ?_ NB190_194.out _; exact BK190.out))⟩; have n2_ : Aside0 (w907.heap[gb194]? = some (.cells #[.int .i64 a0_0, .int .i64 x11_25, .int .i64 a0_2, .int .i64 a2, .int .i64 a3, .bool false] 25 (0, 0))) := ⟨(by rw [hw]; exact (by refine blk_put (cs := #[.int .i64 a0_0, .int .i64 x11_25, .int .i64 a0_2, .int .i64 a2, .int .i64 0, .bool false]) ?_ 4 _ rfl; exact BK194.out))⟩; have n3_ : Aside0 (Below w.heap.size w w907) := ⟨(by rw [hw]; exact (be_ HB.out))⟩; clear hw BK189 BK190 BK194 HB; have BK189 := n0_; have BK190 := n1_; have BK194 := n2_; have HB := n3_; clear n0_ n1_ n2_ n3_; obtain ⟨hcz9070_0, hcz9070_1, hcz9070_2, hcz9070_3, hcz9070_4, hcz9070_5, hfz9070_0, hfz9070_1, hfz9070_2, hfz9070_3, hfz9070_4, hfz9070_5⟩ := cz6_ BK189.out; obtain ⟨hcz9071_0, hcz9071_1, hcz9071_2, hcz9071_3, hcz9071_4, hcz9071_5, hfz9071_0, hfz9071_1, hfz9071_2, hfz9071_3, hfz9071_4, hfz9071_5⟩ := cz6_ BK190.out; obtain ⟨hcz9072_0, hcz9072_1, hcz9072_2, hcz9072_3, hcz9072_4, hcz9072_5, hfz9072_0, hfz9072_1, hfz9072_2, hfz9072_3, hfz9072_4, hfz9072_5⟩ := cz6_ BK194.out))
           refine bodyPost_ret (results_ct rfl _ _ gb190 25 #[.int .i64 a0_0, .int .i64 x11_25, .int .i64 a0_2, .int .i64 a2, .int .i64 a3, .bool false] (0, 0) _ rfl (by refine bl_ ?_; refine blk_put (cs := #[.int .i64 a0_0, .int .i64 x11_25, .int .i64 a0_2, .int .i64 a2, .int .i64 a3, .bool false]) ?_ 5 _ rfl; refine bl_ ?_; refine blk_put (cs := #[.int .i64 a0_0, .int .i64 x11_25, .int .i64 a0_2, .int .i64 a2, .int .i64 0, .bool false]) ?_ 4 _ rfl; refine bl_ ?_; refine blk_put (cs := #[.int .i64 a0_0, .int .i64 x11_25, .int .i64 a0_2, .int .i64 0, .int .i64 0, .bool false]) ?_ 3 _ rfl; refine bl_ ?_; refine blk_put (cs := #[.int .i64 a0_0, .int .i64 x11_25, .int .i64 0, .int .i64 0, .int .i64 0, .bool false]) ?_ 2 _ rfl; refine bl_ ?_; refine blk_put (cs := #[.int .i64 a0_0, .int .i64 0, .int .i64 0, .int .i64 0, .int .i64 0, .bool false]) ?_ 1 _ rfl; refine bl_ ?_; refine blk_put (cs := #[.int .i64 0, .int .i64 0, .int .i64 0, .int .i64 0, .int .i64 0, .bool false]) ?_ 0 _ rfl; exact BK190.out) Try.underlying25 rfl (by kernel_rfl)) rfl ?_
           exact ⟨by first | rfl | (simp [errW_none, errW_some] <;> rfl) | (simp [*, errW_none, errW_some] <;> rfl), be_ HB.out⟩
          ·
           rw [if_neg c70] at H
           have c70b0 : (a1 == 2) = false := beq_eq_false_iff_ne.mpr c70
           have c70b1 : (a1 != 2) = true := bne_iff_ne.mpr c70
           simp only [Option.some.injEq, Prod.mk.injEq] at H
           obtain ⟨rfl, rfl, rfl, rfl, rfl, rfl, rfl⟩ := H
           have hnb78 := NB189_190.out
           have hnc78 := NB190_189.out
           obtain ⟨hcz79_0, hcz79_1, hcz79_2, hcz79_3, hcz79_4, hcz79_5, hfz79_0, hfz79_1, hfz79_2, hfz79_3, hfz79_4, hfz79_5⟩ := cz6_ BK189.out
           go_wp2_with (first | ((with_reducible refine gate_dst (N := 12) rfl ?_); refine box_event ?hg (N := 12) ?hd (cs := #[.int .i64 0, .int .i64 0, .int .i64 0, .int .i64 0, .int .i64 0, .bool false]) (t := 25) ?hr ?_; (case hd => rfl); (case hg => rfl); (case hr => first | (go_simp; done) | (go_simp; rfl)); intro gb194 hg w80 hbox hb; have n0_ := Aside0.mk (blk_below (bl_ BK189.out) hb); have n1_ := Aside0.mk (blk_below (bl_ BK190.out) hb); have n2_ := Aside0.mk (below_step (be_ HB.out) hb); have n3_ := Aside0.mk (hbox); have n4_ := Aside0.mk ((by rw [hg]; exact (below_size (be_ HB.out)) : w.heap.size ≤ gb194)); have n5_ := Aside0.mk ((by rw [hg]; exact (below_size (be_ HB.out)) : w.heap.size ≤ gb194)); have n6_ := Aside0.mk ((by rw [hg]; exact Nat.ne_of_lt (blk_lt (g := gb189) (o := .cells #[.int .i64 a0_0, .int .i64 a0_1, .int .i64 a0_2, .int .i64 a0_3, .int .i64 a0_4, .bool a0_5] 25 (0, 0)) (bl_ BK189.out)) : gb189 ≠ gb194)); have n7_ := Aside0.mk ((by rw [hg]; exact Nat.ne_of_gt (blk_lt (g := gb189) (o := .cells #[.int .i64 a0_0, .int .i64 a0_1, .int .i64 a0_2, .int .i64 a0_3, .int .i64 a0_4, .bool a0_5] 25 (0, 0)) (bl_ BK189.out)) : gb194 ≠ gb189)); have n8_ := Aside0.mk ((by rw [hg]; exact Nat.ne_of_lt (blk_lt (g := gb190) (o := .cells #[.int .i64 0, .int .i64 0, .int .i64 0, .int .i64 0, .int .i64 0, .bool false] 25 (0, 0)) (bl_ BK190.out)) : gb190 ≠ gb194)); have n9_ := Aside0.mk ((by rw [hg]; exact Nat.ne_of_gt (blk_lt (g := gb190) (o := .cells #[.int .i64 0, .int .i64 0, .int .i64 0, .int .i64 0, .int .i64 0, .bool false] 25 (0, 0)) (bl_ BK190.out)) : gb194 ≠ gb190)); clear BK189 BK190 HB; have BK189 := n0_; have BK190 := n1_; have HB := n2_; have BK194 := n3_; have GW194 := n4_; have GE194 := n5_; have NB189_194 := n6_; have NB194_189 := n7_; have NB190_194 := n8_; have NB194_190 := n9_; clear n0_ n1_ n2_ n3_ n4_ n5_ n6_ n7_ n8_ n9_; clear hb hbox hg; have hnb81 := NB194_189.out; have hnc81 := NB189_194.out; have hnb82 := NB194_190.out; have hnc82 := NB190_194.out; obtain ⟨hcz83_0, hcz83_1, hcz83_2, hcz83_3, hcz83_4, hcz83_5, hfz83_0, hfz83_1, hfz83_2, hfz83_3, hfz83_4, hfz83_5⟩ := cz6_ BK194.out; obtain ⟨hcz84_0, hcz84_1, hcz84_2, hcz84_3, hcz84_4, hcz84_5, hfz84_0, hfz84_1, hfz84_2, hfz84_3, hfz84_4, hfz84_5⟩ := cz6_ BK190.out) | ((with_reducible refine gate_store (t := 25) (p := 12) rfl ?_); refine store_event (t := 25) (p := 12) (v := ?vo_w908) (w1 := ((((((w80.setCell ⟨gb194, 0, none⟩ (.int .i64 a0_0)).setCell ⟨gb194, 1, none⟩ (.int .i64 x11_25)).setCell ⟨gb194, 2, none⟩ (.int .i64 a0_2)).setCell ⟨gb194, 3, none⟩ (.int .i64 a2)).setCell ⟨gb194, 4, none⟩ (.int .i64 0)).setCell ⟨gb194, 5, none⟩ (.bool false))) ?hg ?ho ?hn ?hr ?_; (case ho => rfl); (case hg => rfl); (case hn => rfl); (case hr => first | (go_simp; done) | (go_simp; rfl)); intro w908 hw; have n0_ : Aside0 (w908.heap[gb189]? = some (.cells #[.int .i64 a0_0, .int .i64 a0_1, .int .i64 a0_2, .int .i64 a0_3, .int .i64 a0_4, .bool a0_5] 25 (0, 0))) := ⟨(by rw [hw]; exact (by refine blk_far ?_ NB189_194.out _; refine blk_far ?_ NB189_194.out _; refine blk_far ?_ NB189_194.out _; refine blk_far ?_ NB189_194.out _; refine blk_far ?_ NB189_194.out _; refine blk_far ?_ NB189_194.out _; exact BK189.out))⟩; have n1_ : Aside0 (w908.heap[gb190]? = some (.cells #[.int .i64 0, .int .i64 0, .int .i64 0, .int .i64 0, .int .i64 0, .bool false] 25 (0, 0))) := ⟨(by rw [hw]; exact (by refine blk_far ?_ NB190_194.out _; refine blk_far ?_ NB190_194.out _; refine blk_far ?_ NB190_194.out _; refine blk_far ?_ NB190_194.out _; refine blk_far ?_ NB190_194.out _; refine blk_far ?_ NB190_194.out _; exact BK190.out))⟩; have n2_ : Aside0 (w908.heap[gb194]? = some (.cells #[.int .i64 a0_0, .int .i64 x11_25, .int .i64 a0_2, .int .i64 a2, .int .i64 0, .bool false] 25 (0, 0))) := ⟨(by rw [hw]; exact (by refine blk_put (cs := #[.int .i64 a0_0, .int .i64 x11_25, .int .i64 a0_2, .int .i64 a2, .int .i64 0, .bool false]) ?_ 5 _ rfl; refine blk_put (cs := #[.int .i64 a0_0, .int .i64 x11_25, .int .i64 a0_2, .int .i64 a2, .int .i64 0, .bool false]) ?_ 4 _ rfl; refine blk_put (cs := #[.int .i64 a0_0, .int .i64 x11_25, .int .i64 a0_2, .int .i64 0, .int .i64 0, .bool false]) ?_ 3 _ rfl; refine blk_put (cs := #[.int .i64 a0_0, .int .i64 x11_25, .int .i64 0, .int .i64 0, .int .i64 0, .bool false]) ?_ 2 _ rfl; refine blk_put (cs := #[.int .i64 a0_0, .int .i64 0, .int .i64 0, .int .i64 0, .int .i64 0, .bool false]) ?_ 1 _ rfl; refine blk_put (cs := #[.int .i64 0, .int .i64 0, .int .i64 0, .int .i64 0, .int .i64 0, .bool false]) ?_ 0 _ rfl; exact BK194.out))⟩; have n3_ : Aside0 (Below w.heap.size w w908) := ⟨(by rw [hw]; exact (be_ HB.out))⟩; clear hw BK189 BK190 BK194 HB; have BK189 := n0_; have BK190 := n1_; have BK194 := n2_; have HB := n3_; clear n0_ n1_ n2_ n3_; obtain ⟨hcz9080_0, hcz9080_1, hcz9080_2, hcz9080_3, hcz9080_4, hcz9080_5, hfz9080_0, hfz9080_1, hfz9080_2, hfz9080_3, hfz9080_4, hfz9080_5⟩ := cz6_ BK189.out; obtain ⟨hcz9081_0, hcz9081_1, hcz9081_2, hcz9081_3, hcz9081_4, hcz9081_5, hfz9081_0, hfz9081_1, hfz9081_2, hfz9081_3, hfz9081_4, hfz9081_5⟩ := cz6_ BK190.out; obtain ⟨hcz9082_0, hcz9082_1, hcz9082_2, hcz9082_3, hcz9082_4, hcz9082_5, hfz9082_0, hfz9082_1, hfz9082_2, hfz9082_3, hfz9082_4, hfz9082_5⟩ := cz6_ BK194.out))
           refine bodyPost_ret (results_ct rfl _ _ gb190 25 #[.int .i64 a0_0, .int .i64 x11_25, .int .i64 a0_2, .int .i64 a2, .int .i64 0, .bool false] (0, 0) _ rfl (by refine bl_ ?_; refine blk_put (cs := #[.int .i64 a0_0, .int .i64 x11_25, .int .i64 a0_2, .int .i64 a2, .int .i64 0, .bool false]) ?_ 5 _ rfl; refine bl_ ?_; refine blk_put (cs := #[.int .i64 a0_0, .int .i64 x11_25, .int .i64 a0_2, .int .i64 a2, .int .i64 0, .bool false]) ?_ 4 _ rfl; refine bl_ ?_; refine blk_put (cs := #[.int .i64 a0_0, .int .i64 x11_25, .int .i64 a0_2, .int .i64 0, .int .i64 0, .bool false]) ?_ 3 _ rfl; refine bl_ ?_; refine blk_put (cs := #[.int .i64 a0_0, .int .i64 x11_25, .int .i64 0, .int .i64 0, .int .i64 0, .bool false]) ?_ 2 _ rfl; refine bl_ ?_; refine blk_put (cs := #[.int .i64 a0_0, .int .i64 0, .int .i64 0, .int .i64 0, .int .i64 0, .bool false]) ?_ 1 _ rfl; refine bl_ ?_; refine blk_put (cs := #[.int .i64 0, .int .i64 0, .int .i64 0, .int .i64 0, .int .i64 0, .bool false]) ?_ 0 _ rfl; exact BK190.out) Try.underlying25 rfl (by kernel_rfl)) rfl ?_
           exact ⟨by first | rfl | (simp [errW_none, errW_some] <;> rfl) | (simp [*, errW_none, errW_some] <;> rfl), be_ HB.out⟩

end Go.Proofs.Ythafbkpoepblgad.MFnExactPlayConn
