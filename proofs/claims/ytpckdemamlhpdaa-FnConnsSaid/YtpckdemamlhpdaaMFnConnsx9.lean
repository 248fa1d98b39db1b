-- Written by a program of this session over the kit's print, with stand-ins for the functions that the print leaves; Lean checks it.
import Derived.Test.YtpckdemamlhpdaaMFnConnsx0
import Derived.Test.YtpckdemamlhpdaaMFnConnsx7
import Derived.Test.YtpckdemamlhpdaaMFnConnsx8
namespace Go.Proofs.Ytpckdemamlhpdaa.MFnConns
open Go.RowKit Go.Proofs.YtpckdemamlhpdaaW.PrintWords Go.Proofs.YtpckdemamlhpdaaW.PrintLast Go.Proofs.YtpckdemamlhpdaaW.PrintMore
attribute [local go_sem] max2_int min2_int max_two min_two max_three min_three max_four min_four   -- for this text's walks alone
set_option linter.unusedVariables false
set_option linter.unusedSimpArgs false

/-! ### spec_StepConn: function 11 -/
mutual
def spec_StepConn.j0 : Nat → Int → Int → Int → Bool → Int → Int → Int → Int → Int → Bool → Option (Int × Int × Int × Int × Int × Bool × Bool)
  | 0, _, _, _, _, _, _, _, _, _, _ => none
  | k + 1, x1, x2, x3, x21, x191000, x191001, x191002, x191003, x191004, x191005 => if x21 = true then (some (x191000, x191001, x191002, x191003, x191004, x191005, false)) else ((spec_l08To.f k x191001 x1).bind fun t194 => (if t194 < 0 then (spec_StepConn.j1 k x1 x2 x3 t194 true x191000 x191001 x191002 x191003 x191004 x191005) else (if x1 = 2 then ((spec_l01In.f x3 1 1000000000).bind fun t195 => (spec_StepConn.j1 k x1 x2 x3 t194 (!t195) x191000 x191001 x191002 x191003 x191004 x191005)) else (spec_StepConn.j1 k x1 x2 x3 t194 false x191000 x191001 x191002 x191003 x191004 x191005))))
def spec_StepConn.j1 : Nat → Int → Int → Int → Int → Bool → Int → Int → Int → Int → Int → Bool → Option (Int × Int × Int × Int × Int × Bool × Bool)
  | 0, _, _, _, _, _, _, _, _, _, _, _ => none
  | k + 1, x1, x2, x3, x10, x37, x191000, x191001, x191002, x191003, x191004, x191005 => if x37 = true then (some (x191000, x191001, x191002, x191003, x191004, x191005, false)) else (if x1 = 0 then (if x1 = 2 then (some (x191000, x10, x2, x2, x3, false, true)) else (some (x191000, x10, x2, x2, 0, false, true))) else (if x1 = 2 then (some (x191000, x10, x191002, x2, x3, false, true)) else (some (x191000, x10, x191002, x2, 0, false, true))))
end
def spec_StepConn.f (k : Nat) (a0_0 : Int) (a0_1 : Int) (a0_2 : Int) (a0_3 : Int) (a0_4 : Int) (a0_5 : Bool) (a1 : Int) (a2 : Int) (a3 : Int) : Option (Int × Int × Int × Int × Int × Bool × Bool) := (spec_ConnOk.f k a0_0 a0_1 a0_2 a0_3 a0_4 a0_5).bind fun t192 => (if t192 = true then ((spec_l01In.f a2 a0_3 1000000000).bind fun t193 => (spec_StepConn.j0 k a1 a2 a3 (!t193) a0_0 a0_1 a0_2 a0_3 a0_4 a0_5)) else (spec_StepConn.j0 k a1 a2 a3 true a0_0 a0_1 a0_2 a0_3 a0_4 a0_5))
theorem spec_StepConn.mono_l : ∀ k, (∀ y0 y1 y2 y3 y4 y5 y6 y7 y8 y9, LeO (spec_StepConn.j0 k y0 y1 y2 y3 y4 y5 y6 y7 y8 y9) (spec_StepConn.j0 (k + 1) y0 y1 y2 y3 y4 y5 y6 y7 y8 y9)) ∧ (∀ y0 y1 y2 y3 y4 y5 y6 y7 y8 y9 y10, LeO (spec_StepConn.j1 k y0 y1 y2 y3 y4 y5 y6 y7 y8 y9 y10) (spec_StepConn.j1 (k + 1) y0 y1 y2 y3 y4 y5 y6 y7 y8 y9 y10))
  | 0 => ⟨fun _ _ _ _ _ _ _ _ _ _ r h => by simp [spec_StepConn.j0] at h, fun _ _ _ _ _ _ _ _ _ _ _ r h => by simp [spec_StepConn.j1] at h⟩
  | k + 1 => by
    obtain ⟨ih0, ih1⟩ := spec_StepConn.mono_l k
    refine ⟨?_, ?_⟩
    · intro y0 y1 y2 y3 y4 y5 y6 y7 y8 y9
      unfold spec_StepConn.j0
      repeat' first
      | (with_reducible exact ih0 _ _ _ _ _ _ _ _ _ _)
      | (with_reducible exact ih1 _ _ _ _ _ _ _ _ _ _ _)
      | (with_reducible exact spec_ConnOk.mono _ _ _ _ _ _ _)
      | (with_reducible exact spec_l08To.mono _ _ _)
      | (with_reducible exact LeO.refl _)
      | (with_reducible exact LeO.none _)
      | (with_reducible refine LeO.ite ?_ ?_)
      | (with_reducible refine LeO.bind ?_ (fun _ => ?_))
      | exact ih0 _ _ _ _ _ _ _ _ _ _
      | exact ih1 _ _ _ _ _ _ _ _ _ _ _
      | exact spec_ConnOk.mono _ _ _ _ _ _ _
      | exact spec_l08To.mono _ _ _
      | exact LeO.none _
      | refine LeO.ite ?_ ?_
      | refine LeO.bind ?_ (fun _ => ?_)
    · intro y0 y1 y2 y3 y4 y5 y6 y7 y8 y9 y10
      unfold spec_StepConn.j1
      repeat' first
      | (with_reducible exact ih0 _ _ _ _ _ _ _ _ _ _)
      | (with_reducible exact ih1 _ _ _ _ _ _ _ _ _ _ _)
      | (with_reducible exact spec_ConnOk.mono _ _ _ _ _ _ _)
      | (with_reducible exact spec_l08To.mono _ _ _)
      | (with_reducible exact LeO.refl _)
      | (with_reducible exact LeO.none _)
      | (with_reducible refine LeO.ite ?_ ?_)
      | (with_reducible refine LeO.bind ?_ (fun _ => ?_))
      | exact ih0 _ _ _ _ _ _ _ _ _ _
      | exact ih1 _ _ _ _ _ _ _ _ _ _ _
      | exact spec_ConnOk.mono _ _ _ _ _ _ _
      | exact spec_l08To.mono _ _ _
      | exact LeO.none _
      | refine LeO.ite ?_ ?_
      | refine LeO.bind ?_ (fun _ => ?_)
theorem spec_StepConn.mono : ∀ a0 a1 a2 a3 a4 a5 a6 a7 a8 k, LeO (spec_StepConn.f k a0 a1 a2 a3 a4 a5 a6 a7 a8) (spec_StepConn.f (k + 1) a0 a1 a2 a3 a4 a5 a6 a7 a8) := by
  intro a0 a1 a2 a3 a4 a5 a6 a7 a8 k
  obtain ⟨ih0, ih1⟩ := spec_StepConn.mono_l k
  unfold spec_StepConn.f
  repeat' first
      | (with_reducible exact ih0 _ _ _ _ _ _ _ _ _ _)
      | (with_reducible exact ih1 _ _ _ _ _ _ _ _ _ _ _)
      | (with_reducible exact spec_ConnOk.mono _ _ _ _ _ _ _)
      | (with_reducible exact spec_l08To.mono _ _ _)
      | (with_reducible exact LeO.refl _)
      | (with_reducible exact LeO.none _)
      | (with_reducible refine LeO.ite ?_ ?_)
      | (with_reducible refine LeO.bind ?_ (fun _ => ?_))
      | exact ih0 _ _ _ _ _ _ _ _ _ _
      | exact ih1 _ _ _ _ _ _ _ _ _ _ _
      | exact spec_ConnOk.mono _ _ _ _ _ _ _
      | exact spec_l08To.mono _ _ _
      | exact LeO.none _
      | refine LeO.ite ?_ ?_
      | refine LeO.bind ?_ (fun _ => ?_)
set_option maxHeartbeats 40000000 in
set_option maxRecDepth 100000 in
theorem spec_StepConn.calls (k : Nat) (a0_0 : Int) (a0_1 : Int) (a0_2 : Int) (a0_3 : Int) (a0_4 : Int) (a0_5 : Bool) (a1 : Int) (a2 : Int) (a3 : Int) (r1 : Int) (r2 : Int) (r3 : Int) (r4 : Int) (r5 : Int) (r6 : Bool) (r7 : Bool) (w : World) (h : spec_StepConn.f k a0_0 a0_1 a0_2 a0_3 a0_4 a0_5 a1 a2 a3 = some (r1, r2, r3, r4, r5, r6, r7)) :
    Calls Try.prog 11 #[.agg #[.int .i64 a0_0, .int .i64 a0_1, .int .i64 a0_2, .int .i64 a0_3, .int .i64 a0_4, .bool a0_5], .int .i64 a1, .int .i64 a2, .int .i64 a3] w fun e w' => e = .returned (.tuple #[.agg #[.int .i64 r1, .int .i64 r2, .int .i64 r3, .int .i64 r4, .int .i64 r5, .bool r6], .bool r7]) ∧ Below w.heap.size w w' := by
  have hu24 := Try.underlying24
  have HB := Aside0.mk (Below.refl w.heap.size w)
  have H : ((spec_ConnOk.f k a0_0 a0_1 a0_2 a0_3 a0_4 a0_5).bind fun t192 => (if t192 = true then ((spec_l01In.f a2 a0_3 1000000000).bind fun t193 => (spec_StepConn.j0 k a1 a2 a3 (!t193) a0_0 a0_1 a0_2 a0_3 a0_4 a0_5)) else (spec_StepConn.j0 k a1 a2 a3 true a0_0 a0_1 a0_2 a0_3 a0_4 a0_5))) = some (r1, r2, r3, r4, r5, r6, r7) := h
  clear h
  have HC5 := Aside0.mk H
  clear H
  go_enter Try.func11, Try.ntmps11
  go_upto_region 1 with (first | ((with_reducible refine gate_dst (N := 4) rfl ?_); refine box_event ?hg (N := 4) ?hd (cs := #[.int .i64 a0_0, .int .i64 a0_1, .int .i64 a0_2, .int .i64 a0_3, .int .i64 a0_4, .bool a0_5]) (t := 24) ?hr ?_; (case hd => rfl); (case hg => rfl); (case hr => first | (go_simp; done) | (go_simp; rfl)); intro gb190 hg w6 hbox hb; have n0_ := Aside0.mk (below_step (be_ HB.out) hb); have n1_ := Aside0.mk (hbox); have n2_ := Aside0.mk ((by rw [hg]; exact (below_size (be_ HB.out)) : w.heap.size ≤ gb190)); have n3_ := Aside0.mk ((by rw [hg]; exact (below_size (be_ HB.out)) : w.heap.size ≤ gb190)); clear HB; have HB := n0_; have BK190 := n1_; have GW190 := n2_; have GE190 := n3_; clear n0_ n1_ n2_ n3_; clear hb hbox hg) | ((with_reducible refine gate_dst (N := 8) rfl ?_); refine box_event ?hg (N := 8) ?hd (cs := #[.int .i64 0, .int .i64 0, .int .i64 0, .int .i64 0, .int .i64 0, .bool false]) (t := 24) ?hr ?_; (case hd => rfl); (case hg => rfl); (case hr => first | (go_simp; done) | (go_simp; rfl)); intro gb191 hg w7 hbox hb; have n0_ := Aside0.mk (blk_below (g := gb190) (o := .cells #[.int .i64 a0_0, .int .i64 a0_1, .int .i64 a0_2, .int .i64 a0_3, .int .i64 a0_4, .bool a0_5] 24 (0, 0)) (bl_ BK190.out) hb); have n1_ := Aside0.mk (below_step (be_ HB.out) hb); have n2_ := Aside0.mk (hbox); have n3_ := Aside0.mk ((by rw [hg]; exact (below_size (be_ HB.out)) : w.heap.size ≤ gb191)); have n4_ := Aside0.mk ((by rw [hg]; exact (below_size (be_ HB.out)) : w.heap.size ≤ gb191)); have n5_ := Aside0.mk ((by rw [hg]; exact Nat.ne_of_lt (blk_lt (g := gb190) (o := .cells #[.int .i64 a0_0, .int .i64 a0_1, .int .i64 a0_2, .int .i64 a0_3, .int .i64 a0_4, .bool a0_5] 24 (0, 0)) (bl_ BK190.out)) : gb190 ≠ gb191)); have n6_ := Aside0.mk ((by rw [hg]; exact Nat.ne_of_gt (blk_lt (g := gb190) (o := .cells #[.int .i64 a0_0, .int .i64 a0_1, .int .i64 a0_2, .int .i64 a0_3, .int .i64 a0_4, .bool a0_5] 24 (0, 0)) (bl_ BK190.out)) : gb191 ≠ gb190)); clear BK190 HB; have BK190 := n0_; have HB := n1_; have BK191 := n2_; have GW191 := n3_; have GE191 := n4_; have NB190_191 := n5_; have NB191_190 := n6_; clear n0_ n1_ n2_ n3_ n4_ n5_ n6_; clear hb hbox hg))
  (try simp only [Act.put, List.setIfInBounds_toArray, List.set_cons_zero, List.set_cons_succ])
  go_cut [21] (fun zv21 wc => ∃ (kq : Nat) (x21_4 : Bool), zv21 = .bool x21_4 ∧ Aside0 (spec_StepConn.j0 kq a1 a2 a3 x21_4 a0_0 a0_1 a0_2 a0_3 a0_4 a0_5 = some (r1, r2, r3, r4, r5, r6, r7)) ∧ Aside0 (kq ≤ k) ∧ Aside0 (wc.heap[gb190]? = some (.cells #[.int .i64 a0_0, .int .i64 a0_1, .int .i64 a0_2, .int .i64 a0_3, .int .i64 a0_4, .bool a0_5] 24 (0, 0))) ∧ Aside0 (wc.heap[gb191]? = some (.cells #[.int .i64 0, .int .i64 0, .int .i64 0, .int .i64 0, .int .i64 0, .bool false] 24 (0, 0))) ∧ Aside0 (Below w.heap.size w wc))
  case first =>
    have H := HC5.out
    clear HC5
    replace H := Option.bind_eq_some_iff.mp H
    obtain ⟨t192, A80, H⟩ := H
    replace H : (if t192 = true then ((spec_l01In.f a2 a0_3 1000000000).bind fun t193 => (spec_StepConn.j0 k a1 a2 a3 (!t193) a0_0 a0_1 a0_2 a0_3 a0_4 a0_5)) else (spec_StepConn.j0 k a1 a2 a3 true a0_0 a0_1 a0_2 a0_3 a0_4 a0_5)) = some (r1, r2, r3, r4, r5, r6, r7) := H
    have A8 := Aside0.mk A80
    clear A80
    by_cases c9 : t192 = true
    · subst c9
      have H1 : ((spec_l01In.f a2 a0_3 1000000000).bind fun t193 => (spec_StepConn.j0 k a1 a2 a3 (!t193) a0_0 a0_1 a0_2 a0_3 a0_4 a0_5)) = some (r1, r2, r3, r4, r5, r6, r7) := by rw [if_pos rfl] at H; exact H
      clear H
      have H := H1
      clear H1
      replace H := Option.bind_eq_some_iff.mp H
      obtain ⟨t193, A100, H⟩ := H
      replace H : (spec_StepConn.j0 k a1 a2 a3 (!t193) a0_0 a0_1 a0_2 a0_3 a0_4 a0_5) = some (r1, r2, r3, r4, r5, r6, r7) := H
      have A10 := Aside0.mk A100
      clear A100
      have H' := Aside0.mk H
      clear H
      have hnb11 := NB190_191.out
      have hnc11 := NB191_190.out
      have hcz12_0 : w7.cell? ⟨gb190, 0, none⟩ = some (.int .i64 a0_0) := (blk_cell BK190.out 0).trans rfl
      have hcz12_1 : w7.cell? ⟨gb190, 1, none⟩ = some (.int .i64 a0_1) := (blk_cell BK190.out 1).trans rfl
      have hcz12_2 : w7.cell? ⟨gb190, 2, none⟩ = some (.int .i64 a0_2) := (blk_cell BK190.out 2).trans rfl
      have hcz12_3 : w7.cell? ⟨gb190, 3, none⟩ = some (.int .i64 a0_3) := (blk_cell BK190.out 3).trans rfl
      have hcz12_4 : w7.cell? ⟨gb190, 4, none⟩ = some (.int .i64 a0_4) := (blk_cell BK190.out 4).trans rfl
      have hcz12_5 : w7.cell? ⟨gb190, 5, none⟩ = some (.bool a0_5) := (blk_cell BK190.out 5).trans rfl
      have hfz12_0 := blk_frozen BK190.out 0
      have hfz12_1 := blk_frozen BK190.out 1
      have hfz12_2 := blk_frozen BK190.out 2
      have hfz12_3 := blk_frozen BK190.out 3
      have hfz12_4 := blk_frozen BK190.out 4
      have hfz12_5 := blk_frozen BK190.out 5
      go_wp2_with (first | ((with_reducible refine gate_callee (f := 42) rfl ?_); refine goesL_ (some 13) rfl rfl Try.func42 (by kernel_rfl) rfl #[.agg #[.int .i64 a0_0, .int .i64 a0_1, .int .i64 a0_2, .int .i64 a0_3, .int .i64 a0_4, .bool a0_5]] rfl (by (try simp only [List.map_toArray, List.map_cons, List.map_nil]); first | done | rfl | (simp only [List.length_drop, List.length_take]; rfl)) ?_; (with_reducible refine (spec_ConnOk.calls k a0_0 a0_1 a0_2 a0_3 a0_4 a0_5 true _ A8.out).mono ?_); rintro e w13 ⟨rfl, hb⟩; refine ⟨_, rfl, ?_⟩; have n0_ := Aside0.mk (blk_below (g := gb190) (o := .cells #[.int .i64 a0_0, .int .i64 a0_1, .int .i64 a0_2, .int .i64 a0_3, .int .i64 a0_4, .bool a0_5] 24 (0, 0)) (bl_ BK190.out) hb); have n1_ := Aside0.mk (blk_below (g := gb191) (o := .cells #[.int .i64 0, .int .i64 0, .int .i64 0, .int .i64 0, .int .i64 0, .bool false] 24 (0, 0)) (bl_ BK191.out) hb); have n2_ := Aside0.mk (below_step (be_ HB.out) hb); clear BK190 BK191 HB; have BK190 := n0_; have BK191 := n1_; have HB := n2_; clear n0_ n1_ n2_; (try clear hb); (try clear hb2); (try clear hk); (try clear hi); obtain ⟨hcz14_0, hcz14_1, hcz14_2, hcz14_3, hcz14_4, hcz14_5, hfz14_0, hfz14_1, hfz14_2, hfz14_3, hfz14_4, hfz14_5⟩ := cz6_ BK190.out) | (go_at_call 44; (with_reducible refine (spec_l01In.calls a2 a0_3 1000000000 t193 _ A10.out).mono ?_); rintro e w' ⟨rfl, ⟨nd, rfl⟩⟩))
      go_meet
      case rel => exact ⟨_, (!t193), (by first | rfl | (simp; done) | (simp [*]; done)), H', ⟨by first | omega | exact Nat.le_refl _⟩, ⟨by refine bl_ ?_; exact BK190.out⟩, ⟨by refine bl_ ?_; exact BK191.out⟩, ⟨be_ HB.out⟩⟩
    · replace c9 := Bool.eq_false_iff.mpr c9
      subst c9
      have H1 : (spec_StepConn.j0 k a1 a2 a3 true a0_0 a0_1 a0_2 a0_3 a0_4 a0_5) = some (r1, r2, r3, r4, r5, r6, r7) := by rw [if_neg (show ¬ (false = true) by decide)] at H; exact H
      clear H
      have H := H1
      clear H1
      have H' := Aside0.mk H
      clear H
      have hnb15 := NB190_191.out
      have hnc15 := NB191_190.out
      have hcz16_0 : w7.cell? ⟨gb190, 0, none⟩ = some (.int .i64 a0_0) := (blk_cell BK190.out 0).trans rfl
      have hcz16_1 : w7.cell? ⟨gb190, 1, none⟩ = some (.int .i64 a0_1) := (blk_cell BK190.out 1).trans rfl
      have hcz16_2 : w7.cell? ⟨gb190, 2, none⟩ = some (.int .i64 a0_2) := (blk_cell BK190.out 2).trans rfl
      have hcz16_3 : w7.cell? ⟨gb190, 3, none⟩ = some (.int .i64 a0_3) := (blk_cell BK190.out 3).trans rfl
      have hcz16_4 : w7.cell? ⟨gb190, 4, none⟩ = some (.int .i64 a0_4) := (blk_cell BK190.out 4).trans rfl
      have hcz16_5 : w7.cell? ⟨gb190, 5, none⟩ = some (.bool a0_5) := (blk_cell BK190.out 5).trans rfl
      have hfz16_0 := blk_frozen BK190.out 0
      have hfz16_1 := blk_frozen BK190.out 1
      have hfz16_2 := blk_frozen BK190.out 2
      have hfz16_3 := blk_frozen BK190.out 3
      have hfz16_4 := blk_frozen BK190.out 4
      have hfz16_5 := blk_frozen BK190.out 5
      go_wp2_with (first | ((with_reducible refine gate_callee (f := 42) rfl ?_); refine goesL_ (some 13) rfl rfl Try.func42 (by kernel_rfl) rfl #[.agg #[.int .i64 a0_0, .int .i64 a0_1, .int .i64 a0_2, .int .i64 a0_3, .int .i64 a0_4, .bool a0_5]] rfl (by (try simp only [List.map_toArray, List.map_cons, List.map_nil]); first | done | rfl | (simp only [List.length_drop, List.length_take]; rfl)) ?_; (with_reducible refine (spec_ConnOk.calls k a0_0 a0_1 a0_2 a0_3 a0_4 a0_5 false _ A8.out).mono ?_); rintro e w17 ⟨rfl, hb⟩; refine ⟨_, rfl, ?_⟩; have n0_ := Aside0.mk (blk_below (g := gb190) (o := .cells #[.int .i64 a0_0, .int .i64 a0_1, .int .i64 a0_2, .int .i64 a0_3, .int .i64 a0_4, .bool a0_5] 24 (0, 0)) (bl_ BK190.out) hb); have n1_ := Aside0.mk (blk_below (g := gb191) (o := .cells #[.int .i64 0, .int .i64 0, .int .i64 0, .int .i64 0, .int .i64 0, .bool false] 24 (0, 0)) (bl_ BK191.out) hb); have n2_ := Aside0.mk (below_step (be_ HB.out) hb); clear BK190 BK191 HB; have BK190 := n0_; have BK191 := n1_; have HB := n2_; clear n0_ n1_ n2_; (try clear hb); (try clear hb2); (try clear hk); (try clear hi)))
      go_meet
      case rel => exact ⟨_, (true), (by first | rfl | (simp; done) | (simp [*]; done)), H', ⟨by first | omega | exact Nat.le_refl _⟩, ⟨by refine bl_ ?_; exact BK190.out⟩, ⟨by refine bl_ ?_; exact BK191.out⟩, ⟨be_ HB.out⟩⟩
  case rest =>
    clear HC5
    try clear c1
    try clear p2
    try clear c4
    try clear c9
    try clear c11
    try clear c15
    try clear hcz12_0
    try clear hcz12_1
    try clear hcz12_2
    try clear hcz12_3
    try clear hcz12_4
    try clear hcz12_5
    try clear hcz14_0
    try clear hcz14_1
    try clear hcz14_2
    try clear hcz14_3
    try clear hcz14_4
    try clear hcz14_5
    try clear hcz16_0
    try clear hcz16_1
    try clear hcz16_2
    try clear hcz16_3
    try clear hcz16_4
    try clear hcz16_5
    try clear hfz12_0
    try clear hfz12_1
    try clear hfz12_2
    try clear hfz12_3
    try clear hfz12_4
    try clear hfz12_5
    try clear hfz14_0
    try clear hfz14_1
    try clear hfz14_2
    try clear hfz14_3
    try clear hfz14_4
    try clear hfz14_5
    try clear hfz16_0
    try clear hfz16_1
    try clear hfz16_2
    try clear hfz16_3
    try clear hfz16_4
    try clear hfz16_5
    obtain ⟨kq, x21_4, rfl, HA, HJ4, BK190, BK191, HB⟩ := hcut
    cases kq with
    | zero => exact absurd HA.out (by simp [spec_StepConn.j0])
    | succ kj4 =>
      have H := HA.out
      clear HA
      simp only [spec_StepConn.j0] at H
      by_cases c18 : x21_4 = true
      · subst c18
        have H1 : (some (a0_0, a0_1, a0_2, a0_3, a0_4, a0_5, false)) = some (r1, r2, r3, r4, r5, r6, r7) := by rw [if_pos rfl] at H; exact H
        clear H
        have H := H1
        clear H1
        simp only [Option.some.injEq, Prod.mk.injEq] at H
        obtain ⟨rfl, rfl, rfl, rfl, rfl, rfl, rfl⟩ := H
        have hnb19 := NB190_191.out
        have hnc19 := NB191_190.out
        have hcz20_0 : wc.cell? ⟨gb190, 0, none⟩ = some (.int .i64 a0_0) := (blk_cell BK190.out 0).trans rfl
        have hcz20_1 : wc.cell? ⟨gb190, 1, none⟩ = some (.int .i64 a0_1) := (blk_cell BK190.out 1).trans rfl
        have hcz20_2 : wc.cell? ⟨gb190, 2, none⟩ = some (.int .i64 a0_2) := (blk_cell BK190.out 2).trans rfl
        have hcz20_3 : wc.cell? ⟨gb190, 3, none⟩ = some (.int .i64 a0_3) := (blk_cell BK190.out 3).trans rfl
        have hcz20_4 : wc.cell? ⟨gb190, 4, none⟩ = some (.int .i64 a0_4) := (blk_cell BK190.out 4).trans rfl
        have hcz20_5 : wc.cell? ⟨gb190, 5, none⟩ = some (.bool a0_5) := (blk_cell BK190.out 5).trans rfl
        have hfz20_0 := blk_frozen BK190.out 0
        have hfz20_1 := blk_frozen BK190.out 1
        have hfz20_2 := blk_frozen BK190.out 2
        have hfz20_3 := blk_frozen BK190.out 3
        have hfz20_4 := blk_frozen BK190.out 4
        have hfz20_5 := blk_frozen BK190.out 5
        have hcz21_0 : wc.cell? ⟨gb191, 0, none⟩ = some (.int .i64 0) := (blk_cell BK191.out 0).trans rfl
        have hcz21_1 : wc.cell? ⟨gb191, 1, none⟩ = some (.int .i64 0) := (blk_cell BK191.out 1).trans rfl
        have hcz21_2 : wc.cell? ⟨gb191, 2, none⟩ = some (.int .i64 0) := (blk_cell BK191.out 2).trans rfl
        have hcz21_3 : wc.cell? ⟨gb191, 3, none⟩ = some (.int .i64 0) := (blk_cell BK191.out 3).trans rfl
        have hcz21_4 : wc.cell? ⟨gb191, 4, none⟩ = some (.int .i64 0) := (blk_cell BK191.out 4).trans rfl
        have hcz21_5 : wc.cell? ⟨gb191, 5, none⟩ = some (.bool false) := (blk_cell BK191.out 5).trans rfl
        have hfz21_0 := blk_frozen BK191.out 0
        have hfz21_1 := blk_frozen BK191.out 1
        have hfz21_2 := blk_frozen BK191.out 2
        have hfz21_3 := blk_frozen BK191.out 3
        have hfz21_4 := blk_frozen BK191.out 4
        have hfz21_5 := blk_frozen BK191.out 5
        go_wp2
        refine bodyPost_ret (results_ct rfl _ _ gb191 24 #[.int .i64 a0_0, .int .i64 a0_1, .int .i64 a0_2, .int .i64 a0_3, .int .i64 a0_4, .bool a0_5] (0, 0) _ rfl (by refine bl_ ?_; refine blk_put (cs := #[.int .i64 a0_0, .int .i64 a0_1, .int .i64 a0_2, .int .i64 a0_3, .int .i64 a0_4, .bool false]) ?_ 5 _ rfl; refine bl_ ?_; refine blk_put (cs := #[.int .i64 a0_0, .int .i64 a0_1, .int .i64 a0_2, .int .i64 a0_3, .int .i64 0, .bool false]) ?_ 4 _ rfl; refine bl_ ?_; refine blk_put (cs := #[.int .i64 a0_0, .int .i64 a0_1, .int .i64 a0_2, .int .i64 0, .int .i64 0, .bool false]) ?_ 3 _ rfl; refine bl_ ?_; refine blk_put (cs := #[.int .i64 a0_0, .int .i64 a0_1, .int .i64 0, .int .i64 0, .int .i64 0, .bool false]) ?_ 2 _ rfl; refine bl_ ?_; refine blk_put (cs := #[.int .i64 a0_0, .int .i64 0, .int .i64 0, .int .i64 0, .int .i64 0, .bool false]) ?_ 1 _ rfl; refine bl_ ?_; refine blk_put (cs := #[.int .i64 0, .int .i64 0, .int .i64 0, .int .i64 0, .int .i64 0, .bool false]) ?_ 0 _ rfl; refine bl_ ?_; exact BK191.out) Try.underlying24 rfl (by kernel_rfl)) rfl ?_
        exact ⟨by first | rfl | (simp [errW_none, errW_some] <;> rfl) | (simp [*, errW_none, errW_some] <;> rfl), be_ HB.out⟩
      · replace c18 := Bool.eq_false_iff.mpr c18
        subst c18
        have H1 : ((spec_l08To.f kj4 a0_1 a1).bind fun t194 => (if t194 < 0 then (spec_StepConn.j1 kj4 a1 a2 a3 t194 true a0_0 a0_1 a0_2 a0_3 a0_4 a0_5) else (if a1 = 2 then ((spec_l01In.f a3 1 1000000000).bind fun t195 => (spec_StepConn.j1 kj4 a1 a2 a3 t194 (!t195) a0_0 a0_1 a0_2 a0_3 a0_4 a0_5)) else (spec_StepConn.j1 kj4 a1 a2 a3 t194 false a0_0 a0_1 a0_2 a0_3 a0_4 a0_5)))) = some (r1, r2, r3, r4, r5, r6, r7) := by rw [if_neg (show ¬ (false = true) by decide)] at H; exact H
        clear H
        have H := H1
        clear H1
        replace H := Option.bind_eq_some_iff.mp H
        obtain ⟨t194, A220, H⟩ := H
        replace H : (if t194 < 0 then (spec_StepConn.j1 kj4 a1 a2 a3 t194 true a0_0 a0_1 a0_2 a0_3 a0_4 a0_5) else (if a1 = 2 then ((spec_l01In.f a3 1 1000000000).bind fun t195 => (spec_StepConn.j1 kj4 a1 a2 a3 t194 (!t195) a0_0 a0_1 a0_2 a0_3 a0_4 a0_5)) else (spec_StepConn.j1 kj4 a1 a2 a3 t194 false a0_0 a0_1 a0_2 a0_3 a0_4 a0_5))) = some (r1, r2, r3, r4, r5, r6, r7) := H
        have A22 := Aside0.mk A220
        clear A220
        have HC23 := Aside0.mk H
        clear H
        have hnb24 := NB190_191.out
        have hnc24 := NB191_190.out
        have hcz25_0 : wc.cell? ⟨gb190, 0, none⟩ = some (.int .i64 a0_0) := (blk_cell BK190.out 0).trans rfl
        have hcz25_1 : wc.cell? ⟨gb190, 1, none⟩ = some (.int .i64 a0_1) := (blk_cell BK190.out 1).trans rfl
        have hcz25_2 : wc.cell? ⟨gb190, 2, none⟩ = some (.int .i64 a0_2) := (blk_cell BK190.out 2).trans rfl
        have hcz25_3 : wc.cell? ⟨gb190, 3, none⟩ = some (.int .i64 a0_3) := (blk_cell BK190.out 3).trans rfl
        have hcz25_4 : wc.cell? ⟨gb190, 4, none⟩ = some (.int .i64 a0_4) := (blk_cell BK190.out 4).trans rfl
        have hcz25_5 : wc.cell? ⟨gb190, 5, none⟩ = some (.bool a0_5) := (blk_cell BK190.out 5).trans rfl
        have hfz25_0 := blk_frozen BK190.out 0
        have hfz25_1 := blk_frozen BK190.out 1
        have hfz25_2 := blk_frozen BK190.out 2
        have hfz25_3 := blk_frozen BK190.out 3
        have hfz25_4 := blk_frozen BK190.out 4
        have hfz25_5 := blk_frozen BK190.out 5
        go_upto_region 4 with (first | ((with_reducible refine gate_callee (f := 45) rfl ?_); refine goesL_ (some 26) rfl rfl Try.func45 (by kernel_rfl) rfl #[.int .i64 a0_1, .int .i64 a1] rfl (by (try simp only [List.map_toArray, List.map_cons, List.map_nil]); first | done | rfl | (simp only [List.length_drop, List.length_take]; rfl)) ?_; (with_reducible refine (spec_l08To.calls kj4 a0_1 a1 t194 _ A22.out).mono ?_); rintro e w26 ⟨rfl, hb⟩; refine ⟨_, rfl, ?_⟩; have n0_ := Aside0.mk (blk_below (g := gb190) (o := .cells #[.int .i64 a0_0, .int .i64 a0_1, .int .i64 a0_2, .int .i64 a0_3, .int .i64 a0_4, .bool a0_5] 24 (0, 0)) (bl_ BK190.out) hb); have n1_ := Aside0.mk (blk_below (g := gb191) (o := .cells #[.int .i64 0, .int .i64 0, .int .i64 0, .int .i64 0, .int .i64 0, .bool false] 24 (0, 0)) (bl_ BK191.out) hb); have n2_ := Aside0.mk (below_step (be_ HB.out) hb); clear BK190 BK191 HB; have BK190 := n0_; have BK191 := n1_; have HB := n2_; clear n0_ n1_ n2_; (try clear hb); (try clear hb2); (try clear hk); (try clear hi)))
        (try simp only [Act.put, List.setIfInBounds_toArray, List.set_cons_zero, List.set_cons_succ])
        go_cut [37] (fun zv37 wc => ∃ (kq : Nat) (x37_22 : Bool), zv37 = .bool x37_22 ∧ Aside0 (spec_StepConn.j1 kq a1 a2 a3 t194 x37_22 a0_0 a0_1 a0_2 a0_3 a0_4 a0_5 = some (r1, r2, r3, r4, r5, r6, r7)) ∧ Aside0 (kq ≤ kj4) ∧ Aside0 (wc.heap[gb190]? = some (.cells #[.int .i64 a0_0, .int .i64 a0_1, .int .i64 a0_2, .int .i64 a0_3, .int .i64 a0_4, .bool a0_5] 24 (0, 0))) ∧ Aside0 (wc.heap[gb191]? = some (.cells #[.int .i64 0, .int .i64 0, .int .i64 0, .int .i64 0, .int .i64 0, .bool false] 24 (0, 0))) ∧ Aside0 (Below w.heap.size w wc))
        case first =>
          have H := HC23.out
          clear HC23
          by_cases c27 : t194 < 0
          · rw [if_pos c27] at H
            have c27b0 : decide (t194 < 0) = true := decide_eq_true c27
            clear c27
            (first | rw [c27b0] | (simp only [i64_w, i32_w]; rw [c27b0]) | skip)
            have H' := Aside0.mk H
            clear H
            go_wp2
            go_meet
            case rel => exact ⟨_, (true), (by first | rfl | (simp; done) | (simp [*]; done)), H', ⟨by have := HJ4.out; first | omega | exact Nat.le_refl _⟩, ⟨by refine bl_ ?_; exact BK190.out⟩, ⟨by refine bl_ ?_; exact BK191.out⟩, ⟨be_ HB.out⟩⟩
          · rw [if_neg c27] at H
            have c27b0 : decide (t194 < 0) = false := decide_eq_false c27
            clear c27
            (first | rw [c27b0] | (simp only [i64_w, i32_w]; rw [c27b0]) | skip)
            by_cases c28 : a1 = 2
            · rw [if_pos c28] at H
              have c28b0 : (a1 == 2) = true := beq_iff_eq.mpr c28
              have c28b1 : (a1 != 2) = false := bne_eq_false_iff_eq.mpr c28
              clear c28
              replace H := Option.bind_eq_some_iff.mp H
              obtain ⟨t195, A290, H⟩ := H
              replace H : (spec_StepConn.j1 kj4 a1 a2 a3 t194 (!t195) a0_0 a0_1 a0_2 a0_3 a0_4 a0_5) = some (r1, r2, r3, r4, r5, r6, r7) := H
              have A29 := Aside0.mk A290
              clear A290
              have H' := Aside0.mk H
              clear H
              go_wp2_with (first | (go_at_call 44; (with_reducible refine (spec_l01In.calls a3 1 1000000000 t195 _ A29.out).mono ?_); rintro e w' ⟨rfl, ⟨nd, rfl⟩⟩))
              go_meet
              case rel => exact ⟨_, (!t195), (by first | rfl | (simp; done) | (simp [*]; done)), H', ⟨by have := HJ4.out; first | omega | exact Nat.le_refl _⟩, ⟨by refine bl_ ?_; exact BK190.out⟩, ⟨by refine bl_ ?_; exact BK191.out⟩, ⟨be_ HB.out⟩⟩
            · rw [if_neg c28] at H
              have c28b0 : (a1 == 2) = false := beq_eq_false_iff_ne.mpr c28
              have c28b1 : (a1 != 2) = true := bne_iff_ne.mpr c28
              have H' := Aside0.mk H
              clear H
              go_wp2
              go_meet
              case rel => exact ⟨_, (false), (by first | rfl | (simp; done) | (simp [*]; done)), H', ⟨by have := HJ4.out; first | omega | exact Nat.le_refl _⟩, ⟨by refine bl_ ?_; exact BK190.out⟩, ⟨by refine bl_ ?_; exact BK191.out⟩, ⟨be_ HB.out⟩⟩
        case rest =>
          clear HC23
          try clear c1
          try clear c2
          try clear p2
          try clear c4
          try clear c9
          try clear c11
          try clear c15
          try clear c18
          try clear c19
          try clear c24
          try clear c27
          try clear c27b0
          try clear c28
          try clear c28b0
          try clear c28b1
          try clear hcz12_0
          try clear hcz12_1
          try clear hcz12_2
          try clear hcz12_3
          try clear hcz12_4
          try clear hcz12_5
          try clear hcz14_0
          try clear hcz14_1
          try clear hcz14_2
          try clear hcz14_3
          try clear hcz14_4
          try clear hcz14_5
          try clear hcz16_0
          try clear hcz16_1
          try clear hcz16_2
          try clear hcz16_3
          try clear hcz16_4
          try clear hcz16_5
          try clear hcz20_0
          try clear hcz20_1
          try clear hcz20_2
          try clear hcz20_3
          try clear hcz20_4
          try clear hcz20_5
          try clear hcz21_0
          try clear hcz21_1
          try clear hcz21_2
          try clear hcz21_3
          try clear hcz21_4
          try clear hcz21_5
          try clear hcz25_0
          try clear hcz25_1
          try clear hcz25_2
          try clear hcz25_3
          try clear hcz25_4
          try clear hcz25_5
          try clear hfz12_0
          try clear hfz12_1
          try clear hfz12_2
          try clear hfz12_3
          try clear hfz12_4
          try clear hfz12_5
          try clear hfz14_0
          try clear hfz14_1
          try clear hfz14_2
          try clear hfz14_3
          try clear hfz14_4
          try clear hfz14_5
          try clear hfz16_0
          try clear hfz16_1
          try clear hfz16_2
          try clear hfz16_3
          try clear hfz16_4
          try clear hfz16_5
          try clear hfz20_0
          try clear hfz20_1
          try clear hfz20_2
          try clear hfz20_3
          try clear hfz20_4
          try clear hfz20_5
          try clear hfz21_0
          try clear hfz21_1
          try clear hfz21_2
          try clear hfz21_3
          try clear hfz21_4
          try clear hfz21_5
          try clear hfz25_0
          try clear hfz25_1
          try clear hfz25_2
          try clear hfz25_3
          try clear hfz25_4
          try clear hfz25_5
          try clear p2
          obtain ⟨kq, x37_22, rfl, HA, HJ22, BK190, BK191, HB⟩ := hcut
          cases kq with
          | zero => exact absurd HA.out (by simp [spec_StepConn.j1])
          | succ kj22 =>
            have H := HA.out
            clear HA
            simp only [spec_StepConn.j1] at H
            by_cases c30 : x37_22 = true
            · subst c30
              have H1 : (some (a0_0, a0_1, a0_2, a0_3, a0_4, a0_5, false)) = some (r1, r2, r3, r4, r5, r6, r7) := by rw [if_pos rfl] at H; exact H
              clear H
              have H := H1
              clear H1
              simp only [Option.some.injEq, Prod.mk.injEq] at H
              obtain ⟨rfl, rfl, rfl, rfl, rfl, rfl, rfl⟩ := H
              have hnb31 := NB190_191.out
              have hnc31 := NB191_190.out
              have hcz32_0 : wc.cell? ⟨gb190, 0, none⟩ = some (.int .i64 a0_0) := (blk_cell BK190.out 0).trans rfl
              have hcz32_1 : wc.cell? ⟨gb190, 1, none⟩ = some (.int .i64 a0_1) := (blk_cell BK190.out 1).trans rfl
              have hcz32_2 : wc.cell? ⟨gb190, 2, none⟩ = some (.int .i64 a0_2) := (blk_cell BK190.out 2).trans rfl
              have hcz32_3 : wc.cell? ⟨gb190, 3, none⟩ = some (.int .i64 a0_3) := (blk_cell BK190.out 3).trans rfl
              have hcz32_4 : wc.cell? ⟨gb190, 4, none⟩ = some (.int .i64 a0_4) := (blk_cell BK190.out 4).trans rfl
              have hcz32_5 : wc.cell? ⟨gb190, 5, none⟩ = some (.bool a0_5) := (blk_cell BK190.out 5).trans rfl
              have hfz32_0 := blk_frozen BK190.out 0
              have hfz32_1 := blk_frozen BK190.out 1
              have hfz32_2 := blk_frozen BK190.out 2
              have hfz32_3 := blk_frozen BK190.out 3
              have hfz32_4 := blk_frozen BK190.out 4
              have hfz32_5 := blk_frozen BK190.out 5
              have hcz33_0 : wc.cell? ⟨gb191, 0, none⟩ = some (.int .i64 0) := (blk_cell BK191.out 0).trans rfl
              have hcz33_1 : wc.cell? ⟨gb191, 1, none⟩ = some (.int .i64 0) := (blk_cell BK191.out 1).trans rfl
              have hcz33_2 : wc.cell? ⟨gb191, 2, none⟩ = some (.int .i64 0) := (blk_cell BK191.out 2).trans rfl
              have hcz33_3 : wc.cell? ⟨gb191, 3, none⟩ = some (.int .i64 0) := (blk_cell BK191.out 3).trans rfl
              have hcz33_4 : wc.cell? ⟨gb191, 4, none⟩ = some (.int .i64 0) := (blk_cell BK191.out 4).trans rfl
              have hcz33_5 : wc.cell? ⟨gb191, 5, none⟩ = some (.bool false) := (blk_cell BK191.out 5).trans rfl
              have hfz33_0 := blk_frozen BK191.out 0
              have hfz33_1 := blk_frozen BK191.out 1
              have hfz33_2 := blk_frozen BK191.out 2
              have hfz33_3 := blk_frozen BK191.out 3
              have hfz33_4 := blk_frozen BK191.out 4
              have hfz33_5 := blk_frozen BK191.out 5
              go_wp2
              refine bodyPost_ret (results_ct rfl _ _ gb191 24 #[.int .i64 a0_0, .int .i64 a0_1, .int .i64 a0_2, .int .i64 a0_3, .int .i64 a0_4, .bool a0_5] (0, 0) _ rfl (by refine bl_ ?_; refine blk_put (cs := #[.int .i64 a0_0, .int .i64 a0_1, .int .i64 a0_2, .int .i64 a0_3, .int .i64 a0_4, .bool false]) ?_ 5 _ rfl; refine bl_ ?_; refine blk_put (cs := #[.int .i64 a0_0, .int .i64 a0_1, .int .i64 a0_2, .int .i64 a0_3, .int .i64 0, .bool false]) ?_ 4 _ rfl; refine bl_ ?_; refine blk_put (cs := #[.int .i64 a0_0, .int .i64 a0_1, .int .i64 a0_2, .int .i64 0, .int .i64 0, .bool false]) ?_ 3 _ rfl; refine bl_ ?_; refine blk_put (cs := #[.int .i64 a0_0, .int .i64 a0_1, .int .i64 0, .int .i64 0, .int .i64 0, .bool false]) ?_ 2 _ rfl; refine bl_ ?_; refine blk_put (cs := #[.int .i64 a0_0, .int .i64 0, .int .i64 0, .int .i64 0, .int .i64 0, .bool false]) ?_ 1 _ rfl; refine bl_ ?_; refine blk_put (cs := #[.int .i64 0, .int .i64 0, .int .i64 0, .int .i64 0, .int .i64 0, .bool false]) ?_ 0 _ rfl; refine bl_ ?_; exact BK191.out) Try.underlying24 rfl (by kernel_rfl)) rfl ?_
              exact ⟨by first | rfl | (simp [errW_none, errW_some] <;> rfl) | (simp [*, errW_none, errW_some] <;> rfl), be_ HB.out⟩
            · replace c30 := Bool.eq_false_iff.mpr c30
              subst c30
              have H1 : (if a1 = 0 then (if a1 = 2 then (some (a0_0, t194, a2, a2, a3, false, true)) else (some (a0_0, t194, a2, a2, 0, false, true))) else (if a1 = 2 then (some (a0_0, t194, a0_2, a2, a3, false, true)) else (some (a0_0, t194, a0_2, a2, 0, false, true)))) = some (r1, r2, r3, r4, r5, r6, r7) := by rw [if_neg (show ¬ (false = true) by decide)] at H; exact H
              clear H
              have H := H1
              clear H1
              by_cases c34 : a1 = 0
              · rw [if_pos c34] at H
                have c34b0 : (a1 == 0) = true := beq_iff_eq.mpr c34
                have c34b1 : (a1 != 0) = false := bne_eq_false_iff_eq.mpr c34
                clear c34
                by_cases c35 : a1 = 2
                · rw [if_pos c35] at H
                  exact absurd ((beq_iff_eq.mp c34b0).symm.trans c35) (by decide)
                · rw [if_neg c35] at H
                  have c35b0 : (a1 == 2) = false := beq_eq_false_iff_ne.mpr c35
                  have c35b1 : (a1 != 2) = true := bne_iff_ne.mpr c35
                  simp only [Option.some.injEq, Prod.mk.injEq] at H
                  obtain ⟨rfl, rfl, rfl, rfl, rfl, rfl, rfl⟩ := H
                  have hnb43 := NB190_191.out
                  have hnc43 := NB191_190.out
                  have hcz44_0 : wc.cell? ⟨gb190, 0, none⟩ = some (.int .i64 a0_0) := (blk_cell BK190.out 0).trans rfl
                  have hcz44_1 : wc.cell? ⟨gb190, 1, none⟩ = some (.int .i64 a0_1) := (blk_cell BK190.out 1).trans rfl
                  have hcz44_2 : wc.cell? ⟨gb190, 2, none⟩ = some (.int .i64 a0_2) := (blk_cell BK190.out 2).trans rfl
                  have hcz44_3 : wc.cell? ⟨gb190, 3, none⟩ = some (.int .i64 a0_3) := (blk_cell BK190.out 3).trans rfl
                  have hcz44_4 : wc.cell? ⟨gb190, 4, none⟩ = some (.int .i64 a0_4) := (blk_cell BK190.out 4).trans rfl
                  have hcz44_5 : wc.cell? ⟨gb190, 5, none⟩ = some (.bool a0_5) := (blk_cell BK190.out 5).trans rfl
                  have hfz44_0 := blk_frozen BK190.out 0
                  have hfz44_1 := blk_frozen BK190.out 1
                  have hfz44_2 := blk_frozen BK190.out 2
                  have hfz44_3 := blk_frozen BK190.out 3
                  have hfz44_4 := blk_frozen BK190.out 4
                  have hfz44_5 := blk_frozen BK190.out 5
                  go_wp2_with (first | ((with_reducible refine gate_dst (N := 11) rfl ?_); refine box_event ?hg (N := 11) ?hd (cs := #[.int .i64 0, .int .i64 0, .int .i64 0, .int .i64 0, .int .i64 0, .bool false]) (t := 24) ?hr ?_; (case hd => rfl); (case hg => rfl); (case hr => first | (go_simp; done) | (go_simp; rfl)); intro gb196 hg w45 hbox hb; have n0_ := Aside0.mk (blk_below (g := gb190) (o := .cells #[.int .i64 a0_0, .int .i64 a0_1, .int .i64 a0_2, .int .i64 a0_3, .int .i64 a0_4, .bool a0_5] 24 (0, 0)) (bl_ BK190.out) hb); have n1_ := Aside0.mk (blk_below (g := gb191) (o := .cells #[.int .i64 0, .int .i64 0, .int .i64 0, .int .i64 0, .int .i64 0, .bool false] 24 (0, 0)) (bl_ BK191.out) hb); have n2_ := Aside0.mk (below_step (be_ HB.out) hb); have n3_ := Aside0.mk (hbox); have n4_ := Aside0.mk ((by rw [hg]; exact (below_size (be_ HB.out)) : w.heap.size ≤ gb196)); have n5_ := Aside0.mk ((by rw [hg]; exact (below_size (be_ HB.out)) : w.heap.size ≤ gb196)); have n6_ := Aside0.mk ((by rw [hg]; exact Nat.ne_of_lt (blk_lt (g := gb190) (o := .cells #[.int .i64 a0_0, .int .i64 a0_1, .int .i64 a0_2, .int .i64 a0_3, .int .i64 a0_4, .bool a0_5] 24 (0, 0)) (bl_ BK190.out)) : gb190 ≠ gb196)); have n7_ := Aside0.mk ((by rw [hg]; exact Nat.ne_of_gt (blk_lt (g := gb190) (o := .cells #[.int .i64 a0_0, .int .i64 a0_1, .int .i64 a0_2, .int .i64 a0_3, .int .i64 a0_4, .bool a0_5] 24 (0, 0)) (bl_ BK190.out)) : gb196 ≠ gb190)); have n8_ := Aside0.mk ((by rw [hg]; exact Nat.ne_of_lt (blk_lt (g := gb191) (o := .cells #[.int .i64 0, .int .i64 0, .int .i64 0, .int .i64 0, .int .i64 0, .bool false] 24 (0, 0)) (bl_ BK191.out)) : gb191 ≠ gb196)); have n9_ := Aside0.mk ((by rw [hg]; exact Nat.ne_of_gt (blk_lt (g := gb191) (o := .cells #[.int .i64 0, .int .i64 0, .int .i64 0, .int .i64 0, .int .i64 0, .bool false] 24 (0, 0)) (bl_ BK191.out)) : gb196 ≠ gb191)); clear BK190 BK191 HB; have BK190 := n0_; have BK191 := n1_; have HB := n2_; have BK196 := n3_; have GW196 := n4_; have GE196 := n5_; have NB190_196 := n6_; have NB196_190 := n7_; have NB191_196 := n8_; have NB196_191 := n9_; clear n0_ n1_ n2_ n3_ n4_ n5_ n6_ n7_ n8_ n9_; clear hb hbox hg; have hnb46 := NB196_190.out; have hnc46 := NB190_196.out; have hnb47 := NB196_191.out; have hnc47 := NB191_196.out; obtain ⟨hcz48_0, hcz48_1, hcz48_2, hcz48_3, hcz48_4, hcz48_5, hfz48_0, hfz48_1, hfz48_2, hfz48_3, hfz48_4, hfz48_5⟩ := cz6_ BK196.out; obtain ⟨hcz49_0, hcz49_1, hcz49_2, hcz49_3, hcz49_4, hcz49_5, hfz49_0, hfz49_1, hfz49_2, hfz49_3, hfz49_4, hfz49_5⟩ := cz6_ BK191.out) | ((with_reducible refine gate_store (t := 24) (p := 11) rfl ?_); refine store_event (t := 24) (p := 11) (v := ?vo_w904) (w1 := ((((((w45.setCell ⟨gb196, 0, none⟩ (.int .i64 a0_0)).setCell ⟨gb196, 1, none⟩ (.int .i64 t194)).setCell ⟨gb196, 2, none⟩ (.int .i64 a0_2)).setCell ⟨gb196, 3, none⟩ (.int .i64 a2)).setCell ⟨gb196, 4, none⟩ (.int .i64 0)).setCell ⟨gb196, 5, none⟩ (.bool false))) ?hg ?ho ?hn ?hr ?_; (case ho => rfl); (case hg => rfl); (case hn => rfl); (case hr => first | (go_simp; done) | (go_simp; rfl)); intro w904 hw; have n0_ : Aside0 (w904.heap[gb190]? = some (.cells #[.int .i64 a0_0, .int .i64 a0_1, .int .i64 a0_2, .int .i64 a0_3, .int .i64 a0_4, .bool a0_5] 24 (0, 0))) := ⟨(by rw [hw]; exact (by refine blk_far ?_ NB190_196.out _; refine blk_far ?_ NB190_196.out _; refine blk_far ?_ NB190_196.out _; refine blk_far ?_ NB190_196.out _; refine blk_far ?_ NB190_196.out _; refine blk_far ?_ NB190_196.out _; exact BK190.out))⟩; have n1_ : Aside0 (w904.heap[gb191]? = some (.cells #[.int .i64 0, .int .i64 0, .int .i64 0, .int .i64 0, .int .i64 0, .bool false] 24 (0, 0))) := ⟨(by rw [hw]; exact (by refine blk_far ?_ NB191_196.out _; refine blk_far ?_ NB191_196.out _; refine blk_far ?_ NB191_196.out _; refine blk_far ?_ NB191_196.out _; refine blk_far ?_ NB191_196.out _; refine blk_far ?_ NB191_196.out _; exact BK191.out))⟩; have n2_ : Aside0 (w904.heap[gb196]? = some (.cells #[.int .i64 a0_0, .int .i64 t194, .int .i64 a0_2, .int .i64 a2, .int .i64 0, .bool false] 24 (0, 0))) := ⟨(by rw [hw]; exact (by refine blk_put (cs := #[.int .i64 a0_0, .int .i64 t194, .int .i64 a0_2, .int .i64 a2, .int .i64 0, .bool false]) ?_ 5 _ rfl; refine blk_put (cs := #[.int .i64 a0_0, .int .i64 t194, .int .i64 a0_2, .int .i64 a2, .int .i64 0, .bool false]) ?_ 4 _ rfl; refine blk_put (cs := #[.int .i64 a0_0, .int .i64 t194, .int .i64 a0_2, .int .i64 0, .int .i64 0, .bool false]) ?_ 3 _ rfl; refine blk_put (cs := #[.int .i64 a0_0, .int .i64 t194, .int .i64 0, .int .i64 0, .int .i64 0, .bool false]) ?_ 2 _ rfl; refine blk_put (cs := #[.int .i64 a0_0, .int .i64 0, .int .i64 0, .int .i64 0, .int .i64 0, .bool false]) ?_ 1 _ rfl; refine blk_put (cs := #[.int .i64 0, .int .i64 0, .int .i64 0, .int .i64 0, .int .i64 0, .bool false]) ?_ 0 _ rfl; exact BK196.out))⟩; have n3_ : Aside0 (Below w.heap.size w w904) := ⟨(by rw [hw]; exact (be_ HB.out))⟩; clear hw BK190 BK191 BK196 HB; have BK190 := n0_; have BK191 := n1_; have BK196 := n2_; have HB := n3_; clear n0_ n1_ n2_ n3_; obtain ⟨hcz9040_0, hcz9040_1, hcz9040_2, hcz9040_3, hcz9040_4, hcz9040_5, hfz9040_0, hfz9040_1, hfz9040_2, hfz9040_3, hfz9040_4, hfz9040_5⟩ := cz6_ BK190.out; obtain ⟨hcz9041_0, hcz9041_1, hcz9041_2, hcz9041_3, hcz9041_4, hcz9041_5, hfz9041_0, hfz9041_1, hfz9041_2, hfz9041_3, hfz9041_4, hfz9041_5⟩ := cz6_ BK191.out; obtain ⟨hcz9042_0, hcz9042_1, hcz9042_2, hcz9042_3, hcz9042_4, hcz9042_5, hfz9042_0, hfz9042_1, hfz9042_2, hfz9042_3, hfz9042_4, hfz9042_5⟩ := cz6_ BK196.out) | ((with_reducible refine gate_store (t := 3) (p := 49) rfl ?_); refine store_event (t := 3) (p := 49) (v := ?vo_w905) (w1 := (w904.setCell ⟨gb196, 2, none⟩ (.int .i64 a2))) ?hg ?ho ?hn ?hr ?_; (case ho => rfl); (case hg => rfl); (case hn => rfl); (case hr => first | (go_simp; done) | (go_simp; rfl)); intro w905 hw; have n0_ : Aside0 (w905.heap[gb190]? = some (.cells #[.int .i64 a0_0, .int .i64 a0_1, .int .i64 a0_2, .int .i64 a0_3, .int .i64 a0_4, .bool a0_5] 24 (0, 0))) := ⟨(by rw [hw]; exact (by refine blk_far ?_ NB190_196.out _; exact BK190.out))⟩; have n1_ : Aside0 (w905.heap[gb191]? = some (.cells #[.int .i64 0, .int .i64 0, .int .i64 0, .int .i64 0, .int .i64 0, .bool false] 24 (0, 0))) := ⟨(by rw [hw]; exact (by refine blk_far ?_ NB191_196.out _; exact BK191.out))⟩; have n2_ : Aside0 (w905.heap[gb196]? = some (.cells #[.int .i64 a0_0, .int .i64 t194, .int .i64 a2, .int .i64 a2, .int .i64 0, .bool false] 24 (0, 0))) := ⟨(by rw [hw]; exact (by refine blk_put (cs := #[.int .i64 a0_0, .int .i64 t194, .int .i64 a0_2, .int .i64 a2, .int .i64 0, .bool false]) ?_ 2 _ rfl; exact BK196.out))⟩; have n3_ : Aside0 (Below w.heap.size w w905) := ⟨(by rw [hw]; exact (be_ HB.out))⟩; clear hw BK190 BK191 BK196 HB; have BK190 := n0_; have BK191 := n1_; have BK196 := n2_; have HB := n3_; clear n0_ n1_ n2_ n3_; obtain ⟨hcz9050_0, hcz9050_1, hcz9050_2, hcz9050_3, hcz9050_4, hcz9050_5, hfz9050_0, hfz9050_1, hfz9050_2, hfz9050_3, hfz9050_4, hfz9050_5⟩ := cz6_ BK190.out; obtain ⟨hcz9051_0, hcz9051_1, hcz9051_2, hcz9051_3, hcz9051_4, hcz9051_5, hfz9051_0, hfz9051_1, hfz9051_2, hfz9051_3, hfz9051_4, hfz9051_5⟩ := cz6_ BK191.out; obtain ⟨hcz9052_0, hcz9052_1, hcz9052_2, hcz9052_3, hcz9052_4, hcz9052_5, hfz9052_0, hfz9052_1, hfz9052_2, hfz9052_3, hfz9052_4, hfz9052_5⟩ := cz6_ BK196.out))
                  refine bodyPost_ret (results_ct rfl _ _ gb191 24 #[.int .i64 a0_0, .int .i64 t194, .int .i64 a2, .int .i64 a2, .int .i64 0, .bool false] (0, 0) _ rfl (by refine bl_ ?_; refine blk_put (cs := #[.int .i64 a0_0, .int .i64 t194, .int .i64 a2, .int .i64 a2, .int .i64 0, .bool false]) ?_ 5 _ rfl; refine bl_ ?_; refine blk_put (cs := #[.int .i64 a0_0, .int .i64 t194, .int .i64 a2, .int .i64 a2, .int .i64 0, .bool false]) ?_ 4 _ rfl; refine bl_ ?_; refine blk_put (cs := #[.int .i64 a0_0, .int .i64 t194, .int .i64 a2, .int .i64 0, .int .i64 0, .bool false]) ?_ 3 _ rfl; refine bl_ ?_; refine blk_put (cs := #[.int .i64 a0_0, .int .i64 t194, .int .i64 0, .int .i64 0, .int .i64 0, .bool false]) ?_ 2 _ rfl; refine bl_ ?_; refine blk_put (cs := #[.int .i64 a0_0, .int .i64 0, .int .i64 0, .int .i64 0, .int .i64 0, .bool false]) ?_ 1 _ rfl; refine bl_ ?_; refine blk_put (cs := #[.int .i64 0, .int .i64 0, .int .i64 0, .int .i64 0, .int .i64 0, .bool false]) ?_ 0 _ rfl; exact BK191.out) Try.underlying24 rfl (by kernel_rfl)) rfl ?_
                  exact ⟨by first | rfl | (simp [errW_none, errW_some] <;> rfl) | (simp [*, errW_none, errW_some] <;> rfl), be_ HB.out⟩
              · rw [if_neg c34] at H
                have c34b0 : (a1 == 0) = false := beq_eq_false_iff_ne.mpr c34
                have c34b1 : (a1 != 0) = true := bne_iff_ne.mpr c34
                by_cases c50 : a1 = 2
                · rw [if_pos c50] at H
                  have c50b0 : (a1 == 2) = true := beq_iff_eq.mpr c50
                  have c50b1 : (a1 != 2) = false := bne_eq_false_iff_eq.mpr c50
                  clear c50
                  simp only [Option.some.injEq, Prod.mk.injEq] at H
                  obtain ⟨rfl, rfl, rfl, rfl, rfl, rfl, rfl⟩ := H
                  have hnb51 := NB190_191.out
                  have hnc51 := NB191_190.out
                  have hcz52_0 : wc.cell? ⟨gb190, 0, none⟩ = some (.int .i64 a0_0) := (blk_cell BK190.out 0).trans rfl
                  have hcz52_1 : wc.cell? ⟨gb190, 1, none⟩ = some (.int .i64 a0_1) := (blk_cell BK190.out 1).trans rfl
                  have hcz52_2 : wc.cell? ⟨gb190, 2, none⟩ = some (.int .i64 a0_2) := (blk_cell BK190.out 2).trans rfl
                  have hcz52_3 : wc.cell? ⟨gb190, 3, none⟩ = some (.int .i64 a0_3) := (blk_cell BK190.out 3).trans rfl
                  have hcz52_4 : wc.cell? ⟨gb190, 4, none⟩ = some (.int .i64 a0_4) := (blk_cell BK190.out 4).trans rfl
                  have hcz52_5 : wc.cell? ⟨gb190, 5, none⟩ = some (.bool a0_5) := (blk_cell BK190.out 5).trans rfl
                  have hfz52_0 := blk_frozen BK190.out 0
                  have hfz52_1 := blk_frozen BK190.out 1
                  have hfz52_2 := blk_frozen BK190.out 2
                  have hfz52_3 := blk_frozen BK190.out 3
                  have hfz52_4 := blk_frozen BK190.out 4
                  have hfz52_5 := blk_frozen BK190.out 5
                  go_wp2_with (first | ((with_reducible refine gate_dst (N := 11) rfl ?_); refine box_event ?hg (N := 11) ?hd (cs := #[.int .i64 0, .int .i64 0, .int .i64 0, .int .i64 0, .int .i64 0, .bool false]) (t := 24) ?hr ?_; (case hd => rfl); (case hg => rfl); (case hr => first | (go_simp; done) | (go_simp; rfl)); intro gb196 hg w53 hbox hb; have n0_ := Aside0.mk (blk_below (g := gb190) (o := .cells #[.int .i64 a0_0, .int .i64 a0_1, .int .i64 a0_2, .int .i64 a0_3, .int .i64 a0_4, .bool a0_5] 24 (0, 0)) (bl_ BK190.out) hb); have n1_ := Aside0.mk (blk_below (g := gb191) (o := .cells #[.int .i64 0, .int .i64 0, .int .i64 0, .int .i64 0, .int .i64 0, .bool false] 24 (0, 0)) (bl_ BK191.out) hb); have n2_ := Aside0.mk (below_step (be_ HB.out) hb); have n3_ := Aside0.mk (hbox); have n4_ := Aside0.mk ((by rw [hg]; exact (below_size (be_ HB.out)) : w.heap.size ≤ gb196)); have n5_ := Aside0.mk ((by rw [hg]; exact (below_size (be_ HB.out)) : w.heap.size ≤ gb196)); have n6_ := Aside0.mk ((by rw [hg]; exact Nat.ne_of_lt (blk_lt (g := gb190) (o := .cells #[.int .i64 a0_0, .int .i64 a0_1, .int .i64 a0_2, .int .i64 a0_3, .int .i64 a0_4, .bool a0_5] 24 (0, 0)) (bl_ BK190.out)) : gb190 ≠ gb196)); have n7_ := Aside0.mk ((by rw [hg]; exact Nat.ne_of_gt (blk_lt (g := gb190) (o := .cells #[.int .i64 a0_0, .int .i64 a0_1, .int .i64 a0_2, .int .i64 a0_3, .int .i64 a0_4, .bool a0_5] 24 (0, 0)) (bl_ BK190.out)) : gb196 ≠ gb190)); have n8_ := Aside0.mk ((by rw [hg]; exact Nat.ne_of_lt (blk_lt (g := gb191) (o := .cells #[.int .i64 0, .int .i64 0, .int .i64 0, .int .i64 0, .int .i64 0, .bool false] 24 (0, 0)) (bl_ BK191.out)) : gb191 ≠ gb196)); have n9_ := Aside0.mk ((by rw [hg]; exact Nat.ne_of_gt (blk_lt (g := gb191) (o := .cells #[.int .i64 0, .int .i64 0, .int .i64 0, .int .i64 0, .int .i64 0, .bool false] 24 (0, 0)) (bl_ BK191.out)) : gb196 ≠ gb191)); clear BK190 BK191 HB; have BK190 := n0_; have BK191 := n1_; have HB := n2_; have BK196 := n3_; have GW196 := n4_; have GE196 := n5_; have NB190_196 := n6_; have NB196_190 := n7_; have NB191_196 := n8_; have NB196_191 := n9_; clear n0_ n1_ n2_ n3_ n4_ n5_ n6_ n7_ n8_ n9_; clear hb hbox hg; have hnb54 := NB196_190.out; have hnc54 := NB190_196.out; have hnb55 := NB196_191.out; have hnc55 := NB191_196.out; obtain ⟨hcz56_0, hcz56_1, hcz56_2, hcz56_3, hcz56_4, hcz56_5, hfz56_0, hfz56_1, hfz56_2, hfz56_3, hfz56_4, hfz56_5⟩ := cz6_ BK196.out; obtain ⟨hcz57_0, hcz57_1, hcz57_2, hcz57_3, hcz57_4, hcz57_5, hfz57_0, hfz57_1, hfz57_2, hfz57_3, hfz57_4, hfz57_5⟩ := cz6_ BK191.out) | ((with_reducible refine gate_store (t := 24) (p := 11) rfl ?_); refine store_event (t := 24) (p := 11) (v := ?vo_w906) (w1 := ((((((w53.setCell ⟨gb196, 0, none⟩ (.int .i64 a0_0)).setCell ⟨gb196, 1, none⟩ (.int .i64 t194)).setCell ⟨gb196, 2, none⟩ (.int .i64 a0_2)).setCell ⟨gb196, 3, none⟩ (.int .i64 a2)).setCell ⟨gb196, 4, none⟩ (.int .i64 0)).setCell ⟨gb196, 5, none⟩ (.bool false))) ?hg ?ho ?hn ?hr ?_; (case ho => rfl); (case hg => rfl); (case hn => rfl); (case hr => first | (go_simp; done) | (go_simp; rfl)); intro w906 hw; have n0_ : Aside0 (w906.heap[gb190]? = some (.cells #[.int .i64 a0_0, .int .i64 a0_1, .int .i64 a0_2, .int .i64 a0_3, .int .i64 a0_4, .bool a0_5] 24 (0, 0))) := ⟨(by rw [hw]; exact (by refine blk_far ?_ NB190_196.out _; refine blk_far ?_ NB190_196.out _; refine blk_far ?_ NB190_196.out _; refine blk_far ?_ NB190_196.out _; refine blk_far ?_ NB190_196.out _; refine blk_far ?_ NB190_196.out _; exact BK190.out))⟩; have n1_ : Aside0 (w906.heap[gb191]? = some (.cells #[.int .i64 0, .int .i64 0, .int .i64 0, .int .i64 0, .int .i64 0, .bool false] 24 (0, 0))) := ⟨(by rw [hw]; exact (by refine blk_far ?_ NB191_196.out _; refine blk_far ?_ NB191_196.out _; refine blk_far ?_ NB191_196.out _; refine blk_far ?_ NB191_196.out _; refine blk_far ?_ NB191_196.out _; refine blk_far ?_ NB191_196.out _; exact BK191.out))⟩; have n2_ : Aside0 (w906.heap[gb196]? = some (.cells #[.int .i64 a0_0, .int .i64 t194, .int .i64 a0_2, .int .i64 a2, .int .i64 0, .bool false] 24 (0, 0))) := ⟨(by rw [hw]; exact (by refine blk_put (cs := #[.int .i64 a0_0, .int .i64 t194, .int .i64 a0_2, .int .i64 a2, .int .i64 0, .bool false]) ?_ 5 _ rfl; refine blk_put (cs := #[.int .i64 a0_0, .int .i64 t194, .int .i64 a0_2, .int .i64 a2, .int .i64 0, .bool false]) ?_ 4 _ rfl; refine blk_put (cs := #[.int .i64 a0_0, .int .i64 t194, .int .i64 a0_2, .int .i64 0, .int .i64 0, .bool false]) ?_ 3 _ rfl; refine blk_put (cs := #[.int .i64 a0_0, .int .i64 t194, .int .i64 0, .int .i64 0, .int .i64 0, .bool false]) ?_ 2 _ rfl; refine blk_put (cs := #[.int .i64 a0_0, .int .i64 0, .int .i64 0, .int .i64 0, .int .i64 0, .bool false]) ?_ 1 _ rfl; refine blk_put (cs := #[.int .i64 0, .int .i64 0, .int .i64 0, .int .i64 0, .int .i64 0, .bool false]) ?_ 0 _ rfl; exact BK196.out))⟩; have n3_ : Aside0 (Below w.heap.size w w906) := ⟨(by rw [hw]; exact (be_ HB.out))⟩; clear hw BK190 BK191 BK196 HB; have BK190 := n0_; have BK191 := n1_; have BK196 := n2_; have HB := n3_; clear n0_ n1_ n2_ n3_; obtain ⟨hcz9060_0, hcz9060_1, hcz9060_2, hcz9060_3, hcz9060_4, hcz9060_5, hfz9060_0, hfz9060_1, hfz9060_2, hfz9060_3, hfz9060_4, hfz9060_5⟩ := cz6_ BK190.out; obtain ⟨hcz9061_0, hcz9061_1, hcz9061_2, hcz9061_3, hcz9061_4, hcz9061_5, hfz9061_0, hfz9061_1, hfz9061_2, hfz9061_3, hfz9061_4, hfz9061_5⟩ := cz6_ BK191.out; obtain ⟨hcz9062_0, hcz9062_1, hcz9062_2, hcz9062_3, hcz9062_4, hcz9062_5, hfz9062_0, hfz9062_1, hfz9062_2, hfz9062_3, hfz9062_4, hfz9062_5⟩ := cz6_ BK196.out) | ((with_reducible refine gate_store (t := 3) (p := 53) rfl ?_); refine store_event (t := 3) (p := 53) (v := ?vo_w907) (w1 := (w906.setCell ⟨gb196, 4, none⟩ (.int .i64 a3))) ?hg ?ho ?hn ?hr ?_; (case ho => rfl); (case hg => rfl); (case hn => rfl); (case hr => first | (go_simp; done) | (go_simp; rfl)); intro w907 hw; have n0_ : Aside0 (w907.heap[gb190]? = some (.cells #[.int .i64 a0_0, .int .i64 a0_1, .int .i64 a0_2, .int .i64 a0_3, .int .i64 a0_4, .bool a0_5] 24 (0, 0))) := ⟨(by rw [hw]; exact (by refine blk_far ?_ NB190_196.out _; exact BK190.out))⟩; have n1_ : Aside0 (w907.heap[gb191]? = some (.cells #[.int .i64 0, .int .i64 0, .int .i64 0, .int .i64 0, .int .i64 0, .bool false] 24 (0, 0))) := ⟨(by rw [hw]; exact (by refine blk_far ?_ NB191_196.out _; exact BK191.out))⟩; have n2_ : Aside0 (w907.heap[gb196]? = some (.cells #[.int .i64 a0_0, .int .i64 t194, .int .i64 a0_2, .int .i64 a2, .int .i64 a3, .bool false] 24 (0, 0))) := ⟨(by rw [hw]; exact (by refine blk_put (cs := #[.int .i64 a0_0, .int .i64 t194, .int .i64 a0_2, .int .i64 a2, .int .i64 0, .bool false]) ?_ 4 _ rfl; exact BK196.out))⟩; have n3_ : Aside0 (Below w.heap.size w w907) := ⟨(by rw [hw]; exact (be_ HB.out))⟩; clear hw BK190 BK191 BK196 HB; have BK190 := n0_; have BK191 := n1_; have BK196 := n2_; have HB := n3_; clear n0_ n1_ n2_ n3_; obtain ⟨hcz9070_0, hcz9070_1, hcz9070_2, hcz9070_3, hcz9070_4, hcz9070_5, hfz9070_0, hfz9070_1, hfz9070_2, hfz9070_3, hfz9070_4, hfz9070_5⟩ := cz6_ BK190.out; obtain ⟨hcz9071_0, hcz9071_1, hcz9071_2, hcz9071_3, hcz9071_4, hcz9071_5, hfz9071_0, hfz9071_1, hfz9071_2, hfz9071_3, hfz9071_4, hfz9071_5⟩ := cz6_ BK191.out; obtain ⟨hcz9072_0, hcz9072_1, hcz9072_2, hcz9072_3, hcz9072_4, hcz9072_5, hfz9072_0, hfz9072_1, hfz9072_2, hfz9072_3, hfz9072_4, hfz9072_5⟩ := cz6_ BK196.out))
                  refine bodyPost_ret (results_ct rfl _ _ gb191 24 #[.int .i64 a0_0, .int .i64 t194, .int .i64 a0_2, .int .i64 a2, .int .i64 a3, .bool false] (0, 0) _ rfl (by refine bl_ ?_; refine blk_put (cs := #[.int .i64 a0_0, .int .i64 t194, .int .i64 a0_2, .int .i64 a2, .int .i64 a3, .bool false]) ?_ 5 _ rfl; refine bl_ ?_; refine blk_put (cs := #[.int .i64 a0_0, .int .i64 t194, .int .i64 a0_2, .int .i64 a2, .int .i64 0, .bool false]) ?_ 4 _ rfl; refine bl_ ?_; refine blk_put (cs := #[.int .i64 a0_0, .int .i64 t194, .int .i64 a0_2, .int .i64 0, .int .i64 0, .bool false]) ?_ 3 _ rfl; refine bl_ ?_; refine blk_put (cs := #[.int .i64 a0_0, .int .i64 t194, .int .i64 0, .int .i64 0, .int .i64 0, .bool false]) ?_ 2 _ rfl; refine bl_ ?_; refine blk_put (cs := #[.int .i64 a0_0, .int .i64 0, .int .i64 0, .int .i64 0, .int .i64 0, .bool false]) ?_ 1 _ rfl; refine bl_ ?_; refine blk_put (cs := #[.int .i64 0, .int .i64 0, .int .i64 0, .int .i64 0, .int .i64 0, .bool false]) ?_ 0 _ rfl; exact BK191.out) Try.underlying24 rfl (by kernel_rfl)) rfl ?_
                  exact ⟨by first | rfl | (simp [errW_none, errW_some] <;> rfl) | (simp [*, errW_none, errW_some] <;> rfl), be_ HB.out⟩
                · rw [if_neg c50] at H
                  have c50b0 : (a1 == 2) = false := beq_eq_false_iff_ne.mpr c50
                  have c50b1 : (a1 != 2) = true := bne_iff_ne.mpr c50
                  simp only [Option.some.injEq, Prod.mk.injEq] at H
                  obtain ⟨rfl, rfl, rfl, rfl, rfl, rfl, rfl⟩ := H
                  have hnb58 := NB190_191.out
                  have hnc58 := NB191_190.out
                  have hcz59_0 : wc.cell? ⟨gb190, 0, none⟩ = some (.int .i64 a0_0) := (blk_cell BK190.out 0).trans rfl
                  have hcz59_1 : wc.cell? ⟨gb190, 1, none⟩ = some (.int .i64 a0_1) := (blk_cell BK190.out 1).trans rfl
                  have hcz59_2 : wc.cell? ⟨gb190, 2, none⟩ = some (.int .i64 a0_2) := (blk_cell BK190.out 2).trans rfl
                  have hcz59_3 : wc.cell? ⟨gb190, 3, none⟩ = some (.int .i64 a0_3) := (blk_cell BK190.out 3).trans rfl
                  have hcz59_4 : wc.cell? ⟨gb190, 4, none⟩ = some (.int .i64 a0_4) := (blk_cell BK190.out 4).trans rfl
                  have hcz59_5 : wc.cell? ⟨gb190, 5, none⟩ = some (.bool a0_5) := (blk_cell BK190.out 5).trans rfl
                  have hfz59_0 := blk_frozen BK190.out 0
                  have hfz59_1 := blk_frozen BK190.out 1
                  have hfz59_2 := blk_frozen BK190.out 2
                  have hfz59_3 := blk_frozen BK190.out 3
                  have hfz59_4 := blk_frozen BK190.out 4
                  have hfz59_5 := blk_frozen BK190.out 5
                  go_wp2_with (first | ((with_reducible refine gate_dst (N := 11) rfl ?_); refine box_event ?hg (N := 11) ?hd (cs := #[.int .i64 0, .int .i64 0, .int .i64 0, .int .i64 0, .int .i64 0, .bool false]) (t := 24) ?hr ?_; (case hd => rfl); (case hg => rfl); (case hr => first | (go_simp; done) | (go_simp; rfl)); intro gb196 hg w60 hbox hb; have n0_ := Aside0.mk (blk_below (g := gb190) (o := .cells #[.int .i64 a0_0, .int .i64 a0_1, .int .i64 a0_2, .int .i64 a0_3, .int .i64 a0_4, .bool a0_5] 24 (0, 0)) (bl_ BK190.out) hb); have n1_ := Aside0.mk (blk_below (g := gb191) (o := .cells #[.int .i64 0, .int .i64 0, .int .i64 0, .int .i64 0, .int .i64 0, .bool false] 24 (0, 0)) (bl_ BK191.out) hb); have n2_ := Aside0.mk (below_step (be_ HB.out) hb); have n3_ := Aside0.mk (hbox); have n4_ := Aside0.mk ((by rw [hg]; exact (below_size (be_ HB.out)) : w.heap.size ≤ gb196)); have n5_ := Aside0.mk ((by rw [hg]; exact (below_size (be_ HB.out)) : w.heap.size ≤ gb196)); have n6_ := Aside0.mk ((by rw [hg]; exact Nat.ne_of_lt (blk_lt (g := gb190) (o := .cells #[.int .i64 a0_0, .int .i64 a0_1, .int .i64 a0_2, .int .i64 a0_3, .int .i64 a0_4, .bool a0_5] 24 (0, 0)) (bl_ BK190.out)) : gb190 ≠ gb196)); have n7_ := Aside0.mk ((by rw [hg]; exact Nat.ne_of_gt (blk_lt (g := gb190) (o := .cells #[.int .i64 a0_0, .int .i64 a0_1, .int .i64 a0_2, .int .i64 a0_3, .int .i64 a0_4, .bool a0_5] 24 (0, 0)) (bl_ BK190.out)) : gb196 ≠ gb190)); have n8_ := Aside0.mk ((by rw [hg]; exact Nat.ne_of_lt (blk_lt (g := gb191) (o := .cells #[.int .i64 0, .int .i64 0, .int .i64 0, .int .i64 0, .int .i64 0, .bool false] 24 (0, 0)) (bl_ BK191.out)) : gb191 ≠ gb196)); have n9_ := Aside0.mk ((by rw [hg]; exact Nat.ne_of_gt (blk_lt (g := gb191) (o := .cells #[.int .i64 0, .int .i64 0, .int .i64 0, .int .i64 0, .int .i64 0, .bool false] 24 (0, 0)) (bl_ BK191.out)) : gb196 ≠ gb191)); clear BK190 BK191 HB; have BK190 := n0_; have BK191 := n1_; have HB := n2_; have BK196 := n3_; have GW196 := n4_; have GE196 := n5_; have NB190_196 := n6_; have NB196_190 := n7_; have NB191_196 := n8_; have NB196_191 := n9_; clear n0_ n1_ n2_ n3_ n4_ n5_ n6_ n7_ n8_ n9_; clear hb hbox hg; have hnb61 := NB196_190.out; have hnc61 := NB190_196.out; have hnb62 := NB196_191.out; have hnc62 := NB191_196.out; obtain ⟨hcz63_0, hcz63_1, hcz63_2, hcz63_3, hcz63_4, hcz63_5, hfz63_0, hfz63_1, hfz63_2, hfz63_3, hfz63_4, hfz63_5⟩ := cz6_ BK196.out; obtain ⟨hcz64_0, hcz64_1, hcz64_2, hcz64_3, hcz64_4, hcz64_5, hfz64_0, hfz64_1, hfz64_2, hfz64_3, hfz64_4, hfz64_5⟩ := cz6_ BK191.out) | ((with_reducible refine gate_store (t := 24) (p := 11) rfl ?_); refine store_event (t := 24) (p := 11) (v := ?vo_w908) (w1 := ((((((w60.setCell ⟨gb196, 0, none⟩ (.int .i64 a0_0)).setCell ⟨gb196, 1, none⟩ (.int .i64 t194)).setCell ⟨gb196, 2, none⟩ (.int .i64 a0_2)).setCell ⟨gb196, 3, none⟩ (.int .i64 a2)).setCell ⟨gb196, 4, none⟩ (.int .i64 0)).setCell ⟨gb196, 5, none⟩ (.bool false))) ?hg ?ho ?hn ?hr ?_; (case ho => rfl); (case hg => rfl); (case hn => rfl); (case hr => first | (go_simp; done) | (go_simp; rfl)); intro w908 hw; have n0_ : Aside0 (w908.heap[gb190]? = some (.cells #[.int .i64 a0_0, .int .i64 a0_1, .int .i64 a0_2, .int .i64 a0_3, .int .i64 a0_4, .bool a0_5] 24 (0, 0))) := ⟨(by rw [hw]; exact (by refine blk_far ?_ NB190_196.out _; refine blk_far ?_ NB190_196.out _; refine blk_far ?_ NB190_196.out _; refine blk_far ?_ NB190_196.out _; refine blk_far ?_ NB190_196.out _; refine blk_far ?_ NB190_196.out _; exact BK190.out))⟩; have n1_ : Aside0 (w908.heap[gb191]? = some (.cells #[.int .i64 0, .int .i64 0, .int .i64 0, .int .i64 0, .int .i64 0, .bool false] 24 (0, 0))) := ⟨(by rw [hw]; exact (by refine blk_far ?_ NB191_196.out _; refine blk_far ?_ NB191_196.out _; refine blk_far ?_ NB191_196.out _; refine blk_far ?_ NB191_196.out _; refine blk_far ?_ NB191_196.out _; refine blk_far ?_ NB191_196.out _; exact BK191.out))⟩; have n2_ : Aside0 (w908.heap[gb196]? = some (.cells #[.int .i64 a0_0, .int .i64 t194, .int .i64 a0_2, .int .i64 a2, .int .i64 0, .bool false] 24 (0, 0))) := ⟨(by rw [hw]; exact (by refine blk_put (cs := #[.int .i64 a0_0, .int .i64 t194, .int .i64 a0_2, .int .i64 a2, .int .i64 0, .bool false]) ?_ 5 _ rfl; refine blk_put (cs := #[.int .i64 a0_0, .int .i64 t194, .int .i64 a0_2, .int .i64 a2, .int .i64 0, .bool false]) ?_ 4 _ rfl; refine blk_put (cs := #[.int .i64 a0_0, .int .i64 t194, .int .i64 a0_2, .int .i64 0, .int .i64 0, .bool false]) ?_ 3 _ rfl; refine blk_put (cs := #[.int .i64 a0_0, .int .i64 t194, .int .i64 0, .int .i64 0, .int .i64 0, .bool false]) ?_ 2 _ rfl; refine blk_put (cs := #[.int .i64 a0_0, .int .i64 0, .int .i64 0, .int .i64 0, .int .i64 0, .bool false]) ?_ 1 _ rfl; refine blk_put (cs := #[.int .i64 0, .int .i64 0, .int .i64 0, .int .i64 0, .int .i64 0, .bool false]) ?_ 0 _ rfl; exact BK196.out))⟩; have n3_ : Aside0 (Below w.heap.size w w908) := ⟨(by rw [hw]; exact (be_ HB.out))⟩; clear hw BK190 BK191 BK196 HB; have BK190 := n0_; have BK191 := n1_; have BK196 := n2_; have HB := n3_; clear n0_ n1_ n2_ n3_; obtain ⟨hcz9080_0, hcz9080_1, hcz9080_2, hcz9080_3, hcz9080_4, hcz9080_5, hfz9080_0, hfz9080_1, hfz9080_2, hfz9080_3, hfz9080_4, hfz9080_5⟩ := cz6_ BK190.out; obtain ⟨hcz9081_0, hcz9081_1, hcz9081_2, hcz9081_3, hcz9081_4, hcz9081_5, hfz9081_0, hfz9081_1, hfz9081_2, hfz9081_3, hfz9081_4, hfz9081_5⟩ := cz6_ BK191.out; obtain ⟨hcz9082_0, hcz9082_1, hcz9082_2, hcz9082_3, hcz9082_4, hcz9082_5, hfz9082_0, hfz9082_1, hfz9082_2, hfz9082_3, hfz9082_4, hfz9082_5⟩ := cz6_ BK196.out))
                  refine bodyPost_ret (results_ct rfl _ _ gb191 24 #[.int .i64 a0_0, .int .i64 t194, .int .i64 a0_2, .int .i64 a2, .int .i64 0, .bool false] (0, 0) _ rfl (by refine bl_ ?_; refine blk_put (cs := #[.int .i64 a0_0, .int .i64 t194, .int .i64 a0_2, .int .i64 a2, .int .i64 0, .bool false]) ?_ 5 _ rfl; refine bl_ ?_; refine blk_put (cs := #[.int .i64 a0_0, .int .i64 t194, .int .i64 a0_2, .int .i64 a2, .int .i64 0, .bool false]) ?_ 4 _ rfl; refine bl_ ?_; refine blk_put (cs := #[.int .i64 a0_0, .int .i64 t194, .int .i64 a0_2, .int .i64 0, .int .i64 0, .bool false]) ?_ 3 _ rfl; refine bl_ ?_; refine blk_put (cs := #[.int .i64 a0_0, .int .i64 t194, .int .i64 0, .int .i64 0, .int .i64 0, .bool false]) ?_ 2 _ rfl; refine bl_ ?_; refine blk_put (cs := #[.int .i64 a0_0, .int .i64 0, .int .i64 0, .int .i64 0, .int .i64 0, .bool false]) ?_ 1 _ rfl; refine bl_ ?_; refine blk_put (cs := #[.int .i64 0, .int .i64 0, .int .i64 0, .int .i64 0, .int .i64 0, .bool false]) ?_ 0 _ rfl; exact BK191.out) Try.underlying24 rfl (by kernel_rfl)) rfl ?_
                  exact ⟨by first | rfl | (simp [errW_none, errW_some] <;> rfl) | (simp [*, errW_none, errW_some] <;> rfl), be_ HB.out⟩

/-! ### spec_NewConn: function 65 -/
def spec_NewConn.f (k : Nat) (a0 : Int) (a1 : Int) : Option (Int × Int × Int × Int × Int × Bool × Bool) := (spec_ConnOk.f k a0 0 0 a1 0 false).bind fun t199 => (if t199 = true then (some (a0, 0, 0, a1, 0, false, true)) else (some (0, 0, 0, 0, 0, false, false)))
theorem spec_NewConn.mono : ∀ a0 a1 k, LeO (spec_NewConn.f k a0 a1) (spec_NewConn.f (k + 1) a0 a1) := by
  intro a0 a1 k
  unfold spec_NewConn.f
  repeat' first
      | (with_reducible exact spec_ConnOk.mono _ _ _ _ _ _ _)
      | (with_reducible exact LeO.refl _)
      | (with_reducible exact LeO.none _)
      | (with_reducible refine LeO.ite ?_ ?_)
      | (with_reducible refine LeO.bind ?_ (fun _ => ?_))
      | exact spec_ConnOk.mono _ _ _ _ _ _ _
      | exact LeO.none _
      | refine LeO.ite ?_ ?_
      | refine LeO.bind ?_ (fun _ => ?_)
set_option maxHeartbeats 40000000 in
set_option maxRecDepth 100000 in
theorem spec_NewConn.calls (k : Nat) (a0 : Int) (a1 : Int) (r1 : Int) (r2 : Int) (r3 : Int) (r4 : Int) (r5 : Int) (r6 : Bool) (r7 : Bool) (w : World) (h : spec_NewConn.f k a0 a1 = some (r1, r2, r3, r4, r5, r6, r7)) :
    Calls Try.prog 65 #[.int .i64 a0, .int .i64 a1] w fun e w' => e = .returned (.tuple #[.agg #[.int .i64 r1, .int .i64 r2, .int .i64 r3, .int .i64 r4, .int .i64 r5, .bool r6], .bool r7]) ∧ Below w.heap.size w w' := by
  have hu24 := Try.underlying24
  have HB := Aside0.mk (Below.refl w.heap.size w)
  have H : ((spec_ConnOk.f k a0 0 0 a1 0 false).bind fun t199 => (if t199 = true then (some (a0, 0, 0, a1, 0, false, true)) else (some (0, 0, 0, 0, 0, false, false)))) = some (r1, r2, r3, r4, r5, r6, r7) := h
  clear h
  replace H := Option.bind_eq_some_iff.mp H
  obtain ⟨t199, A30, H⟩ := H
  replace H : (if t199 = true then (some (a0, 0, 0, a1, 0, false, true)) else (some (0, 0, 0, 0, 0, false, false))) = some (r1, r2, r3, r4, r5, r6, r7) := H
  have A3 := Aside0.mk A30
  clear A30
  by_cases c4 : t199 = true
  · subst c4
    have H1 : (some (a0, 0, 0, a1, 0, false, true)) = some (r1, r2, r3, r4, r5, r6, r7) := by rw [if_pos rfl] at H; exact H
    clear H
    have H := H1
    clear H1
    simp only [Option.some.injEq, Prod.mk.injEq] at H
    obtain ⟨rfl, rfl, rfl, rfl, rfl, rfl, rfl⟩ := H
    go_enter Try.func65, Try.ntmps65
    go_wp2_with (first | ((with_reducible refine gate_dst (N := 4) rfl ?_); refine box_event ?hg (N := 4) ?hd (cs := #[.int .i64 0, .int .i64 0, .int .i64 0, .int .i64 0, .int .i64 0, .bool false]) (t := 24) ?hr ?_; (case hd => rfl); (case hg => rfl); (case hr => first | (go_simp; done) | (go_simp; rfl)); intro gb197 hg w5 hbox hb; have n0_ := Aside0.mk (below_step (be_ HB.out) hb); have n1_ := Aside0.mk (hbox); have n2_ := Aside0.mk ((by rw [hg]; exact (below_size (be_ HB.out)) : w.heap.size ≤ gb197)); have n3_ := Aside0.mk ((by rw [hg]; exact (below_size (be_ HB.out)) : w.heap.size ≤ gb197)); clear HB; have HB := n0_; have BK197 := n1_; have GW197 := n2_; have GE197 := n3_; clear n0_ n1_ n2_ n3_; clear hb hbox hg) | ((with_reducible refine gate_dst (N := 6) rfl ?_); refine box_event ?hg (N := 6) ?hd (cs := #[.int .i64 0, .int .i64 0, .int .i64 0, .int .i64 0, .int .i64 0, .bool false]) (t := 24) ?hr ?_; (case hd => rfl); (case hg => rfl); (case hr => first | (go_simp; done) | (go_simp; rfl)); intro gb198 hg w6 hbox hb; have n0_ := Aside0.mk (blk_below (g := gb197) (o := .cells #[.int .i64 0, .int .i64 0, .int .i64 0, .int .i64 0, .int .i64 0, .bool false] 24 (0, 0)) (bl_ BK197.out) hb); have n1_ := Aside0.mk (below_step (be_ HB.out) hb); have n2_ := Aside0.mk (hbox); have n3_ := Aside0.mk ((by rw [hg]; exact (below_size (be_ HB.out)) : w.heap.size ≤ gb198)); have n4_ := Aside0.mk ((by rw [hg]; exact (below_size (be_ HB.out)) : w.heap.size ≤ gb198)); have n5_ := Aside0.mk ((by rw [hg]; exact Nat.ne_of_lt (blk_lt (g := gb197) (o := .cells #[.int .i64 0, .int .i64 0, .int .i64 0, .int .i64 0, .int .i64 0, .bool false] 24 (0, 0)) (bl_ BK197.out)) : gb197 ≠ gb198)); have n6_ := Aside0.mk ((by rw [hg]; exact Nat.ne_of_gt (blk_lt (g := gb197) (o := .cells #[.int .i64 0, .int .i64 0, .int .i64 0, .int .i64 0, .int .i64 0, .bool false] 24 (0, 0)) (bl_ BK197.out)) : gb198 ≠ gb197)); clear BK197 HB; have BK197 := n0_; have HB := n1_; have BK198 := n2_; have GW198 := n3_; have GE198 := n4_; have NB197_198 := n5_; have NB198_197 := n6_; clear n0_ n1_ n2_ n3_ n4_ n5_ n6_; clear hb hbox hg; have hnb7 := NB198_197.out; have hnc7 := NB197_198.out; obtain ⟨hcz8_0, hcz8_1, hcz8_2, hcz8_3, hcz8_4, hcz8_5, hfz8_0, hfz8_1, hfz8_2, hfz8_3, hfz8_4, hfz8_5⟩ := cz6_ BK198.out) | ((with_reducible refine gate_callee (f := 42) rfl ?_); refine goesL_ (some 11) rfl rfl Try.func42 (by kernel_rfl) rfl #[.agg #[.int .i64 a0, .int .i64 0, .int .i64 0, .int .i64 a1, .int .i64 0, .bool false]] rfl (by (try simp only [List.map_toArray, List.map_cons, List.map_nil]); first | done | rfl | (simp only [List.length_drop, List.length_take]; rfl)) ?_; (with_reducible refine (spec_ConnOk.calls k a0 0 0 a1 0 false true _ A3.out).mono ?_); rintro e w9 ⟨rfl, hb⟩; refine ⟨_, rfl, ?_⟩; have n0_ := Aside0.mk (blk_below (g := gb197) (o := .cells #[.int .i64 0, .int .i64 0, .int .i64 0, .int .i64 0, .int .i64 0, .bool false] 24 (0, 0)) (by refine bl_ ?_; refine blk_far ?_ NB197_198.out _; refine bl_ ?_; refine blk_far ?_ NB197_198.out _; refine bl_ ?_; refine blk_far ?_ NB197_198.out _; refine bl_ ?_; refine blk_far ?_ NB197_198.out _; refine bl_ ?_; refine blk_far ?_ NB197_198.out _; refine bl_ ?_; refine blk_far ?_ NB197_198.out _; refine bl_ ?_; exact BK197.out) hb); have n1_ := Aside0.mk (blk_below (g := gb198) (o := .cells #[.int .i64 a0, .int .i64 0, .int .i64 0, .int .i64 a1, .int .i64 0, .bool false] 24 (0, 0)) (by refine bl_ ?_; refine blk_put (cs := #[.int .i64 a0, .int .i64 0, .int .i64 0, .int .i64 a1, .int .i64 0, .bool false]) ?_ 5 _ rfl; refine bl_ ?_; refine blk_put (cs := #[.int .i64 a0, .int .i64 0, .int .i64 0, .int .i64 a1, .int .i64 0, .bool false]) ?_ 4 _ rfl; refine bl_ ?_; refine blk_put (cs := #[.int .i64 a0, .int .i64 0, .int .i64 0, .int .i64 0, .int .i64 0, .bool false]) ?_ 3 _ rfl; refine bl_ ?_; refine blk_put (cs := #[.int .i64 a0, .int .i64 0, .int .i64 0, .int .i64 0, .int .i64 0, .bool false]) ?_ 2 _ rfl; refine bl_ ?_; refine blk_put (cs := #[.int .i64 a0, .int .i64 0, .int .i64 0, .int .i64 0, .int .i64 0, .bool false]) ?_ 1 _ rfl; refine bl_ ?_; refine blk_put (cs := #[.int .i64 0, .int .i64 0, .int .i64 0, .int .i64 0, .int .i64 0, .bool false]) ?_ 0 _ rfl; refine bl_ ?_; exact BK198.out) hb); have n2_ := Aside0.mk (below_step (be_ HB.out) hb); clear BK197 BK198 HB; have BK197 := n0_; have BK198 := n1_; have HB := n2_; clear n0_ n1_ n2_; (try clear hb); (try clear hb2); (try clear hk); (try clear hi); obtain ⟨hcz10_0, hcz10_1, hcz10_2, hcz10_3, hcz10_4, hcz10_5, hfz10_0, hfz10_1, hfz10_2, hfz10_3, hfz10_4, hfz10_5⟩ := cz6_ BK198.out; obtain ⟨hcz11_0, hcz11_1, hcz11_2, hcz11_3, hcz11_4, hcz11_5, hfz11_0, hfz11_1, hfz11_2, hfz11_3, hfz11_4, hfz11_5⟩ := cz6_ BK197.out))
    refine bodyPost_ret (results_ct rfl _ _ gb197 24 #[.int .i64 a0, .int .i64 0, .int .i64 0, .int .i64 a1, .int .i64 0, .bool false] (0, 0) _ rfl (by refine bl_ ?_; refine blk_put (cs := #[.int .i64 a0, .int .i64 0, .int .i64 0, .int .i64 a1, .int .i64 0, .bool false]) ?_ 5 _ rfl; refine bl_ ?_; refine blk_put (cs := #[.int .i64 a0, .int .i64 0, .int .i64 0, .int .i64 a1, .int .i64 0, .bool false]) ?_ 4 _ rfl; refine bl_ ?_; refine blk_put (cs := #[.int .i64 a0, .int .i64 0, .int .i64 0, .int .i64 0, .int .i64 0, .bool false]) ?_ 3 _ rfl; refine bl_ ?_; refine blk_put (cs := #[.int .i64 a0, .int .i64 0, .int .i64 0, .int .i64 0, .int .i64 0, .bool false]) ?_ 2 _ rfl; refine bl_ ?_; refine blk_put (cs := #[.int .i64 a0, .int .i64 0, .int .i64 0, .int .i64 0, .int .i64 0, .bool false]) ?_ 1 _ rfl; refine bl_ ?_; refine blk_put (cs := #[.int .i64 0, .int .i64 0, .int .i64 0, .int .i64 0, .int .i64 0, .bool false]) ?_ 0 _ rfl; refine bl_ ?_; exact BK197.out) Try.underlying24 rfl (by kernel_rfl)) rfl ?_
    exact ⟨by first | rfl | (simp [errW_none, errW_some] <;> rfl) | (simp [*, errW_none, errW_some] <;> rfl), be_ HB.out⟩
  · replace c4 := Bool.eq_false_iff.mpr c4
    subst c4
    have H1 : (some (0, 0, 0, 0, 0, false, false)) = some (r1, r2, r3, r4, r5, r6, r7) := by rw [if_neg (show ¬ (false = true) by decide)] at H; exact H
    clear H
    have H := H1
    clear H1
    simp only [Option.some.injEq, Prod.mk.injEq] at H
    obtain ⟨rfl, rfl, rfl, rfl, rfl, rfl, rfl⟩ := H
    go_enter Try.func65, Try.ntmps65
    go_wp2_with (first | ((with_reducible refine gate_dst (N := 4) rfl ?_); refine box_event ?hg (N := 4) ?hd (cs := #[.int .i64 0, .int .i64 0, .int .i64 0, .int .i64 0, .int .i64 0, .bool false]) (t := 24) ?hr ?_; (case hd => rfl); (case hg => rfl); (case hr => first | (go_simp; done) | (go_simp; rfl)); intro gb197 hg w12 hbox hb; have n0_ := Aside0.mk (below_step (be_ HB.out) hb); have n1_ := Aside0.mk (hbox); have n2_ := Aside0.mk ((by rw [hg]; exact (below_size (be_ HB.out)) : w.heap.size ≤ gb197)); have n3_ := Aside0.mk ((by rw [hg]; exact (below_size (be_ HB.out)) : w.heap.size ≤ gb197)); clear HB; have HB := n0_; have BK197 := n1_; have GW197 := n2_; have GE197 := n3_; clear n0_ n1_ n2_ n3_; clear hb hbox hg) | ((with_reducible refine gate_dst (N := 6) rfl ?_); refine box_event ?hg (N := 6) ?hd (cs := #[.int .i64 0, .int .i64 0, .int .i64 0, .int .i64 0, .int .i64 0, .bool false]) (t := 24) ?hr ?_; (case hd => rfl); (case hg => rfl); (case hr => first | (go_simp; done) | (go_simp; rfl)); intro gb198 hg w13 hbox hb; have n0_ := Aside0.mk (blk_below (g := gb197) (o := .cells #[.int .i64 0, .int .i64 0, .int .i64 0, .int .i64 0, .int .i64 0, .bool false] 24 (0, 0)) (bl_ BK197.out) hb); have n1_ := Aside0.mk (below_step (be_ HB.out) hb); have n2_ := Aside0.mk (hbox); have n3_ := Aside0.mk ((by rw [hg]; exact (below_size (be_ HB.out)) : w.heap.size ≤ gb198)); have n4_ := Aside0.mk ((by rw [hg]; exact (below_size (be_ HB.out)) : w.heap.size ≤ gb198)); have n5_ := Aside0.mk ((by rw [hg]; exact Nat.ne_of_lt (blk_lt (g := gb197) (o := .cells #[.int .i64 0, .int .i64 0, .int .i64 0, .int .i64 0, .int .i64 0, .bool false] 24 (0, 0)) (bl_ BK197.out)) : gb197 ≠ gb198)); have n6_ := Aside0.mk ((by rw [hg]; exact Nat.ne_of_gt (blk_lt (g := gb197) (o := .cells #[.int .i64 0, .int .i64 0, .int .i64 0, .int .i64 0, .int .i64 0, .bool false] 24 (0, 0)) (bl_ BK197.out)) : gb198 ≠ gb197)); clear BK197 HB; have BK197 := n0_; have HB := n1_; have BK198 := n2_; have GW198 := n3_; have GE198 := n4_; have NB197_198 := n5_; have NB198_197 := n6_; clear n0_ n1_ n2_ n3_ n4_ n5_ n6_; clear hb hbox hg; have hnb14 := NB198_197.out; have hnc14 := NB197_198.out; obtain ⟨hcz15_0, hcz15_1, hcz15_2, hcz15_3, hcz15_4, hcz15_5, hfz15_0, hfz15_1, hfz15_2, hfz15_3, hfz15_4, hfz15_5⟩ := cz6_ BK198.out) | ((with_reducible refine gate_callee (f := 42) rfl ?_); refine goesL_ (some 11) rfl rfl Try.func42 (by kernel_rfl) rfl #[.agg #[.int .i64 a0, .int .i64 0, .int .i64 0, .int .i64 a1, .int .i64 0, .bool false]] rfl (by (try simp only [List.map_toArray, List.map_cons, List.map_nil]); first | done | rfl | (simp only [List.length_drop, List.length_take]; rfl)) ?_; (with_reducible refine (spec_ConnOk.calls k a0 0 0 a1 0 false false _ A3.out).mono ?_); rintro e w16 ⟨rfl, hb⟩; refine ⟨_, rfl, ?_⟩; have n0_ := Aside0.mk (blk_below (g := gb197) (o := .cells #[.int .i64 0, .int .i64 0, .int .i64 0, .int .i64 0, .int .i64 0, .bool false] 24 (0, 0)) (by refine bl_ ?_; refine blk_far ?_ NB197_198.out _; refine bl_ ?_; refine blk_far ?_ NB197_198.out _; refine bl_ ?_; refine blk_far ?_ NB197_198.out _; refine bl_ ?_; refine blk_far ?_ NB197_198.out _; refine bl_ ?_; refine blk_far ?_ NB197_198.out _; refine bl_ ?_; refine blk_far ?_ NB197_198.out _; refine bl_ ?_; exact BK197.out) hb); have n1_ := Aside0.mk (blk_below (g := gb198) (o := .cells #[.int .i64 a0, .int .i64 0, .int .i64 0, .int .i64 a1, .int .i64 0, .bool false] 24 (0, 0)) (by refine bl_ ?_; refine blk_put (cs := #[.int .i64 a0, .int .i64 0, .int .i64 0, .int .i64 a1, .int .i64 0, .bool false]) ?_ 5 _ rfl; refine bl_ ?_; refine blk_put (cs := #[.int .i64 a0, .int .i64 0, .int .i64 0, .int .i64 a1, .int .i64 0, .bool false]) ?_ 4 _ rfl; refine bl_ ?_; refine blk_put (cs := #[.int .i64 a0, .int .i64 0, .int .i64 0, .int .i64 0, .int .i64 0, .bool false]) ?_ 3 _ rfl; refine bl_ ?_; refine blk_put (cs := #[.int .i64 a0, .int .i64 0, .int .i64 0, .int .i64 0, .int .i64 0, .bool false]) ?_ 2 _ rfl; refine bl_ ?_; refine blk_put (cs := #[.int .i64 a0, .int .i64 0, .int .i64 0, .int .i64 0, .int .i64 0, .bool false]) ?_ 1 _ rfl; refine bl_ ?_; refine blk_put (cs := #[.int .i64 0, .int .i64 0, .int .i64 0, .int .i64 0, .int .i64 0, .bool false]) ?_ 0 _ rfl; refine bl_ ?_; exact BK198.out) hb); have n2_ := Aside0.mk (below_step (be_ HB.out) hb); clear BK197 BK198 HB; have BK197 := n0_; have BK198 := n1_; have HB := n2_; clear n0_ n1_ n2_; (try clear hb); (try clear hb2); (try clear hk); (try clear hi); obtain ⟨hcz17_0, hcz17_1, hcz17_2, hcz17_3, hcz17_4, hcz17_5, hfz17_0, hfz17_1, hfz17_2, hfz17_3, hfz17_4, hfz17_5⟩ := cz6_ BK197.out))
    refine bodyPost_ret (results_ct rfl _ _ gb197 24 #[.int .i64 0, .int .i64 0, .int .i64 0, .int .i64 0, .int .i64 0, .bool false] (0, 0) _ rfl (by refine bl_ ?_; refine blk_put (cs := #[.int .i64 0, .int .i64 0, .int .i64 0, .int .i64 0, .int .i64 0, .bool false]) ?_ 5 _ rfl; refine bl_ ?_; refine blk_put (cs := #[.int .i64 0, .int .i64 0, .int .i64 0, .int .i64 0, .int .i64 0, .bool false]) ?_ 4 _ rfl; refine bl_ ?_; refine blk_put (cs := #[.int .i64 0, .int .i64 0, .int .i64 0, .int .i64 0, .int .i64 0, .bool false]) ?_ 3 _ rfl; refine bl_ ?_; refine blk_put (cs := #[.int .i64 0, .int .i64 0, .int .i64 0, .int .i64 0, .int .i64 0, .bool false]) ?_ 2 _ rfl; refine bl_ ?_; refine blk_put (cs := #[.int .i64 0, .int .i64 0, .int .i64 0, .int .i64 0, .int .i64 0, .bool false]) ?_ 1 _ rfl; refine bl_ ?_; refine blk_put (cs := #[.int .i64 0, .int .i64 0, .int .i64 0, .int .i64 0, .int .i64 0, .bool false]) ?_ 0 _ rfl; refine bl_ ?_; exact BK197.out) Try.underlying24 rfl (by kernel_rfl)) rfl ?_
    exact ⟨by first | rfl | (simp [errW_none, errW_some] <;> rfl) | (simp [*, errW_none, errW_some] <;> rfl), be_ HB.out⟩

end Go.Proofs.Ytpckdemamlhpdaa.MFnConns
