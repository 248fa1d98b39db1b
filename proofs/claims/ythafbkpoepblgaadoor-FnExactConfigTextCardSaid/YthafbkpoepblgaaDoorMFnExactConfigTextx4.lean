-- Written by a program of this session over the kit's print, with stand-ins for the functions that the print leaves; Lean checks it.
import Derived.Test.YthafbkpoepblgaaDoorMFnExactConfigTextx0
import Derived.Test.YthafbkpoepblgaaDoorMFnExactConfigTextx3
namespace Go.Proofs.YthafbkpoepblgaaDoor.MFnExactConfigText
open Go.RowKit Go.Proofs.YthafbkpoepblgaaDoorW.PrintWords Go.Proofs.YthafbkpoepblgaaDoorW.PrintLast Go.Proofs.YthafbkpoepblgaaDoorW.PrintMore
attribute [local go_sem] max2_int min2_int max_two min_two max_three min_three max_four min_four   -- for this text's walks alone
set_option linter.unusedVariables false
set_option linter.unusedSimpArgs false

/-! ### impl_ConfigOk: function 11 -/
mutual
def impl_ConfigOk.l0 : Nat → List Int → Int → Int → Int → Int → Int → Int → Int → Int → Int → Int → Int → Int → Int → Int → Int → Int → Option (Bool)
  | 0, _, _, _, _, _, _, _, _, _, _, _, _, _, _, _, _, _ => none
  | k + 1, x19, x20, x21, x146000, x146001, x146002, x146003, x146004, x146005, x146006, x146007, x146008, x146009, x146010, x146011, x146012, x146013 => if x21 < x20 then (if 0 ≤ x21 then (if x21 < (x19.length : Int) then ((impl_TickOk.f (rd x19 x21)).bind fun t150 => (if t150 = true then (impl_ConfigOk.l0 k x19 x20 (wrap64 (x21 + 1)) x146000 x146001 x146002 x146003 x146004 x146005 x146006 x146007 x146008 x146009 x146010 x146011 x146012 x146013) else (some false))) else (none)) else (none)) else ((impl_in.f x146001 1 12).bind fun t151 => (if t151 = true then ((impl_in.f x146000 0 x146001).bind fun t152 => (if t152 = true then (if x146002 ≥ 1 then (impl_ConfigOk.j1 k (decide (x146013 ≥ 1)) x146000 x146001 x146002 x146003 x146004 x146005 x146006 x146007 x146008 x146009 x146010 x146011 x146012 x146013) else (impl_ConfigOk.j1 k false x146000 x146001 x146002 x146003 x146004 x146005 x146006 x146007 x146008 x146009 x146010 x146011 x146012 x146013)) else (impl_ConfigOk.j1 k false x146000 x146001 x146002 x146003 x146004 x146005 x146006 x146007 x146008 x146009 x146010 x146011 x146012 x146013))) else (impl_ConfigOk.j1 k false x146000 x146001 x146002 x146003 x146004 x146005 x146006 x146007 x146008 x146009 x146010 x146011 x146012 x146013)))
def impl_ConfigOk.j1 : Nat → Bool → Int → Int → Int → Int → Int → Int → Int → Int → Int → Int → Int → Int → Int → Int → Option (Bool)
  | 0, _, _, _, _, _, _, _, _, _, _, _, _, _, _, _ => none
  | k + 1, x5, x146000, x146001, x146002, x146003, x146004, x146005, x146006, x146007, x146008, x146009, x146010, x146011, x146012, x146013 => (impl_in.f x146007 1 x146008).bind fun t153 => (if t153 = true then (if x146008 ≤ 1000000 then ((impl_in.f x146009 0 100).bind fun t154 => (if x5 = true then (if t154 = true then ((impl_in.f x146010 1 1000000).bind fun t155 => (if t155 = true then ((impl_in.f x146012 1 1000000).bind fun t156 => (if t156 = true then ((impl_in.f x146011 1 20).bind fun t157 => (some t157)) else (some false))) else (some false))) else (some false)) else (some false))) else (if x5 = true then (some false) else (some false))) else (if x5 = true then (some false) else (some false)))
end
def impl_ConfigOk.f (k : Nat) (a0_0 : Int) (a0_1 : Int) (a0_2 : Int) (a0_3 : Int) (a0_4 : Int) (a0_5 : Int) (a0_6 : Int) (a0_7 : Int) (a0_8 : Int) (a0_9 : Int) (a0_10 : Int) (a0_11 : Int) (a0_12 : Int) (a0_13 : Int) : Option (Bool) := (some (([a0_2, a0_3, a0_4, a0_5, a0_6, a0_13] : List Int) : List Int)).bind fun y146 => (impl_ConfigOk.l0 k y146 (y146.length : Int) 0 a0_0 a0_1 a0_2 a0_3 a0_4 a0_5 a0_6 a0_7 a0_8 a0_9 a0_10 a0_11 a0_12 a0_13)
theorem impl_ConfigOk.mono_l : ∀ k, (∀ y0 y1 y2 y3 y4 y5 y6 y7 y8 y9 y10 y11 y12 y13 y14 y15 y16, LeO (impl_ConfigOk.l0 k y0 y1 y2 y3 y4 y5 y6 y7 y8 y9 y10 y11 y12 y13 y14 y15 y16) (impl_ConfigOk.l0 (k + 1) y0 y1 y2 y3 y4 y5 y6 y7 y8 y9 y10 y11 y12 y13 y14 y15 y16)) ∧ (∀ y0 y1 y2 y3 y4 y5 y6 y7 y8 y9 y10 y11 y12 y13 y14, LeO (impl_ConfigOk.j1 k y0 y1 y2 y3 y4 y5 y6 y7 y8 y9 y10 y11 y12 y13 y14) (impl_ConfigOk.j1 (k + 1) y0 y1 y2 y3 y4 y5 y6 y7 y8 y9 y10 y11 y12 y13 y14))
  | 0 => ⟨fun _ _ _ _ _ _ _ _ _ _ _ _ _ _ _ _ _ r h => by simp [impl_ConfigOk.l0] at h, fun _ _ _ _ _ _ _ _ _ _ _ _ _ _ _ r h => by simp [impl_ConfigOk.j1] at h⟩
  | k + 1 => by
    obtain ⟨ih0, ih1⟩ := impl_ConfigOk.mono_l k
    refine ⟨?_, ?_⟩
    · intro y0 y1 y2 y3 y4 y5 y6 y7 y8 y9 y10 y11 y12 y13 y14 y15 y16
      unfold impl_ConfigOk.l0
      repeat' first
      | (with_reducible exact ih0 _ _ _ _ _ _ _ _ _ _ _ _ _ _ _ _ _)
      | (with_reducible exact ih1 _ _ _ _ _ _ _ _ _ _ _ _ _ _ _)
      | (with_reducible exact LeO.refl _)
      | (with_reducible exact LeO.none _)
      | (with_reducible refine LeO.ite ?_ ?_)
      | (with_reducible refine LeO.bind ?_ (fun _ => ?_))
      | exact ih0 _ _ _ _ _ _ _ _ _ _ _ _ _ _ _ _ _
      | exact ih1 _ _ _ _ _ _ _ _ _ _ _ _ _ _ _
      | exact LeO.none _
      | refine LeO.ite ?_ ?_
      | refine LeO.bind ?_ (fun _ => ?_)
    · intro y0 y1 y2 y3 y4 y5 y6 y7 y8 y9 y10 y11 y12 y13 y14
      unfold impl_ConfigOk.j1
      repeat' first
      | (with_reducible exact ih0 _ _ _ _ _ _ _ _ _ _ _ _ _ _ _ _ _)
      | (with_reducible exact ih1 _ _ _ _ _ _ _ _ _ _ _ _ _ _ _)
      | (with_reducible exact LeO.refl _)
      | (with_reducible exact LeO.none _)
      | (with_reducible refine LeO.ite ?_ ?_)
      | (with_reducible refine LeO.bind ?_ (fun _ => ?_))
      | exact ih0 _ _ _ _ _ _ _ _ _ _ _ _ _ _ _ _ _
      | exact ih1 _ _ _ _ _ _ _ _ _ _ _ _ _ _ _
      | exact LeO.none _
      | refine LeO.ite ?_ ?_
      | refine LeO.bind ?_ (fun _ => ?_)
theorem impl_ConfigOk.mono : ∀ a0 a1 a2 a3 a4 a5 a6 a7 a8 a9 a10 a11 a12 a13 k, LeO (impl_ConfigOk.f k a0 a1 a2 a3 a4 a5 a6 a7 a8 a9 a10 a11 a12 a13) (impl_ConfigOk.f (k + 1) a0 a1 a2 a3 a4 a5 a6 a7 a8 a9 a10 a11 a12 a13) := by
  intro a0 a1 a2 a3 a4 a5 a6 a7 a8 a9 a10 a11 a12 a13 k
  obtain ⟨ih0, ih1⟩ := impl_ConfigOk.mono_l k
  unfold impl_ConfigOk.f
  repeat' first
      | (with_reducible exact ih0 _ _ _ _ _ _ _ _ _ _ _ _ _ _ _ _ _)
      | (with_reducible exact ih1 _ _ _ _ _ _ _ _ _ _ _ _ _ _ _)
      | (with_reducible exact LeO.refl _)
      | (with_reducible exact LeO.none _)
      | (with_reducible refine LeO.ite ?_ ?_)
      | (with_reducible refine LeO.bind ?_ (fun _ => ?_))
      | exact ih0 _ _ _ _ _ _ _ _ _ _ _ _ _ _ _ _ _
      | exact ih1 _ _ _ _ _ _ _ _ _ _ _ _ _ _ _
      | exact LeO.none _
      | refine LeO.ite ?_ ?_
      | refine LeO.bind ?_ (fun _ => ?_)
set_option maxHeartbeats 40000000 in
set_option maxRecDepth 100000 in
theorem impl_ConfigOk.calls (k : Nat) (a0_0 : Int) (a0_1 : Int) (a0_2 : Int) (a0_3 : Int) (a0_4 : Int) (a0_5 : Int) (a0_6 : Int) (a0_7 : Int) (a0_8 : Int) (a0_9 : Int) (a0_10 : Int) (a0_11 : Int) (a0_12 : Int) (a0_13 : Int) (r : Bool) (w : World) (h : impl_ConfigOk.f k a0_0 a0_1 a0_2 a0_3 a0_4 a0_5 a0_6 a0_7 a0_8 a0_9 a0_10 a0_11 a0_12 a0_13 = some r) :
    Calls Tryd.prog 11 #[.agg #[.int .i64 a0_0, .int .i64 a0_1, .int .i64 a0_2, .int .i64 a0_3, .int .i64 a0_4, .int .i64 a0_5, .int .i64 a0_6, .int .i64 a0_7, .int .i64 a0_8, .int .i64 a0_9, .int .i64 a0_10, .int .i64 a0_11, .int .i64 a0_12, .int .i64 a0_13]] w fun e w' => e = .returned (.bool r) ∧ Below w.heap.size w w' := by
  have hu26 := Tryd.underlying26
  have HB := Aside0.mk (Below.refl w.heap.size w)
  have H : ((some (([a0_2, a0_3, a0_4, a0_5, a0_6, a0_13] : List Int) : List Int)).bind fun y146 => (impl_ConfigOk.l0 k y146 (y146.length : Int) 0 a0_0 a0_1 a0_2 a0_3 a0_4 a0_5 a0_6 a0_7 a0_8 a0_9 a0_10 a0_11 a0_12 a0_13)) = some r := h
  clear h
  obtain ⟨y146, hy146⟩ : ∃ y_ : List Int, y_ = (([a0_2, a0_3, a0_4, a0_5, a0_6, a0_13] : List Int)) := ⟨_, rfl⟩
  replace H : (impl_ConfigOk.l0 k y146 (y146.length : Int) 0 a0_0 a0_1 a0_2 a0_3 a0_4 a0_5 a0_6 a0_7 a0_8 a0_9 a0_10 a0_11 a0_12 a0_13) = some r := by first | (rw [hy146]; with_reducible exact H) | (have H2_ := (Option.bind_some _ _).symm.trans H; rw [hy146]; with_reducible exact H2_) | (have H2_ := (Option.bind_some _ _).symm.trans H; with_reducible exact H2_) | with_reducible exact H | (rw [hy146]; exact H) | exact H
  have Ny146 := Aside0.mk hy146
  clear hy146
  have H' := Aside0.mk H
  clear H
  go_enter Tryd.func11, Tryd.ntmps11
  go_wp2_with (first | ((with_reducible refine gate_dst (N := 1) rfl ?_); refine box_event ?hg (N := 1) ?hd (cs := #[.int .i64 a0_0, .int .i64 a0_1, .int .i64 a0_2, .int .i64 a0_3, .int .i64 a0_4, .int .i64 a0_5, .int .i64 a0_6, .int .i64 a0_7, .int .i64 a0_8, .int .i64 a0_9, .int .i64 a0_10, .int .i64 a0_11, .int .i64 a0_12, .int .i64 a0_13]) (t := 26) ?hr ?_; (case hd => rfl); (case hg => rfl); (case hr => first | (go_simp; done) | (go_simp; rfl)); intro gb145 hg w2 hbox hb; have n0_ := Aside0.mk (below_step (by repeat (first | (with_reducible first | exact HB.out | apply below_alloc | apply pw_below_drewN | apply below_drew1) | exact HB.out)) hb); have n1_ := Aside0.mk (hbox); have n2_ := Aside0.mk ((by rw [hg]; exact (below_size (by repeat (first | (with_reducible first | exact HB.out | apply below_alloc | apply pw_below_drewN | apply below_drew1) | exact HB.out))) : w.heap.size ≤ gb145)); have n3_ := Aside0.mk ((by rw [hg]; exact (below_size (by repeat (first | (with_reducible first | exact HB.out | apply below_alloc | apply pw_below_drewN | apply below_drew1) | exact HB.out))) : w.heap.size ≤ gb145)); clear HB; have HB := n0_; have BK145 := n1_; have GW145 := n2_; have GE145 := n3_; clear n0_ n1_ n2_ n3_; clear hb hbox hg; have hcz3_0 : w2.cell? ⟨gb145, 0, none⟩ = some (.int .i64 a0_0) := (blk_cell BK145.out 0).trans rfl; have hcz3_1 : w2.cell? ⟨gb145, 1, none⟩ = some (.int .i64 a0_1) := (blk_cell BK145.out 1).trans rfl; have hcz3_2 : w2.cell? ⟨gb145, 2, none⟩ = some (.int .i64 a0_2) := (blk_cell BK145.out 2).trans rfl; have hcz3_3 : w2.cell? ⟨gb145, 3, none⟩ = some (.int .i64 a0_3) := (blk_cell BK145.out 3).trans rfl; have hcz3_4 : w2.cell? ⟨gb145, 4, none⟩ = some (.int .i64 a0_4) := (blk_cell BK145.out 4).trans rfl; have hcz3_5 : w2.cell? ⟨gb145, 5, none⟩ = some (.int .i64 a0_5) := (blk_cell BK145.out 5).trans rfl; have hcz3_6 : w2.cell? ⟨gb145, 6, none⟩ = some (.int .i64 a0_6) := (blk_cell BK145.out 6).trans rfl; have hcz3_7 : w2.cell? ⟨gb145, 7, none⟩ = some (.int .i64 a0_7) := (blk_cell BK145.out 7).trans rfl; have hcz3_8 : w2.cell? ⟨gb145, 8, none⟩ = some (.int .i64 a0_8) := (blk_cell BK145.out 8).trans rfl; have hcz3_9 : w2.cell? ⟨gb145, 9, none⟩ = some (.int .i64 a0_9) := (blk_cell BK145.out 9).trans rfl; have hcz3_10 : w2.cell? ⟨gb145, 10, none⟩ = some (.int .i64 a0_10) := (blk_cell BK145.out 10).trans rfl; have hcz3_11 : w2.cell? ⟨gb145, 11, none⟩ = some (.int .i64 a0_11) := (blk_cell BK145.out 11).trans rfl; have hcz3_12 : w2.cell? ⟨gb145, 12, none⟩ = some (.int .i64 a0_12) := (blk_cell BK145.out 12).trans rfl; have hcz3_13 : w2.cell? ⟨gb145, 13, none⟩ = some (.int .i64 a0_13) := (blk_cell BK145.out 13).trans rfl; have hfz3_0 := blk_frozen BK145.out 0; have hfz3_1 := blk_frozen BK145.out 1; have hfz3_2 := blk_frozen BK145.out 2; have hfz3_3 := blk_frozen BK145.out 3; have hfz3_4 := blk_frozen BK145.out 4; have hfz3_5 := blk_frozen BK145.out 5; have hfz3_6 := blk_frozen BK145.out 6; have hfz3_7 := blk_frozen BK145.out 7; have hfz3_8 := blk_frozen BK145.out 8; have hfz3_9 := blk_frozen BK145.out 9; have hfz3_10 := blk_frozen BK145.out 10; have hfz3_11 := blk_frozen BK145.out 11; have hfz3_12 := blk_frozen BK145.out 12; have hfz3_13 := blk_frozen BK145.out 13) | ((with_reducible refine gate_dst (N := 19) rfl ?_); refine Kd.R_lit (Kd.int .i64) _ 3 ?hg (N := 19) ?hd (xs := ([a0_2, a0_3, a0_4, a0_5, a0_6, a0_13] : List Int)) (inner := [.int .i64 a0_2, .int .i64 a0_3, .int .i64 a0_4, .int .i64 a0_5, .int .i64 a0_6, .int .i64 a0_13]) (ok := fun _ => True) (okp := fun _ => True) ?hr ?hp (fun _ hk => hk) trivial (Below.refl _ _) (Nat.le_refl _) (by simp) ?_; (case hd => rfl); (case hg => rfl); (case hr => first | (go_simp; done) | (go_simp; rfl)); (case hp => exact (Reps.one (show Kd.M (Kd.int .i64) _ _ _ a0_2 [.int .i64 a0_2] from rfl) (Reps.one (show Kd.M (Kd.int .i64) _ _ _ a0_3 [.int .i64 a0_3] from rfl) (Reps.one (show Kd.M (Kd.int .i64) _ _ _ a0_4 [.int .i64 a0_4] from rfl) (Reps.one (show Kd.M (Kd.int .i64) _ _ _ a0_5 [.int .i64 a0_5] from rfl) (Reps.one (show Kd.M (Kd.int .i64) _ _ _ a0_6 [.int .i64 a0_6] from rfl) (Reps.one (show Kd.M (Kd.int .i64) _ _ _ a0_13 [.int .i64 a0_13] from rfl) (Reps.none _ _)))))))); intro v147 w4 ho5 hb hg_ hnew_; clear hg_ hnew_; (first | rw [← Ny146.out] at ho5 | (simp only [Int.reduceToNat] at ho5; rw [← Ny146.out] at ho5)); have n0_ := Aside0.mk (Kd.R_lower ho5 (below_size (by repeat (first | (with_reducible first | exact HB.out | apply below_alloc | apply pw_below_drewN | apply below_drew1 | refine below_set ?_ GE145.out) | exact HB.out)))); have n1_ := Aside0.mk (blk_below (g := gb145) (o := .cells #[.int .i64 a0_0, .int .i64 a0_1, .int .i64 a0_2, .int .i64 a0_3, .int .i64 a0_4, .int .i64 a0_5, .int .i64 a0_6, .int .i64 a0_7, .int .i64 a0_8, .int .i64 a0_9, .int .i64 a0_10, .int .i64 a0_11, .int .i64 a0_12, .int .i64 a0_13] 26 (0, 0)) (by (with_reducible repeat (first | refine blk_drewN ?_ _ | refine blk_drew ?_ | refine blk_alloc ?_ _)); exact BK145.out) hb); have n2_ := Aside0.mk (below_step (by repeat (first | (with_reducible first | exact HB.out | apply below_alloc | apply pw_below_drewN | apply below_drew1 | refine below_set ?_ GE145.out) | exact HB.out)) hb); clear BK145; clear HB; have HO148 := n0_; have BK145 := n1_; have HB := n2_; clear n0_ n1_ n2_; clear hb ho5; obtain ⟨Ao6, co6, eo6⟩ := Kd.R_slice HO148.out; subst eo6))
  go_loopg [21] k (fun kq zv21 w' => ∃ (x21_1 : Int), zv21 = .int .i64 x21_1 ∧ Aside0 (impl_ConfigOk.l0 kq y146 (y146.length : Int) x21_1 a0_0 a0_1 a0_2 a0_3 a0_4 a0_5 a0_6 a0_7 a0_8 a0_9 a0_10 a0_11 a0_12 a0_13 = some r) ∧ Aside0 (kq ≤ k) ∧ Aside0 (Kd.R (Kd.int .i64) 3 w' w.heap.size (fun _ => True) (.slice Ao6 y146.length co6) y146) ∧ Aside0 (w'.heap[gb145]? = some (.cells #[.int .i64 a0_0, .int .i64 a0_1, .int .i64 a0_2, .int .i64 a0_3, .int .i64 a0_4, .int .i64 a0_5, .int .i64 a0_6, .int .i64 a0_7, .int .i64 a0_8, .int .i64 a0_9, .int .i64 a0_10, .int .i64 a0_11, .int .i64 a0_12, .int .i64 a0_13] 26 (0, 0))) ∧ Aside0 (Below w.heap.size w w'))
  case atStart => exact ⟨(0), (by first | rfl | (simp; done) | (simp [*]; done)), H', ⟨Nat.le_refl _⟩, ⟨by (with_reducible repeat (first | apply Kd.R_alloc | apply Kd.R_drewN | apply Kd.R_drew)); exact HO148.out⟩, ⟨by (with_reducible repeat (first | refine blk_drewN ?_ _ | refine blk_drew ?_ | refine blk_alloc ?_ _)); exact BK145.out⟩, ⟨by repeat (first | (with_reducible first | exact HB.out | apply below_alloc | apply pw_below_drewN | apply below_drew1 | refine below_set ?_ GE145.out) | exact HB.out)⟩⟩
  case round =>
    clear H'
    try clear c1
    try clear p2
    try clear hcz3_0
    try clear hcz3_1
    try clear hcz3_10
    try clear hcz3_11
    try clear hcz3_12
    try clear hcz3_13
    try clear hcz3_2
    try clear hcz3_3
    try clear hcz3_4
    try clear hcz3_5
    try clear hcz3_6
    try clear hcz3_7
    try clear hcz3_8
    try clear hcz3_9
    try clear hfz3_0
    try clear hfz3_1
    try clear hfz3_10
    try clear hfz3_11
    try clear hfz3_12
    try clear hfz3_13
    try clear hfz3_2
    try clear hfz3_3
    try clear hfz3_4
    try clear hfz3_5
    try clear hfz3_6
    try clear hfz3_7
    try clear hfz3_8
    try clear hfz3_9
    obtain ⟨x21_1, rfl, HA, HK1, HO_19, BK145, HB⟩ := hrel
    cases gk with
    | zero => exact absurd HA.out (by simp [impl_ConfigOk.l0])
    | succ k1 =>
      have H := HA.out
      clear HA
      simp only [impl_ConfigOk.l0] at H
      by_cases c7 : x21_1 < (y146.length : Int)
      · rw [if_pos c7] at H
        have c7b0 : decide (x21_1 < (y146.length : Int)) = true := decide_eq_true c7
        clear c7
        by_cases c8 : 0 ≤ x21_1
        · rw [if_pos c8] at H
          have c8b0 : decide (0 ≤ x21_1) = true := decide_eq_true c8
          clear c8
          by_cases c9 : x21_1 < (y146.length : Int)
          · rw [if_pos c9] at H
            have c9b0 : decide (x21_1 < (y146.length : Int)) = true := decide_eq_true c9
            clear c9
            replace H := Option.bind_eq_some_iff.mp H
            obtain ⟨t150, A100, H⟩ := H
            replace H : (if t150 = true then (impl_ConfigOk.l0 k1 y146 (y146.length : Int) (wrap64 (x21_1 + 1)) a0_0 a0_1 a0_2 a0_3 a0_4 a0_5 a0_6 a0_7 a0_8 a0_9 a0_10 a0_11 a0_12 a0_13) else (some false)) = some r := H
            have A10 := Aside0.mk A100
            clear A100
            by_cases c11 : t150 = true
            · subst c11
              have H1 : (impl_ConfigOk.l0 k1 y146 (y146.length : Int) (wrap64 (x21_1 + 1)) a0_0 a0_1 a0_2 a0_3 a0_4 a0_5 a0_6 a0_7 a0_8 a0_9 a0_10 a0_11 a0_12 a0_13) = some r := by rw [if_pos rfl] at H; exact H
              clear H
              have H := H1
              clear H1
              have H' := Aside0.mk H
              clear H
              have p149 : 0 ≤ (x21_1 : Int) := of_decide_eq_true (by first | (with_reducible assumption) | assumption)
              have q149 : x21_1 < (y146.length : Int) := of_decide_eq_true (by first | (with_reducible assumption) | assumption)
              obtain ⟨ad149, e149, hx149_0⟩ := Kd.at_int (Kd.R_reads' HO_19.out).2.2 x21_1 p149 q149
              cases e149
              replace p149 := eq_true p149
              replace q149 := eq_true q149
              go_wp2_with (first | ((with_reducible refine gate_callee (f := 17) rfl ?_); refine goesL_ (some 26) rfl rfl Tryd.func17 (by kernel_rfl) rfl #[.int .i64 (rd y146 x21_1)] rfl (by (try simp only [List.map_toArray, List.map_cons, List.map_nil]); first | done | rfl | (simp only [List.length_drop, List.length_take]; rfl)) ?_; (with_reducible refine (impl_TickOk.calls (rd y146 x21_1) true _ A10.out).mono ?_); rintro e w' ⟨rfl, ⟨nd, rfl⟩⟩; refine ⟨_, rfl, ?_⟩))
              go_roundg k1
              case measure => have := HK1.out; omega
              case rel => exact ⟨(wrap64 (x21_1 + 1)), (by first | rfl | (simp; done) | (simp [*]; done)), H', ⟨by have := HK1.out; omega⟩, ⟨by (with_reducible repeat (first | apply Kd.R_alloc | apply Kd.R_drewN | apply Kd.R_drew)); exact HO_19.out⟩, ⟨by (with_reducible repeat (first | refine blk_drewN ?_ _ | refine blk_drew ?_ | refine blk_alloc ?_ _)); exact BK145.out⟩, ⟨by repeat (first | (with_reducible first | exact HB.out | apply below_alloc | apply pw_below_drewN | apply below_drew1 | refine below_set ?_ GE145.out) | exact HB.out)⟩⟩
            · replace c11 := Bool.eq_false_iff.mpr c11
              subst c11
              have H1 : (some false) = some r := by rw [if_neg (show ¬ (false = true) by decide)] at H; exact H
              clear H
              have H := H1
              clear H1
              obtain rfl := Option.some.inj H
              have p149 : 0 ≤ (x21_1 : Int) := of_decide_eq_true (by first | (with_reducible assumption) | assumption)
              have q149 : x21_1 < (y146.length : Int) := of_decide_eq_true (by first | (with_reducible assumption) | assumption)
              obtain ⟨ad149, e149, hx149_0⟩ := Kd.at_int (Kd.R_reads' HO_19.out).2.2 x21_1 p149 q149
              cases e149
              replace p149 := eq_true p149
              replace q149 := eq_true q149
              go_wp2_with (first | ((with_reducible refine gate_callee (f := 17) rfl ?_); refine goesL_ (some 26) rfl rfl Tryd.func17 (by kernel_rfl) rfl #[.int .i64 (rd y146 x21_1)] rfl (by (try simp only [List.map_toArray, List.map_cons, List.map_nil]); first | done | rfl | (simp only [List.length_drop, List.length_take]; rfl)) ?_; (with_reducible refine (impl_TickOk.calls (rd y146 x21_1) false _ A10.out).mono ?_); rintro e w' ⟨rfl, ⟨nd, rfl⟩⟩; refine ⟨_, rfl, ?_⟩))
              go_ret
              exact ⟨by first | rfl | (simp [errW_none, errW_some] <;> rfl) | (simp [*, errW_none, errW_some] <;> rfl), by repeat (first | (with_reducible first | exact HB.out | apply below_alloc | apply pw_below_drewN | apply below_drew1 | refine below_set ?_ GE145.out) | exact HB.out)⟩
          · rw [if_neg c9] at H
            exact absurd H (by simp)
        · rw [if_neg c8] at H
          exact absurd H (by simp)
      · rw [if_neg c7] at H
        have c7b0 : decide (x21_1 < (y146.length : Int)) = false := decide_eq_false c7
        clear c7
        have HC12 := Aside0.mk H
        clear H
        go_upto_region 7 with (fail)
        go_cut [5] (fun zv5 wc => ∃ (kq : Nat) (x5_11 : Bool), zv5 = .bool x5_11 ∧ Aside0 (impl_ConfigOk.j1 kq x5_11 a0_0 a0_1 a0_2 a0_3 a0_4 a0_5 a0_6 a0_7 a0_8 a0_9 a0_10 a0_11 a0_12 a0_13 = some r) ∧ Aside0 (kq ≤ k1) ∧ Aside0 (wc.heap[gb145]? = some (.cells #[.int .i64 a0_0, .int .i64 a0_1, .int .i64 a0_2, .int .i64 a0_3, .int .i64 a0_4, .int .i64 a0_5, .int .i64 a0_6, .int .i64 a0_7, .int .i64 a0_8, .int .i64 a0_9, .int .i64 a0_10, .int .i64 a0_11, .int .i64 a0_12, .int .i64 a0_13] 26 (0, 0))) ∧ Aside0 (Below w.heap.size w wc))
        case first =>
          have H := HC12.out
          clear HC12
          replace H := Option.bind_eq_some_iff.mp H
          obtain ⟨t151, A130, H⟩ := H
          replace H : (if t151 = true then ((impl_in.f a0_0 0 a0_1).bind fun t152 => (if t152 = true then (if a0_2 ≥ 1 then (impl_ConfigOk.j1 k1 (decide (a0_13 ≥ 1)) a0_0 a0_1 a0_2 a0_3 a0_4 a0_5 a0_6 a0_7 a0_8 a0_9 a0_10 a0_11 a0_12 a0_13) else (impl_ConfigOk.j1 k1 false a0_0 a0_1 a0_2 a0_3 a0_4 a0_5 a0_6 a0_7 a0_8 a0_9 a0_10 a0_11 a0_12 a0_13)) else (impl_ConfigOk.j1 k1 false a0_0 a0_1 a0_2 a0_3 a0_4 a0_5 a0_6 a0_7 a0_8 a0_9 a0_10 a0_11 a0_12 a0_13))) else (impl_ConfigOk.j1 k1 false a0_0 a0_1 a0_2 a0_3 a0_4 a0_5 a0_6 a0_7 a0_8 a0_9 a0_10 a0_11 a0_12 a0_13)) = some r := H
          have A13 := Aside0.mk A130
          clear A130
          by_cases c14 : t151 = true
          · subst c14
            have H1 : ((impl_in.f a0_0 0 a0_1).bind fun t152 => (if t152 = true then (if a0_2 ≥ 1 then (impl_ConfigOk.j1 k1 (decide (a0_13 ≥ 1)) a0_0 a0_1 a0_2 a0_3 a0_4 a0_5 a0_6 a0_7 a0_8 a0_9 a0_10 a0_11 a0_12 a0_13) else (impl_ConfigOk.j1 k1 false a0_0 a0_1 a0_2 a0_3 a0_4 a0_5 a0_6 a0_7 a0_8 a0_9 a0_10 a0_11 a0_12 a0_13)) else (impl_ConfigOk.j1 k1 false a0_0 a0_1 a0_2 a0_3 a0_4 a0_5 a0_6 a0_7 a0_8 a0_9 a0_10 a0_11 a0_12 a0_13))) = some r := by rw [if_pos rfl] at H; exact H
            clear H
            have H := H1
            clear H1
            replace H := Option.bind_eq_some_iff.mp H
            obtain ⟨t152, A150, H⟩ := H
            replace H : (if t152 = true then (if a0_2 ≥ 1 then (impl_ConfigOk.j1 k1 (decide (a0_13 ≥ 1)) a0_0 a0_1 a0_2 a0_3 a0_4 a0_5 a0_6 a0_7 a0_8 a0_9 a0_10 a0_11 a0_12 a0_13) else (impl_ConfigOk.j1 k1 false a0_0 a0_1 a0_2 a0_3 a0_4 a0_5 a0_6 a0_7 a0_8 a0_9 a0_10 a0_11 a0_12 a0_13)) else (impl_ConfigOk.j1 k1 false a0_0 a0_1 a0_2 a0_3 a0_4 a0_5 a0_6 a0_7 a0_8 a0_9 a0_10 a0_11 a0_12 a0_13)) = some r := H
            have A15 := Aside0.mk A150
            clear A150
            by_cases c16 : t152 = true
            · subst c16
              have H1 : (if a0_2 ≥ 1 then (impl_ConfigOk.j1 k1 (decide (a0_13 ≥ 1)) a0_0 a0_1 a0_2 a0_3 a0_4 a0_5 a0_6 a0_7 a0_8 a0_9 a0_10 a0_11 a0_12 a0_13) else (impl_ConfigOk.j1 k1 false a0_0 a0_1 a0_2 a0_3 a0_4 a0_5 a0_6 a0_7 a0_8 a0_9 a0_10 a0_11 a0_12 a0_13)) = some r := by rw [if_pos rfl] at H; exact H
              clear H
              have H := H1
              clear H1
              by_cases c17 : a0_2 ≥ 1
              · rw [if_pos c17] at H
                have c17b0 : decide (1 ≤ a0_2) = true := decide_eq_true c17
                clear c17
                (first | rw [c17b0] | (simp only [i64_w, i32_w]; rw [c17b0]) | skip)
                have H' := Aside0.mk H
                clear H
                have hcz18_0 : wr.cell? ⟨gb145, 0, none⟩ = some (.int .i64 a0_0) := (blk_cell BK145.out 0).trans rfl
                have hcz18_1 : wr.cell? ⟨gb145, 1, none⟩ = some (.int .i64 a0_1) := (blk_cell BK145.out 1).trans rfl
                have hcz18_2 : wr.cell? ⟨gb145, 2, none⟩ = some (.int .i64 a0_2) := (blk_cell BK145.out 2).trans rfl
                have hcz18_3 : wr.cell? ⟨gb145, 3, none⟩ = some (.int .i64 a0_3) := (blk_cell BK145.out 3).trans rfl
                have hcz18_4 : wr.cell? ⟨gb145, 4, none⟩ = some (.int .i64 a0_4) := (blk_cell BK145.out 4).trans rfl
                have hcz18_5 : wr.cell? ⟨gb145, 5, none⟩ = some (.int .i64 a0_5) := (blk_cell BK145.out 5).trans rfl
                have hcz18_6 : wr.cell? ⟨gb145, 6, none⟩ = some (.int .i64 a0_6) := (blk_cell BK145.out 6).trans rfl
                have hcz18_7 : wr.cell? ⟨gb145, 7, none⟩ = some (.int .i64 a0_7) := (blk_cell BK145.out 7).trans rfl
                have hcz18_8 : wr.cell? ⟨gb145, 8, none⟩ = some (.int .i64 a0_8) := (blk_cell BK145.out 8).trans rfl
                have hcz18_9 : wr.cell? ⟨gb145, 9, none⟩ = some (.int .i64 a0_9) := (blk_cell BK145.out 9).trans rfl
                have hcz18_10 : wr.cell? ⟨gb145, 10, none⟩ = some (.int .i64 a0_10) := (blk_cell BK145.out 10).trans rfl
                have hcz18_11 : wr.cell? ⟨gb145, 11, none⟩ = some (.int .i64 a0_11) := (blk_cell BK145.out 11).trans rfl
                have hcz18_12 : wr.cell? ⟨gb145, 12, none⟩ = some (.int .i64 a0_12) := (blk_cell BK145.out 12).trans rfl
                have hcz18_13 : wr.cell? ⟨gb145, 13, none⟩ = some (.int .i64 a0_13) := (blk_cell BK145.out 13).trans rfl
                have hfz18_0 := blk_frozen BK145.out 0
                have hfz18_1 := blk_frozen BK145.out 1
                have hfz18_2 := blk_frozen BK145.out 2
                have hfz18_3 := blk_frozen BK145.out 3
                have hfz18_4 := blk_frozen BK145.out 4
                have hfz18_5 := blk_frozen BK145.out 5
                have hfz18_6 := blk_frozen BK145.out 6
                have hfz18_7 := blk_frozen BK145.out 7
                have hfz18_8 := blk_frozen BK145.out 8
                have hfz18_9 := blk_frozen BK145.out 9
                have hfz18_10 := blk_frozen BK145.out 10
                have hfz18_11 := blk_frozen BK145.out 11
                have hfz18_12 := blk_frozen BK145.out 12
                have hfz18_13 := blk_frozen BK145.out 13
                go_wp2_with (first | ((with_reducible refine gate_callee (f := 18) rfl ?_); refine goesL_ (some 31) rfl rfl Tryd.func18 (by kernel_rfl) rfl #[.int .i64 a0_1, .int .i64 1, .int .i64 12] rfl (by (try simp only [List.map_toArray, List.map_cons, List.map_nil]); first | done | rfl | (simp only [List.length_drop, List.length_take]; rfl)) ?_; (with_reducible refine (impl_in.calls a0_1 1 12 true _ A13.out).mono ?_); rintro e w' ⟨rfl, ⟨nd, rfl⟩⟩; refine ⟨_, rfl, ?_⟩) | (go_at_call 18; (with_reducible refine (impl_in.calls a0_0 0 a0_1 true _ A15.out).mono ?_); rintro e w' ⟨rfl, ⟨nd, rfl⟩⟩))
                go_meet
                case rel => exact ⟨_, (decide (a0_13 ≥ 1)), (by first | rfl | (simp; done) | (simp [*]; done)), H', ⟨by have := HK1.out; first | omega | exact Nat.le_refl _⟩, ⟨by (with_reducible repeat (first | refine blk_drewN ?_ _ | refine blk_drew ?_ | refine blk_alloc ?_ _)); exact BK145.out⟩, ⟨by repeat (first | (with_reducible first | exact HB.out | apply below_alloc | apply pw_below_drewN | apply below_drew1 | refine below_set ?_ GE145.out) | exact HB.out)⟩⟩
              · rw [if_neg c17] at H
                have c17b0 : decide (1 ≤ a0_2) = false := decide_eq_false c17
                clear c17
                (first | rw [c17b0] | (simp only [i64_w, i32_w]; rw [c17b0]) | skip)
                have H' := Aside0.mk H
                clear H
                have hcz19_0 : wr.cell? ⟨gb145, 0, none⟩ = some (.int .i64 a0_0) := (blk_cell BK145.out 0).trans rfl
                have hcz19_1 : wr.cell? ⟨gb145, 1, none⟩ = some (.int .i64 a0_1) := (blk_cell BK145.out 1).trans rfl
                have hcz19_2 : wr.cell? ⟨gb145, 2, none⟩ = some (.int .i64 a0_2) := (blk_cell BK145.out 2).trans rfl
                have hcz19_3 : wr.cell? ⟨gb145, 3, none⟩ = some (.int .i64 a0_3) := (blk_cell BK145.out 3).trans rfl
                have hcz19_4 : wr.cell? ⟨gb145, 4, none⟩ = some (.int .i64 a0_4) := (blk_cell BK145.out 4).trans rfl
                have hcz19_5 : wr.cell? ⟨gb145, 5, none⟩ = some (.int .i64 a0_5) := (blk_cell BK145.out 5).trans rfl
                have hcz19_6 : wr.cell? ⟨gb145, 6, none⟩ = some (.int .i64 a0_6) := (blk_cell BK145.out 6).trans rfl
                have hcz19_7 : wr.cell? ⟨gb145, 7, none⟩ = some (.int .i64 a0_7) := (blk_cell BK145.out 7).trans rfl
                have hcz19_8 : wr.cell? ⟨gb145, 8, none⟩ = some (.int .i64 a0_8) := (blk_cell BK145.out 8).trans rfl
                have hcz19_9 : wr.cell? ⟨gb145, 9, none⟩ = some (.int .i64 a0_9) := (blk_cell BK145.out 9).trans rfl
                have hcz19_10 : wr.cell? ⟨gb145, 10, none⟩ = some (.int .i64 a0_10) := (blk_cell BK145.out 10).trans rfl
                have hcz19_11 : wr.cell? ⟨gb145, 11, none⟩ = some (.int .i64 a0_11) := (blk_cell BK145.out 11).trans rfl
                have hcz19_12 : wr.cell? ⟨gb145, 12, none⟩ = some (.int .i64 a0_12) := (blk_cell BK145.out 12).trans rfl
                have hcz19_13 : wr.cell? ⟨gb145, 13, none⟩ = some (.int .i64 a0_13) := (blk_cell BK145.out 13).trans rfl
                have hfz19_0 := blk_frozen BK145.out 0
                have hfz19_1 := blk_frozen BK145.out 1
                have hfz19_2 := blk_frozen BK145.out 2
                have hfz19_3 := blk_frozen BK145.out 3
                have hfz19_4 := blk_frozen BK145.out 4
                have hfz19_5 := blk_frozen BK145.out 5
                have hfz19_6 := blk_frozen BK145.out 6
                have hfz19_7 := blk_frozen BK145.out 7
                have hfz19_8 := blk_frozen BK145.out 8
                have hfz19_9 := blk_frozen BK145.out 9
                have hfz19_10 := blk_frozen BK145.out 10
                have hfz19_11 := blk_frozen BK145.out 11
                have hfz19_12 := blk_frozen BK145.out 12
                have hfz19_13 := blk_frozen BK145.out 13
                go_wp2_with (first | ((with_reducible refine gate_callee (f := 18) rfl ?_); refine goesL_ (some 31) rfl rfl Tryd.func18 (by kernel_rfl) rfl #[.int .i64 a0_1, .int .i64 1, .int .i64 12] rfl (by (try simp only [List.map_toArray, List.map_cons, List.map_nil]); first | done | rfl | (simp only [List.length_drop, List.length_take]; rfl)) ?_; (with_reducible refine (impl_in.calls a0_1 1 12 true _ A13.out).mono ?_); rintro e w' ⟨rfl, ⟨nd, rfl⟩⟩; refine ⟨_, rfl, ?_⟩) | (go_at_call 18; (with_reducible refine (impl_in.calls a0_0 0 a0_1 true _ A15.out).mono ?_); rintro e w' ⟨rfl, ⟨nd, rfl⟩⟩))
                go_meet
                case rel => exact ⟨_, (false), (by first | rfl | (simp; done) | (simp [*]; done)), H', ⟨by have := HK1.out; first | omega | exact Nat.le_refl _⟩, ⟨by (with_reducible repeat (first | refine blk_drewN ?_ _ | refine blk_drew ?_ | refine blk_alloc ?_ _)); exact BK145.out⟩, ⟨by repeat (first | (with_reducible first | exact HB.out | apply below_alloc | apply pw_below_drewN | apply below_drew1 | refine below_set ?_ GE145.out) | exact HB.out)⟩⟩
            · replace c16 := Bool.eq_false_iff.mpr c16
              subst c16
              have H1 : (impl_ConfigOk.j1 k1 false a0_0 a0_1 a0_2 a0_3 a0_4 a0_5 a0_6 a0_7 a0_8 a0_9 a0_10 a0_11 a0_12 a0_13) = some r := by rw [if_neg (show ¬ (false = true) by decide)] at H; exact H
              clear H
              have H := H1
              clear H1
              have H' := Aside0.mk H
              clear H
              have hcz20_0 : wr.cell? ⟨gb145, 0, none⟩ = some (.int .i64 a0_0) := (blk_cell BK145.out 0).trans rfl
              have hcz20_1 : wr.cell? ⟨gb145, 1, none⟩ = some (.int .i64 a0_1) := (blk_cell BK145.out 1).trans rfl
              have hcz20_2 : wr.cell? ⟨gb145, 2, none⟩ = some (.int .i64 a0_2) := (blk_cell BK145.out 2).trans rfl
              have hcz20_3 : wr.cell? ⟨gb145, 3, none⟩ = some (.int .i64 a0_3) := (blk_cell BK145.out 3).trans rfl
              have hcz20_4 : wr.cell? ⟨gb145, 4, none⟩ = some (.int .i64 a0_4) := (blk_cell BK145.out 4).trans rfl
              have hcz20_5 : wr.cell? ⟨gb145, 5, none⟩ = some (.int .i64 a0_5) := (blk_cell BK145.out 5).trans rfl
              have hcz20_6 : wr.cell? ⟨gb145, 6, none⟩ = some (.int .i64 a0_6) := (blk_cell BK145.out 6).trans rfl
              have hcz20_7 : wr.cell? ⟨gb145, 7, none⟩ = some (.int .i64 a0_7) := (blk_cell BK145.out 7).trans rfl
              have hcz20_8 : wr.cell? ⟨gb145, 8, none⟩ = some (.int .i64 a0_8) := (blk_cell BK145.out 8).trans rfl
              have hcz20_9 : wr.cell? ⟨gb145, 9, none⟩ = some (.int .i64 a0_9) := (blk_cell BK145.out 9).trans rfl
              have hcz20_10 : wr.cell? ⟨gb145, 10, none⟩ = some (.int .i64 a0_10) := (blk_cell BK145.out 10).trans rfl
              have hcz20_11 : wr.cell? ⟨gb145, 11, none⟩ = some (.int .i64 a0_11) := (blk_cell BK145.out 11).trans rfl
              have hcz20_12 : wr.cell? ⟨gb145, 12, none⟩ = some (.int .i64 a0_12) := (blk_cell BK145.out 12).trans rfl
              have hcz20_13 : wr.cell? ⟨gb145, 13, none⟩ = some (.int .i64 a0_13) := (blk_cell BK145.out 13).trans rfl
              have hfz20_0 := blk_frozen BK145.out 0
              have hfz20_1 := blk_frozen BK145.out 1
              have hfz20_2 := blk_frozen BK145.out 2
              have hfz20_3 := blk_frozen BK145.out 3
              have hfz20_4 := blk_frozen BK145.out 4
              have hfz20_5 := blk_frozen BK145.out 5
              have hfz20_6 := blk_frozen BK145.out 6
              have hfz20_7 := blk_frozen BK145.out 7
              have hfz20_8 := blk_frozen BK145.out 8
              have hfz20_9 := blk_frozen BK145.out 9
              have hfz20_10 := blk_frozen BK145.out 10
              have hfz20_11 := blk_frozen BK145.out 11
              have hfz20_12 := blk_frozen BK145.out 12
              have hfz20_13 := blk_frozen BK145.out 13
              go_wp2_with (first | ((with_reducible refine gate_callee (f := 18) rfl ?_); refine goesL_ (some 31) rfl rfl Tryd.func18 (by kernel_rfl) rfl #[.int .i64 a0_1, .int .i64 1, .int .i64 12] rfl (by (try simp only [List.map_toArray, List.map_cons, List.map_nil]); first | done | rfl | (simp only [List.length_drop, List.length_take]; rfl)) ?_; (with_reducible refine (impl_in.calls a0_1 1 12 true _ A13.out).mono ?_); rintro e w' ⟨rfl, ⟨nd, rfl⟩⟩; refine ⟨_, rfl, ?_⟩) | (go_at_call 18; (with_reducible refine (impl_in.calls a0_0 0 a0_1 false _ A15.out).mono ?_); rintro e w' ⟨rfl, ⟨nd, rfl⟩⟩))
              go_meet
              case rel => exact ⟨_, (false), (by first | rfl | (simp; done) | (simp [*]; done)), H', ⟨by have := HK1.out; first | omega | exact Nat.le_refl _⟩, ⟨by (with_reducible repeat (first | refine blk_drewN ?_ _ | refine blk_drew ?_ | refine blk_alloc ?_ _)); exact BK145.out⟩, ⟨by repeat (first | (with_reducible first | exact HB.out | apply below_alloc | apply pw_below_drewN | apply below_drew1 | refine below_set ?_ GE145.out) | exact HB.out)⟩⟩
          · replace c14 := Bool.eq_false_iff.mpr c14
            subst c14
            have H1 : (impl_ConfigOk.j1 k1 false a0_0 a0_1 a0_2 a0_3 a0_4 a0_5 a0_6 a0_7 a0_8 a0_9 a0_10 a0_11 a0_12 a0_13) = some r := by rw [if_neg (show ¬ (false = true) by decide)] at H; exact H
            clear H
            have H := H1
            clear H1
            have H' := Aside0.mk H
            clear H
            have hcz21_0 : wr.cell? ⟨gb145, 0, none⟩ = some (.int .i64 a0_0) := (blk_cell BK145.out 0).trans rfl
            have hcz21_1 : wr.cell? ⟨gb145, 1, none⟩ = some (.int .i64 a0_1) := (blk_cell BK145.out 1).trans rfl
            have hcz21_2 : wr.cell? ⟨gb145, 2, none⟩ = some (.int .i64 a0_2) := (blk_cell BK145.out 2).trans rfl
            have hcz21_3 : wr.cell? ⟨gb145, 3, none⟩ = some (.int .i64 a0_3) := (blk_cell BK145.out 3).trans rfl
            have hcz21_4 : wr.cell? ⟨gb145, 4, none⟩ = some (.int .i64 a0_4) := (blk_cell BK145.out 4).trans rfl
            have hcz21_5 : wr.cell? ⟨gb145, 5, none⟩ = some (.int .i64 a0_5) := (blk_cell BK145.out 5).trans rfl
            have hcz21_6 : wr.cell? ⟨gb145, 6, none⟩ = some (.int .i64 a0_6) := (blk_cell BK145.out 6).trans rfl
            have hcz21_7 : wr.cell? ⟨gb145, 7, none⟩ = some (.int .i64 a0_7) := (blk_cell BK145.out 7).trans rfl
            have hcz21_8 : wr.cell? ⟨gb145, 8, none⟩ = some (.int .i64 a0_8) := (blk_cell BK145.out 8).trans rfl
            have hcz21_9 : wr.cell? ⟨gb145, 9, none⟩ = some (.int .i64 a0_9) := (blk_cell BK145.out 9).trans rfl
            have hcz21_10 : wr.cell? ⟨gb145, 10, none⟩ = some (.int .i64 a0_10) := (blk_cell BK145.out 10).trans rfl
            have hcz21_11 : wr.cell? ⟨gb145, 11, none⟩ = some (.int .i64 a0_11) := (blk_cell BK145.out 11).trans rfl
            have hcz21_12 : wr.cell? ⟨gb145, 12, none⟩ = some (.int .i64 a0_12) := (blk_cell BK145.out 12).trans rfl
            have hcz21_13 : wr.cell? ⟨gb145, 13, none⟩ = some (.int .i64 a0_13) := (blk_cell BK145.out 13).trans rfl
            have hfz21_0 := blk_frozen BK145.out 0
            have hfz21_1 := blk_frozen BK145.out 1
            have hfz21_2 := blk_frozen BK145.out 2
            have hfz21_3 := blk_frozen BK145.out 3
            have hfz21_4 := blk_frozen BK145.out 4
            have hfz21_5 := blk_frozen BK145.out 5
            have hfz21_6 := blk_frozen BK145.out 6
            have hfz21_7 := blk_frozen BK145.out 7
            have hfz21_8 := blk_frozen BK145.out 8
            have hfz21_9 := blk_frozen BK145.out 9
            have hfz21_10 := blk_frozen BK145.out 10
            have hfz21_11 := blk_frozen BK145.out 11
            have hfz21_12 := blk_frozen BK145.out 12
            have hfz21_13 := blk_frozen BK145.out 13
            go_wp2_with (first | ((with_reducible refine gate_callee (f := 18) rfl ?_); refine goesL_ (some 31) rfl rfl Tryd.func18 (by kernel_rfl) rfl #[.int .i64 a0_1, .int .i64 1, .int .i64 12] rfl (by (try simp only [List.map_toArray, List.map_cons, List.map_nil]); first | done | rfl | (simp only [List.length_drop, List.length_take]; rfl)) ?_; (with_reducible refine (impl_in.calls a0_1 1 12 false _ A13.out).mono ?_); rintro e w' ⟨rfl, ⟨nd, rfl⟩⟩; refine ⟨_, rfl, ?_⟩))
            go_meet
            case rel => exact ⟨_, (false), (by first | rfl | (simp; done) | (simp [*]; done)), H', ⟨by have := HK1.out; first | omega | exact Nat.le_refl _⟩, ⟨by (with_reducible repeat (first | refine blk_drewN ?_ _ | refine blk_drew ?_ | refine blk_alloc ?_ _)); exact BK145.out⟩, ⟨by repeat (first | (with_reducible first | exact HB.out | apply below_alloc | apply pw_below_drewN | apply below_drew1 | refine below_set ?_ GE145.out) | exact HB.out)⟩⟩
        case rest =>
          clear HC12
          try clear c1
          try clear p1
          try clear q1
          try clear hx1
          try clear p2
          try clear p6
          try clear c7
          try clear c7b0
          try clear c8
          try clear c8b0
          try clear c9
          try clear c9b0
          try clear c11
          try clear c14
          try clear p14
          try clear q14
          try clear hx14
          try clear c16
          try clear c17
          try clear c17b0
          try clear c18
          try clear hcz18_0
          try clear hcz18_1
          try clear hcz18_10
          try clear hcz18_11
          try clear hcz18_12
          try clear hcz18_13
          try clear hcz18_2
          try clear hcz18_3
          try clear hcz18_4
          try clear hcz18_5
          try clear hcz18_6
          try clear hcz18_7
          try clear hcz18_8
          try clear hcz18_9
          try clear hcz19_0
          try clear hcz19_1
          try clear hcz19_10
          try clear hcz19_11
          try clear hcz19_12
          try clear hcz19_13
          try clear hcz19_2
          try clear hcz19_3
          try clear hcz19_4
          try clear hcz19_5
          try clear hcz19_6
          try clear hcz19_7
          try clear hcz19_8
          try clear hcz19_9
          try clear hcz20_0
          try clear hcz20_1
          try clear hcz20_10
          try clear hcz20_11
          try clear hcz20_12
          try clear hcz20_13
          try clear hcz20_2
          try clear hcz20_3
          try clear hcz20_4
          try clear hcz20_5
          try clear hcz20_6
          try clear hcz20_7
          try clear hcz20_8
          try clear hcz20_9
          try clear hcz21_0
          try clear hcz21_1
          try clear hcz21_10
          try clear hcz21_11
          try clear hcz21_12
          try clear hcz21_13
          try clear hcz21_2
          try clear hcz21_3
          try clear hcz21_4
          try clear hcz21_5
          try clear hcz21_6
          try clear hcz21_7
          try clear hcz21_8
          try clear hcz21_9
          try clear hcz3_0
          try clear hcz3_1
          try clear hcz3_10
          try clear hcz3_11
          try clear hcz3_12
          try clear hcz3_13
          try clear hcz3_2
          try clear hcz3_3
          try clear hcz3_4
          try clear hcz3_5
          try clear hcz3_6
          try clear hcz3_7
          try clear hcz3_8
          try clear hcz3_9
          try clear hfz18_0
          try clear hfz18_1
          try clear hfz18_10
          try clear hfz18_11
          try clear hfz18_12
          try clear hfz18_13
          try clear hfz18_2
          try clear hfz18_3
          try clear hfz18_4
          try clear hfz18_5
          try clear hfz18_6
          try clear hfz18_7
          try clear hfz18_8
          try clear hfz18_9
          try clear hfz19_0
          try clear hfz19_1
          try clear hfz19_10
          try clear hfz19_11
          try clear hfz19_12
          try clear hfz19_13
          try clear hfz19_2
          try clear hfz19_3
          try clear hfz19_4
          try clear hfz19_5
          try clear hfz19_6
          try clear hfz19_7
          try clear hfz19_8
          try clear hfz19_9
          try clear hfz20_0
          try clear hfz20_1
          try clear hfz20_10
          try clear hfz20_11
          try clear hfz20_12
          try clear hfz20_13
          try clear hfz20_2
          try clear hfz20_3
          try clear hfz20_4
          try clear hfz20_5
          try clear hfz20_6
          try clear hfz20_7
          try clear hfz20_8
          try clear hfz20_9
          try clear hfz21_0
          try clear hfz21_1
          try clear hfz21_10
          try clear hfz21_11
          try clear hfz21_12
          try clear hfz21_13
          try clear hfz21_2
          try clear hfz21_3
          try clear hfz21_4
          try clear hfz21_5
          try clear hfz21_6
          try clear hfz21_7
          try clear hfz21_8
          try clear hfz21_9
          try clear hfz3_0
          try clear hfz3_1
          try clear hfz3_10
          try clear hfz3_11
          try clear hfz3_12
          try clear hfz3_13
          try clear hfz3_2
          try clear hfz3_3
          try clear hfz3_4
          try clear hfz3_5
          try clear hfz3_6
          try clear hfz3_7
          try clear hfz3_8
          try clear hfz3_9
          try clear hx149_0
          try clear p149
          try clear p2
          try clear q149
          obtain ⟨kq, x5_11, rfl, HA, HJ11, BK145, HB⟩ := hcut
          cases kq with
          | zero => exact absurd HA.out (by simp [impl_ConfigOk.j1])
          | succ kj11 =>
            have H := HA.out
            clear HA
            simp only [impl_ConfigOk.j1] at H
            replace H := Option.bind_eq_some_iff.mp H
            obtain ⟨t153, A220, H⟩ := H
            replace H : (if t153 = true then (if a0_8 ≤ 1000000 then ((impl_in.f a0_9 0 100).bind fun t154 => (if x5_11 = true then (if t154 = true then ((impl_in.f a0_10 1 1000000).bind fun t155 => (if t155 = true then ((impl_in.f a0_12 1 1000000).bind fun t156 => (if t156 = true then ((impl_in.f a0_11 1 20).bind fun t157 => (some t157)) else (some false))) else (some false))) else (some false)) else (some false))) else (if x5_11 = true then (some false) else (some false))) else (if x5_11 = true then (some false) else (some false))) = some r := H
            have A22 := Aside0.mk A220
            clear A220
            by_cases c23 : t153 = true
            · subst c23
              have H1 : (if a0_8 ≤ 1000000 then ((impl_in.f a0_9 0 100).bind fun t154 => (if x5_11 = true then (if t154 = true then ((impl_in.f a0_10 1 1000000).bind fun t155 => (if t155 = true then ((impl_in.f a0_12 1 1000000).bind fun t156 => (if t156 = true then ((impl_in.f a0_11 1 20).bind fun t157 => (some t157)) else (some false))) else (some false))) else (some false)) else (some false))) else (if x5_11 = true then (some false) else (some false))) = some r := by rw [if_pos rfl] at H; exact H
              clear H
              have H := H1
              clear H1
              by_cases c24 : a0_8 ≤ 1000000
              · rw [if_pos c24] at H
                have c24b0 : decide (a0_8 ≤ 1000000) = true := decide_eq_true c24
                clear c24
                replace H := Option.bind_eq_some_iff.mp H
                obtain ⟨t154, A250, H⟩ := H
                replace H : (if x5_11 = true then (if t154 = true then ((impl_in.f a0_10 1 1000000).bind fun t155 => (if t155 = true then ((impl_in.f a0_12 1 1000000).bind fun t156 => (if t156 = true then ((impl_in.f a0_11 1 20).bind fun t157 => (some t157)) else (some false))) else (some false))) else (some false)) else (some false)) = some r := H
                have A25 := Aside0.mk A250
                clear A250
                by_cases c26 : x5_11 = true
                · subst c26
                  have H1 : (if t154 = true then ((impl_in.f a0_10 1 1000000).bind fun t155 => (if t155 = true then ((impl_in.f a0_12 1 1000000).bind fun t156 => (if t156 = true then ((impl_in.f a0_11 1 20).bind fun t157 => (some t157)) else (some false))) else (some false))) else (some false)) = some r := by rw [if_pos rfl] at H; exact H
                  clear H
                  have H := H1
                  clear H1
                  by_cases c27 : t154 = true
                  · subst c27
                    have H1 : ((impl_in.f a0_10 1 1000000).bind fun t155 => (if t155 = true then ((impl_in.f a0_12 1 1000000).bind fun t156 => (if t156 = true then ((impl_in.f a0_11 1 20).bind fun t157 => (some t157)) else (some false))) else (some false))) = some r := by rw [if_pos rfl] at H; exact H
                    clear H
                    have H := H1
                    clear H1
                    replace H := Option.bind_eq_some_iff.mp H
                    obtain ⟨t155, A280, H⟩ := H
                    replace H : (if t155 = true then ((impl_in.f a0_12 1 1000000).bind fun t156 => (if t156 = true then ((impl_in.f a0_11 1 20).bind fun t157 => (some t157)) else (some false))) else (some false)) = some r := H
                    have A28 := Aside0.mk A280
                    clear A280
                    by_cases c29 : t155 = true
                    · subst c29
                      have H1 : ((impl_in.f a0_12 1 1000000).bind fun t156 => (if t156 = true then ((impl_in.f a0_11 1 20).bind fun t157 => (some t157)) else (some false))) = some r := by rw [if_pos rfl] at H; exact H
                      clear H
                      have H := H1
                      clear H1
                      replace H := Option.bind_eq_some_iff.mp H
                      obtain ⟨t156, A300, H⟩ := H
                      replace H : (if t156 = true then ((impl_in.f a0_11 1 20).bind fun t157 => (some t157)) else (some false)) = some r := H
                      have A30 := Aside0.mk A300
                      clear A300
                      by_cases c31 : t156 = true
                      · subst c31
                        have H1 : ((impl_in.f a0_11 1 20).bind fun t157 => (some t157)) = some r := by rw [if_pos rfl] at H; exact H
                        clear H
                        have H := H1
                        clear H1
                        replace H := Option.bind_eq_some_iff.mp H
                        obtain ⟨t157, A320, H⟩ := H
                        replace H : (some t157) = some r := H
                        have A32 := Aside0.mk A320
                        clear A320
                        obtain rfl := Option.some.inj H
                        have hcz33_0 : wc.cell? ⟨gb145, 0, none⟩ = some (.int .i64 a0_0) := (blk_cell BK145.out 0).trans rfl
                        have hcz33_1 : wc.cell? ⟨gb145, 1, none⟩ = some (.int .i64 a0_1) := (blk_cell BK145.out 1).trans rfl
                        have hcz33_2 : wc.cell? ⟨gb145, 2, none⟩ = some (.int .i64 a0_2) := (blk_cell BK145.out 2).trans rfl
                        have hcz33_3 : wc.cell? ⟨gb145, 3, none⟩ = some (.int .i64 a0_3) := (blk_cell BK145.out 3).trans rfl
                        have hcz33_4 : wc.cell? ⟨gb145, 4, none⟩ = some (.int .i64 a0_4) := (blk_cell BK145.out 4).trans rfl
                        have hcz33_5 : wc.cell? ⟨gb145, 5, none⟩ = some (.int .i64 a0_5) := (blk_cell BK145.out 5).trans rfl
                        have hcz33_6 : wc.cell? ⟨gb145, 6, none⟩ = some (.int .i64 a0_6) := (blk_cell BK145.out 6).trans rfl
                        have hcz33_7 : wc.cell? ⟨gb145, 7, none⟩ = some (.int .i64 a0_7) := (blk_cell BK145.out 7).trans rfl
                        have hcz33_8 : wc.cell? ⟨gb145, 8, none⟩ = some (.int .i64 a0_8) := (blk_cell BK145.out 8).trans rfl
                        have hcz33_9 : wc.cell? ⟨gb145, 9, none⟩ = some (.int .i64 a0_9) := (blk_cell BK145.out 9).trans rfl
                        have hcz33_10 : wc.cell? ⟨gb145, 10, none⟩ = some (.int .i64 a0_10) := (blk_cell BK145.out 10).trans rfl
                        have hcz33_11 : wc.cell? ⟨gb145, 11, none⟩ = some (.int .i64 a0_11) := (blk_cell BK145.out 11).trans rfl
                        have hcz33_12 : wc.cell? ⟨gb145, 12, none⟩ = some (.int .i64 a0_12) := (blk_cell BK145.out 12).trans rfl
                        have hcz33_13 : wc.cell? ⟨gb145, 13, none⟩ = some (.int .i64 a0_13) := (blk_cell BK145.out 13).trans rfl
                        have hfz33_0 := blk_frozen BK145.out 0
                        have hfz33_1 := blk_frozen BK145.out 1
                        have hfz33_2 := blk_frozen BK145.out 2
                        have hfz33_3 := blk_frozen BK145.out 3
                        have hfz33_4 := blk_frozen BK145.out 4
                        have hfz33_5 := blk_frozen BK145.out 5
                        have hfz33_6 := blk_frozen BK145.out 6
                        have hfz33_7 := blk_frozen BK145.out 7
                        have hfz33_8 := blk_frozen BK145.out 8
                        have hfz33_9 := blk_frozen BK145.out 9
                        have hfz33_10 := blk_frozen BK145.out 10
                        have hfz33_11 := blk_frozen BK145.out 11
                        have hfz33_12 := blk_frozen BK145.out 12
                        have hfz33_13 := blk_frozen BK145.out 13
                        go_wp2_with (first | ((with_reducible refine gate_callee (f := 18) rfl ?_); refine goesL_ (some 53) rfl rfl Tryd.func18 (by kernel_rfl) rfl #[.int .i64 a0_7, .int .i64 1, .int .i64 a0_8] rfl (by (try simp only [List.map_toArray, List.map_cons, List.map_nil]); first | done | rfl | (simp only [List.length_drop, List.length_take]; rfl)) ?_; (with_reducible refine (impl_in.calls a0_7 1 a0_8 true _ A22.out).mono ?_); rintro e w' ⟨rfl, ⟨nd, rfl⟩⟩; refine ⟨_, rfl, ?_⟩) | (go_at_call 18; (with_reducible refine (impl_in.calls a0_9 0 100 true _ A25.out).mono ?_); rintro e w' ⟨rfl, ⟨nd, rfl⟩⟩) | (go_at_call 18; (with_reducible refine (impl_in.calls a0_10 1 1000000 true _ A28.out).mono ?_); rintro e w' ⟨rfl, ⟨nd, rfl⟩⟩) | (go_at_call 18; (with_reducible refine (impl_in.calls a0_12 1 1000000 true _ A30.out).mono ?_); rintro e w' ⟨rfl, ⟨nd, rfl⟩⟩) | (go_at_call 18; (with_reducible refine (impl_in.calls a0_11 1 20 t157 _ A32.out).mono ?_); rintro e w' ⟨rfl, ⟨nd, rfl⟩⟩))
                        go_ret
                        exact ⟨by first | rfl | (simp [errW_none, errW_some] <;> rfl) | (simp [*, errW_none, errW_some] <;> rfl), by repeat (first | (with_reducible first | exact HB.out | apply below_alloc | apply pw_below_drewN | apply below_drew1 | refine below_set ?_ GE145.out) | exact HB.out)⟩
                      · replace c31 := Bool.eq_false_iff.mpr c31
                        subst c31
                        have H1 : (some false) = some r := by rw [if_neg (show ¬ (false = true) by decide)] at H; exact H
                        clear H
                        have H := H1
                        clear H1
                        obtain rfl := Option.some.inj H
                        have hcz34_0 : wc.cell? ⟨gb145, 0, none⟩ = some (.int .i64 a0_0) := (blk_cell BK145.out 0).trans rfl
                        have hcz34_1 : wc.cell? ⟨gb145, 1, none⟩ = some (.int .i64 a0_1) := (blk_cell BK145.out 1).trans rfl
                        have hcz34_2 : wc.cell? ⟨gb145, 2, none⟩ = some (.int .i64 a0_2) := (blk_cell BK145.out 2).trans rfl
                        have hcz34_3 : wc.cell? ⟨gb145, 3, none⟩ = some (.int .i64 a0_3) := (blk_cell BK145.out 3).trans rfl
                        have hcz34_4 : wc.cell? ⟨gb145, 4, none⟩ = some (.int .i64 a0_4) := (blk_cell BK145.out 4).trans rfl
                        have hcz34_5 : wc.cell? ⟨gb145, 5, none⟩ = some (.int .i64 a0_5) := (blk_cell BK145.out 5).trans rfl
                        have hcz34_6 : wc.cell? ⟨gb145, 6, none⟩ = some (.int .i64 a0_6) := (blk_cell BK145.out 6).trans rfl
                        have hcz34_7 : wc.cell? ⟨gb145, 7, none⟩ = some (.int .i64 a0_7) := (blk_cell BK145.out 7).trans rfl
                        have hcz34_8 : wc.cell? ⟨gb145, 8, none⟩ = some (.int .i64 a0_8) := (blk_cell BK145.out 8).trans rfl
                        have hcz34_9 : wc.cell? ⟨gb145, 9, none⟩ = some (.int .i64 a0_9) := (blk_cell BK145.out 9).trans rfl
                        have hcz34_10 : wc.cell? ⟨gb145, 10, none⟩ = some (.int .i64 a0_10) := (blk_cell BK145.out 10).trans rfl
                        have hcz34_11 : wc.cell? ⟨gb145, 11, none⟩ = some (.int .i64 a0_11) := (blk_cell BK145.out 11).trans rfl
                        have hcz34_12 : wc.cell? ⟨gb145, 12, none⟩ = some (.int .i64 a0_12) := (blk_cell BK145.out 12).trans rfl
                        have hcz34_13 : wc.cell? ⟨gb145, 13, none⟩ = some (.int .i64 a0_13) := (blk_cell BK145.out 13).trans rfl
                        have hfz34_0 := blk_frozen BK145.out 0
                        have hfz34_1 := blk_frozen BK145.out 1
                        have hfz34_2 := blk_frozen BK145.out 2
                        have hfz34_3 := blk_frozen BK145.out 3
                        have hfz34_4 := blk_frozen BK145.out 4
                        have hfz34_5 := blk_frozen BK145.out 5
                        have hfz34_6 := blk_frozen BK145.out 6
                        have hfz34_7 := blk_frozen BK145.out 7
                        have hfz34_8 := blk_frozen BK145.out 8
                        have hfz34_9 := blk_frozen BK145.out 9
                        have hfz34_10 := blk_frozen BK145.out 10
                        have hfz34_11 := blk_frozen BK145.out 11
                        have hfz34_12 := blk_frozen BK145.out 12
                        have hfz34_13 := blk_frozen BK145.out 13
                        go_wp2_with (first | ((with_reducible refine gate_callee (f := 18) rfl ?_); refine goesL_ (some 53) rfl rfl Tryd.func18 (by kernel_rfl) rfl #[.int .i64 a0_7, .int .i64 1, .int .i64 a0_8] rfl (by (try simp only [List.map_toArray, List.map_cons, List.map_nil]); first | done | rfl | (simp only [List.length_drop, List.length_take]; rfl)) ?_; (with_reducible refine (impl_in.calls a0_7 1 a0_8 true _ A22.out).mono ?_); rintro e w' ⟨rfl, ⟨nd, rfl⟩⟩; refine ⟨_, rfl, ?_⟩) | (go_at_call 18; (with_reducible refine (impl_in.calls a0_9 0 100 true _ A25.out).mono ?_); rintro e w' ⟨rfl, ⟨nd, rfl⟩⟩) | (go_at_call 18; (with_reducible refine (impl_in.calls a0_10 1 1000000 true _ A28.out).mono ?_); rintro e w' ⟨rfl, ⟨nd, rfl⟩⟩) | (go_at_call 18; (with_reducible refine (impl_in.calls a0_12 1 1000000 false _ A30.out).mono ?_); rintro e w' ⟨rfl, ⟨nd, rfl⟩⟩))
                        go_ret
                        exact ⟨by first | rfl | (simp [errW_none, errW_some] <;> rfl) | (simp [*, errW_none, errW_some] <;> rfl), by repeat (first | (with_reducible first | exact HB.out | apply below_alloc | apply pw_below_drewN | apply below_drew1 | refine below_set ?_ GE145.out) | exact HB.out)⟩
                    · replace c29 := Bool.eq_false_iff.mpr c29
                      subst c29
                      have H1 : (some false) = some r := by rw [if_neg (show ¬ (false = true) by decide)] at H; exact H
                      clear H
                      have H := H1
                      clear H1
                      obtain rfl := Option.some.inj H
                      have hcz35_0 : wc.cell? ⟨gb145, 0, none⟩ = some (.int .i64 a0_0) := (blk_cell BK145.out 0).trans rfl
                      have hcz35_1 : wc.cell? ⟨gb145, 1, none⟩ = some (.int .i64 a0_1) := (blk_cell BK145.out 1).trans rfl
                      have hcz35_2 : wc.cell? ⟨gb145, 2, none⟩ = some (.int .i64 a0_2) := (blk_cell BK145.out 2).trans rfl
                      have hcz35_3 : wc.cell? ⟨gb145, 3, none⟩ = some (.int .i64 a0_3) := (blk_cell BK145.out 3).trans rfl
                      have hcz35_4 : wc.cell? ⟨gb145, 4, none⟩ = some (.int .i64 a0_4) := (blk_cell BK145.out 4).trans rfl
                      have hcz35_5 : wc.cell? ⟨gb145, 5, none⟩ = some (.int .i64 a0_5) := (blk_cell BK145.out 5).trans rfl
                      have hcz35_6 : wc.cell? ⟨gb145, 6, none⟩ = some (.int .i64 a0_6) := (blk_cell BK145.out 6).trans rfl
                      have hcz35_7 : wc.cell? ⟨gb145, 7, none⟩ = some (.int .i64 a0_7) := (blk_cell BK145.out 7).trans rfl
                      have hcz35_8 : wc.cell? ⟨gb145, 8, none⟩ = some (.int .i64 a0_8) := (blk_cell BK145.out 8).trans rfl
                      have hcz35_9 : wc.cell? ⟨gb145, 9, none⟩ = some (.int .i64 a0_9) := (blk_cell BK145.out 9).trans rfl
                      have hcz35_10 : wc.cell? ⟨gb145, 10, none⟩ = some (.int .i64 a0_10) := (blk_cell BK145.out 10).trans rfl
                      have hcz35_11 : wc.cell? ⟨gb145, 11, none⟩ = some (.int .i64 a0_11) := (blk_cell BK145.out 11).trans rfl
                      have hcz35_12 : wc.cell? ⟨gb145, 12, none⟩ = some (.int .i64 a0_12) := (blk_cell BK145.out 12).trans rfl
                      have hcz35_13 : wc.cell? ⟨gb145, 13, none⟩ = some (.int .i64 a0_13) := (blk_cell BK145.out 13).trans rfl
                      have hfz35_0 := blk_frozen BK145.out 0
                      have hfz35_1 := blk_frozen BK145.out 1
                      have hfz35_2 := blk_frozen BK145.out 2
                      have hfz35_3 := blk_frozen BK145.out 3
                      have hfz35_4 := blk_frozen BK145.out 4
                      have hfz35_5 := blk_frozen BK145.out 5
                      have hfz35_6 := blk_frozen BK145.out 6
                      have hfz35_7 := blk_frozen BK145.out 7
                      have hfz35_8 := blk_frozen BK145.out 8
                      have hfz35_9 := blk_frozen BK145.out 9
                      have hfz35_10 := blk_frozen BK145.out 10
                      have hfz35_11 := blk_frozen BK145.out 11
                      have hfz35_12 := blk_frozen BK145.out 12
                      have hfz35_13 := blk_frozen BK145.out 13
                      go_wp2_with (first | ((with_reducible refine gate_callee (f := 18) rfl ?_); refine goesL_ (some 53) rfl rfl Tryd.func18 (by kernel_rfl) rfl #[.int .i64 a0_7, .int .i64 1, .int .i64 a0_8] rfl (by (try simp only [List.map_toArray, List.map_cons, List.map_nil]); first | done | rfl | (simp only [List.length_drop, List.length_take]; rfl)) ?_; (with_reducible refine (impl_in.calls a0_7 1 a0_8 true _ A22.out).mono ?_); rintro e w' ⟨rfl, ⟨nd, rfl⟩⟩; refine ⟨_, rfl, ?_⟩) | (go_at_call 18; (with_reducible refine (impl_in.calls a0_9 0 100 true _ A25.out).mono ?_); rintro e w' ⟨rfl, ⟨nd, rfl⟩⟩) | (go_at_call 18; (with_reducible refine (impl_in.calls a0_10 1 1000000 false _ A28.out).mono ?_); rintro e w' ⟨rfl, ⟨nd, rfl⟩⟩))
                      go_ret
                      exact ⟨by first | rfl | (simp [errW_none, errW_some] <;> rfl) | (simp [*, errW_none, errW_some] <;> rfl), by repeat (first | (with_reducible first | exact HB.out | apply below_alloc | apply pw_below_drewN | apply below_drew1 | refine below_set ?_ GE145.out) | exact HB.out)⟩
                  · replace c27 := Bool.eq_false_iff.mpr c27
                    subst c27
                    have H1 : (some false) = some r := by rw [if_neg (show ¬ (false = true) by decide)] at H; exact H
                    clear H
                    have H := H1
                    clear H1
                    obtain rfl := Option.some.inj H
                    have hcz36_0 : wc.cell? ⟨gb145, 0, none⟩ = some (.int .i64 a0_0) := (blk_cell BK145.out 0).trans rfl
                    have hcz36_1 : wc.cell? ⟨gb145, 1, none⟩ = some (.int .i64 a0_1) := (blk_cell BK145.out 1).trans rfl
                    have hcz36_2 : wc.cell? ⟨gb145, 2, none⟩ = some (.int .i64 a0_2) := (blk_cell BK145.out 2).trans rfl
                    have hcz36_3 : wc.cell? ⟨gb145, 3, none⟩ = some (.int .i64 a0_3) := (blk_cell BK145.out 3).trans rfl
                    have hcz36_4 : wc.cell? ⟨gb145, 4, none⟩ = some (.int .i64 a0_4) := (blk_cell BK145.out 4).trans rfl
                    have hcz36_5 : wc.cell? ⟨gb145, 5, none⟩ = some (.int .i64 a0_5) := (blk_cell BK145.out 5).trans rfl
                    have hcz36_6 : wc.cell? ⟨gb145, 6, none⟩ = some (.int .i64 a0_6) := (blk_cell BK145.out 6).trans rfl
                    have hcz36_7 : wc.cell? ⟨gb145, 7, none⟩ = some (.int .i64 a0_7) := (blk_cell BK145.out 7).trans rfl
                    have hcz36_8 : wc.cell? ⟨gb145, 8, none⟩ = some (.int .i64 a0_8) := (blk_cell BK145.out 8).trans rfl
                    have hcz36_9 : wc.cell? ⟨gb145, 9, none⟩ = some (.int .i64 a0_9) := (blk_cell BK145.out 9).trans rfl
                    have hcz36_10 : wc.cell? ⟨gb145, 10, none⟩ = some (.int .i64 a0_10) := (blk_cell BK145.out 10).trans rfl
                    have hcz36_11 : wc.cell? ⟨gb145, 11, none⟩ = some (.int .i64 a0_11) := (blk_cell BK145.out 11).trans rfl
                    have hcz36_12 : wc.cell? ⟨gb145, 12, none⟩ = some (.int .i64 a0_12) := (blk_cell BK145.out 12).trans rfl
                    have hcz36_13 : wc.cell? ⟨gb145, 13, none⟩ = some (.int .i64 a0_13) := (blk_cell BK145.out 13).trans rfl
                    have hfz36_0 := blk_frozen BK145.out 0
                    have hfz36_1 := blk_frozen BK145.out 1
                    have hfz36_2 := blk_frozen BK145.out 2
                    have hfz36_3 := blk_frozen BK145.out 3
                    have hfz36_4 := blk_frozen BK145.out 4
                    have hfz36_5 := blk_frozen BK145.out 5
                    have hfz36_6 := blk_frozen BK145.out 6
                    have hfz36_7 := blk_frozen BK145.out 7
                    have hfz36_8 := blk_frozen BK145.out 8
                    have hfz36_9 := blk_frozen BK145.out 9
                    have hfz36_10 := blk_frozen BK145.out 10
                    have hfz36_11 := blk_frozen BK145.out 11
                    have hfz36_12 := blk_frozen BK145.out 12
                    have hfz36_13 := blk_frozen BK145.out 13
                    go_wp2_with (first | ((with_reducible refine gate_callee (f := 18) rfl ?_); refine goesL_ (some 53) rfl rfl Tryd.func18 (by kernel_rfl) rfl #[.int .i64 a0_7, .int .i64 1, .int .i64 a0_8] rfl (by (try simp only [List.map_toArray, List.map_cons, List.map_nil]); first | done | rfl | (simp only [List.length_drop, List.length_take]; rfl)) ?_; (with_reducible refine (impl_in.calls a0_7 1 a0_8 true _ A22.out).mono ?_); rintro e w' ⟨rfl, ⟨nd, rfl⟩⟩; refine ⟨_, rfl, ?_⟩) | (go_at_call 18; (with_reducible refine (impl_in.calls a0_9 0 100 false _ A25.out).mono ?_); rintro e w' ⟨rfl, ⟨nd, rfl⟩⟩))
                    go_ret
                    exact ⟨by first | rfl | (simp [errW_none, errW_some] <;> rfl) | (simp [*, errW_none, errW_some] <;> rfl), by repeat (first | (with_reducible first | exact HB.out | apply below_alloc | apply pw_below_drewN | apply below_drew1 | refine below_set ?_ GE145.out) | exact HB.out)⟩
                · replace c26 := Bool.eq_false_iff.mpr c26
                  subst c26
                  have H1 : (some false) = some r := by rw [if_neg (show ¬ (false = true) by decide)] at H; exact H
                  clear H
                  have H := H1
                  clear H1
                  obtain rfl := Option.some.inj H
                  have hcz37_0 : wc.cell? ⟨gb145, 0, none⟩ = some (.int .i64 a0_0) := (blk_cell BK145.out 0).trans rfl
                  have hcz37_1 : wc.cell? ⟨gb145, 1, none⟩ = some (.int .i64 a0_1) := (blk_cell BK145.out 1).trans rfl
                  have hcz37_2 : wc.cell? ⟨gb145, 2, none⟩ = some (.int .i64 a0_2) := (blk_cell BK145.out 2).trans rfl
                  have hcz37_3 : wc.cell? ⟨gb145, 3, none⟩ = some (.int .i64 a0_3) := (blk_cell BK145.out 3).trans rfl
                  have hcz37_4 : wc.cell? ⟨gb145, 4, none⟩ = some (.int .i64 a0_4) := (blk_cell BK145.out 4).trans rfl
                  have hcz37_5 : wc.cell? ⟨gb145, 5, none⟩ = some (.int .i64 a0_5) := (blk_cell BK145.out 5).trans rfl
                  have hcz37_6 : wc.cell? ⟨gb145, 6, none⟩ = some (.int .i64 a0_6) := (blk_cell BK145.out 6).trans rfl
                  have hcz37_7 : wc.cell? ⟨gb145, 7, none⟩ = some (.int .i64 a0_7) := (blk_cell BK145.out 7).trans rfl
                  have hcz37_8 : wc.cell? ⟨gb145, 8, none⟩ = some (.int .i64 a0_8) := (blk_cell BK145.out 8).trans rfl
                  have hcz37_9 : wc.cell? ⟨gb145, 9, none⟩ = some (.int .i64 a0_9) := (blk_cell BK145.out 9).trans rfl
                  have hcz37_10 : wc.cell? ⟨gb145, 10, none⟩ = some (.int .i64 a0_10) := (blk_cell BK145.out 10).trans rfl
                  have hcz37_11 : wc.cell? ⟨gb145, 11, none⟩ = some (.int .i64 a0_11) := (blk_cell BK145.out 11).trans rfl
                  have hcz37_12 : wc.cell? ⟨gb145, 12, none⟩ = some (.int .i64 a0_12) := (blk_cell BK145.out 12).trans rfl
                  have hcz37_13 : wc.cell? ⟨gb145, 13, none⟩ = some (.int .i64 a0_13) := (blk_cell BK145.out 13).trans rfl
                  have hfz37_0 := blk_frozen BK145.out 0
                  have hfz37_1 := blk_frozen BK145.out 1
                  have hfz37_2 := blk_frozen BK145.out 2
                  have hfz37_3 := blk_frozen BK145.out 3
                  have hfz37_4 := blk_frozen BK145.out 4
                  have hfz37_5 := blk_frozen BK145.out 5
                  have hfz37_6 := blk_frozen BK145.out 6
                  have hfz37_7 := blk_frozen BK145.out 7
                  have hfz37_8 := blk_frozen BK145.out 8
                  have hfz37_9 := blk_frozen BK145.out 9
                  have hfz37_10 := blk_frozen BK145.out 10
                  have hfz37_11 := blk_frozen BK145.out 11
                  have hfz37_12 := blk_frozen BK145.out 12
                  have hfz37_13 := blk_frozen BK145.out 13
                  go_wp2_with (first | ((with_reducible refine gate_callee (f := 18) rfl ?_); refine goesL_ (some 53) rfl rfl Tryd.func18 (by kernel_rfl) rfl #[.int .i64 a0_7, .int .i64 1, .int .i64 a0_8] rfl (by (try simp only [List.map_toArray, List.map_cons, List.map_nil]); first | done | rfl | (simp only [List.length_drop, List.length_take]; rfl)) ?_; (with_reducible refine (impl_in.calls a0_7 1 a0_8 true _ A22.out).mono ?_); rintro e w' ⟨rfl, ⟨nd, rfl⟩⟩; refine ⟨_, rfl, ?_⟩) | (go_at_call 18; (with_reducible refine (impl_in.calls a0_9 0 100 t154 _ A25.out).mono ?_); rintro e w' ⟨rfl, ⟨nd, rfl⟩⟩))
                  go_ret
                  exact ⟨by first | rfl | (simp [errW_none, errW_some] <;> rfl) | (simp [*, errW_none, errW_some] <;> rfl), by repeat (first | (with_reducible first | exact HB.out | apply below_alloc | apply pw_below_drewN | apply below_drew1 | refine below_set ?_ GE145.out) | exact HB.out)⟩
              · rw [if_neg c24] at H
                have c24b0 : decide (a0_8 ≤ 1000000) = false := decide_eq_false c24
                clear c24
                by_cases c38 : x5_11 = true
                · subst c38
                  have H1 : (some false) = some r := by rw [if_pos rfl] at H; exact H
                  clear H
                  have H := H1
                  clear H1
                  obtain rfl := Option.some.inj H
                  have hcz39_0 : wc.cell? ⟨gb145, 0, none⟩ = some (.int .i64 a0_0) := (blk_cell BK145.out 0).trans rfl
                  have hcz39_1 : wc.cell? ⟨gb145, 1, none⟩ = some (.int .i64 a0_1) := (blk_cell BK145.out 1).trans rfl
                  have hcz39_2 : wc.cell? ⟨gb145, 2, none⟩ = some (.int .i64 a0_2) := (blk_cell BK145.out 2).trans rfl
                  have hcz39_3 : wc.cell? ⟨gb145, 3, none⟩ = some (.int .i64 a0_3) := (blk_cell BK145.out 3).trans rfl
                  have hcz39_4 : wc.cell? ⟨gb145, 4, none⟩ = some (.int .i64 a0_4) := (blk_cell BK145.out 4).trans rfl
                  have hcz39_5 : wc.cell? ⟨gb145, 5, none⟩ = some (.int .i64 a0_5) := (blk_cell BK145.out 5).trans rfl
                  have hcz39_6 : wc.cell? ⟨gb145, 6, none⟩ = some (.int .i64 a0_6) := (blk_cell BK145.out 6).trans rfl
                  have hcz39_7 : wc.cell? ⟨gb145, 7, none⟩ = some (.int .i64 a0_7) := (blk_cell BK145.out 7).trans rfl
                  have hcz39_8 : wc.cell? ⟨gb145, 8, none⟩ = some (.int .i64 a0_8) := (blk_cell BK145.out 8).trans rfl
                  have hcz39_9 : wc.cell? ⟨gb145, 9, none⟩ = some (.int .i64 a0_9) := (blk_cell BK145.out 9).trans rfl
                  have hcz39_10 : wc.cell? ⟨gb145, 10, none⟩ = some (.int .i64 a0_10) := (blk_cell BK145.out 10).trans rfl
                  have hcz39_11 : wc.cell? ⟨gb145, 11, none⟩ = some (.int .i64 a0_11) := (blk_cell BK145.out 11).trans rfl
                  have hcz39_12 : wc.cell? ⟨gb145, 12, none⟩ = some (.int .i64 a0_12) := (blk_cell BK145.out 12).trans rfl
                  have hcz39_13 : wc.cell? ⟨gb145, 13, none⟩ = some (.int .i64 a0_13) := (blk_cell BK145.out 13).trans rfl
                  have hfz39_0 := blk_frozen BK145.out 0
                  have hfz39_1 := blk_frozen BK145.out 1
                  have hfz39_2 := blk_frozen BK145.out 2
                  have hfz39_3 := blk_frozen BK145.out 3
                  have hfz39_4 := blk_frozen BK145.out 4
                  have hfz39_5 := blk_frozen BK145.out 5
                  have hfz39_6 := blk_frozen BK145.out 6
                  have hfz39_7 := blk_frozen BK145.out 7
                  have hfz39_8 := blk_frozen BK145.out 8
                  have hfz39_9 := blk_frozen BK145.out 9
                  have hfz39_10 := blk_frozen BK145.out 10
                  have hfz39_11 := blk_frozen BK145.out 11
                  have hfz39_12 := blk_frozen BK145.out 12
                  have hfz39_13 := blk_frozen BK145.out 13
                  go_wp2_with (first | ((with_reducible refine gate_callee (f := 18) rfl ?_); refine goesL_ (some 53) rfl rfl Tryd.func18 (by kernel_rfl) rfl #[.int .i64 a0_7, .int .i64 1, .int .i64 a0_8] rfl (by (try simp only [List.map_toArray, List.map_cons, List.map_nil]); first | done | rfl | (simp only [List.length_drop, List.length_take]; rfl)) ?_; (with_reducible refine (impl_in.calls a0_7 1 a0_8 true _ A22.out).mono ?_); rintro e w' ⟨rfl, ⟨nd, rfl⟩⟩; refine ⟨_, rfl, ?_⟩))
                  go_ret
                  exact ⟨by first | rfl | (simp [errW_none, errW_some] <;> rfl) | (simp [*, errW_none, errW_some] <;> rfl), by repeat (first | (with_reducible first | exact HB.out | apply below_alloc | apply pw_below_drewN | apply below_drew1 | refine below_set ?_ GE145.out) | exact HB.out)⟩
                · replace c38 := Bool.eq_false_iff.mpr c38
                  subst c38
                  have H1 : (some false) = some r := by rw [if_neg (show ¬ (false = true) by decide)] at H; exact H
                  clear H
                  have H := H1
                  clear H1
                  obtain rfl := Option.some.inj H
                  have hcz40_0 : wc.cell? ⟨gb145, 0, none⟩ = some (.int .i64 a0_0) := (blk_cell BK145.out 0).trans rfl
                  have hcz40_1 : wc.cell? ⟨gb145, 1, none⟩ = some (.int .i64 a0_1) := (blk_cell BK145.out 1).trans rfl
                  have hcz40_2 : wc.cell? ⟨gb145, 2, none⟩ = some (.int .i64 a0_2) := (blk_cell BK145.out 2).trans rfl
                  have hcz40_3 : wc.cell? ⟨gb145, 3, none⟩ = some (.int .i64 a0_3) := (blk_cell BK145.out 3).trans rfl
                  have hcz40_4 : wc.cell? ⟨gb145, 4, none⟩ = some (.int .i64 a0_4) := (blk_cell BK145.out 4).trans rfl
                  have hcz40_5 : wc.cell? ⟨gb145, 5, none⟩ = some (.int .i64 a0_5) := (blk_cell BK145.out 5).trans rfl
                  have hcz40_6 : wc.cell? ⟨gb145, 6, none⟩ = some (.int .i64 a0_6) := (blk_cell BK145.out 6).trans rfl
                  have hcz40_7 : wc.cell? ⟨gb145, 7, none⟩ = some (.int .i64 a0_7) := (blk_cell BK145.out 7).trans rfl
                  have hcz40_8 : wc.cell? ⟨gb145, 8, none⟩ = some (.int .i64 a0_8) := (blk_cell BK145.out 8).trans rfl
                  have hcz40_9 : wc.cell? ⟨gb145, 9, none⟩ = some (.int .i64 a0_9) := (blk_cell BK145.out 9).trans rfl
                  have hcz40_10 : wc.cell? ⟨gb145, 10, none⟩ = some (.int .i64 a0_10) := (blk_cell BK145.out 10).trans rfl
                  have hcz40_11 : wc.cell? ⟨gb145, 11, none⟩ = some (.int .i64 a0_11) := (blk_cell BK145.out 11).trans rfl
                  have hcz40_12 : wc.cell? ⟨gb145, 12, none⟩ = some (.int .i64 a0_12) := (blk_cell BK145.out 12).trans rfl
                  have hcz40_13 : wc.cell? ⟨gb145, 13, none⟩ = some (.int .i64 a0_13) := (blk_cell BK145.out 13).trans rfl
                  have hfz40_0 := blk_frozen BK145.out 0
                  have hfz40_1 := blk_frozen BK145.out 1
                  have hfz40_2 := blk_frozen BK145.out 2
                  have hfz40_3 := blk_frozen BK145.out 3
                  have hfz40_4 := blk_frozen BK145.out 4
                  have hfz40_5 := blk_frozen BK145.out 5
                  have hfz40_6 := blk_frozen BK145.out 6
                  have hfz40_7 := blk_frozen BK145.out 7
                  have hfz40_8 := blk_frozen BK145.out 8
                  have hfz40_9 := blk_frozen BK145.out 9
                  have hfz40_10 := blk_frozen BK145.out 10
                  have hfz40_11 := blk_frozen BK145.out 11
                  have hfz40_12 := blk_frozen BK145.out 12
                  have hfz40_13 := blk_frozen BK145.out 13
                  go_wp2_with (first | ((with_reducible refine gate_callee (f := 18) rfl ?_); refine goesL_ (some 53) rfl rfl Tryd.func18 (by kernel_rfl) rfl #[.int .i64 a0_7, .int .i64 1, .int .i64 a0_8] rfl (by (try simp only [List.map_toArray, List.map_cons, List.map_nil]); first | done | rfl | (simp only [List.length_drop, List.length_take]; rfl)) ?_; (with_reducible refine (impl_in.calls a0_7 1 a0_8 true _ A22.out).mono ?_); rintro e w' ⟨rfl, ⟨nd, rfl⟩⟩; refine ⟨_, rfl, ?_⟩))
                  go_ret
                  exact ⟨by first | rfl | (simp [errW_none, errW_some] <;> rfl) | (simp [*, errW_none, errW_some] <;> rfl), by repeat (first | (with_reducible first | exact HB.out | apply below_alloc | apply pw_below_drewN | apply below_drew1 | refine below_set ?_ GE145.out) | exact HB.out)⟩
            · replace c23 := Bool.eq_false_iff.mpr c23
              subst c23
              have H1 : (if x5_11 = true then (some false) else (some false)) = some r := by rw [if_neg (show ¬ (false = true) by decide)] at H; exact H
              clear H
              have H := H1
              clear H1
              by_cases c41 : x5_11 = true
              · subst c41
                have H1 : (some false) = some r := by rw [if_pos rfl] at H; exact H
                clear H
                have H := H1
                clear H1
                obtain rfl := Option.some.inj H
                have hcz42_0 : wc.cell? ⟨gb145, 0, none⟩ = some (.int .i64 a0_0) := (blk_cell BK145.out 0).trans rfl
                have hcz42_1 : wc.cell? ⟨gb145, 1, none⟩ = some (.int .i64 a0_1) := (blk_cell BK145.out 1).trans rfl
                have hcz42_2 : wc.cell? ⟨gb145, 2, none⟩ = some (.int .i64 a0_2) := (blk_cell BK145.out 2).trans rfl
                have hcz42_3 : wc.cell? ⟨gb145, 3, none⟩ = some (.int .i64 a0_3) := (blk_cell BK145.out 3).trans rfl
                have hcz42_4 : wc.cell? ⟨gb145, 4, none⟩ = some (.int .i64 a0_4) := (blk_cell BK145.out 4).trans rfl
                have hcz42_5 : wc.cell? ⟨gb145, 5, none⟩ = some (.int .i64 a0_5) := (blk_cell BK145.out 5).trans rfl
                have hcz42_6 : wc.cell? ⟨gb145, 6, none⟩ = some (.int .i64 a0_6) := (blk_cell BK145.out 6).trans rfl
                have hcz42_7 : wc.cell? ⟨gb145, 7, none⟩ = some (.int .i64 a0_7) := (blk_cell BK145.out 7).trans rfl
                have hcz42_8 : wc.cell? ⟨gb145, 8, none⟩ = some (.int .i64 a0_8) := (blk_cell BK145.out 8).trans rfl
                have hcz42_9 : wc.cell? ⟨gb145, 9, none⟩ = some (.int .i64 a0_9) := (blk_cell BK145.out 9).trans rfl
                have hcz42_10 : wc.cell? ⟨gb145, 10, none⟩ = some (.int .i64 a0_10) := (blk_cell BK145.out 10).trans rfl
                have hcz42_11 : wc.cell? ⟨gb145, 11, none⟩ = some (.int .i64 a0_11) := (blk_cell BK145.out 11).trans rfl
                have hcz42_12 : wc.cell? ⟨gb145, 12, none⟩ = some (.int .i64 a0_12) := (blk_cell BK145.out 12).trans rfl
                have hcz42_13 : wc.cell? ⟨gb145, 13, none⟩ = some (.int .i64 a0_13) := (blk_cell BK145.out 13).trans rfl
                have hfz42_0 := blk_frozen BK145.out 0
                have hfz42_1 := blk_frozen BK145.out 1
                have hfz42_2 := blk_frozen BK145.out 2
                have hfz42_3 := blk_frozen BK145.out 3
                have hfz42_4 := blk_frozen BK145.out 4
                have hfz42_5 := blk_frozen BK145.out 5
                have hfz42_6 := blk_frozen BK145.out 6
                have hfz42_7 := blk_frozen BK145.out 7
                have hfz42_8 := blk_frozen BK145.out 8
                have hfz42_9 := blk_frozen BK145.out 9
                have hfz42_10 := blk_frozen BK145.out 10
                have hfz42_11 := blk_frozen BK145.out 11
                have hfz42_12 := blk_frozen BK145.out 12
                have hfz42_13 := blk_frozen BK145.out 13
                go_wp2_with (first | ((with_reducible refine gate_callee (f := 18) rfl ?_); refine goesL_ (some 53) rfl rfl Tryd.func18 (by kernel_rfl) rfl #[.int .i64 a0_7, .int .i64 1, .int .i64 a0_8] rfl (by (try simp only [List.map_toArray, List.map_cons, List.map_nil]); first | done | rfl | (simp only [List.length_drop, List.length_take]; rfl)) ?_; (with_reducible refine (impl_in.calls a0_7 1 a0_8 false _ A22.out).mono ?_); rintro e w' ⟨rfl, ⟨nd, rfl⟩⟩; refine ⟨_, rfl, ?_⟩))
                go_ret
                exact ⟨by first | rfl | (simp [errW_none, errW_some] <;> rfl) | (simp [*, errW_none, errW_some] <;> rfl), by repeat (first | (with_reducible first | exact HB.out | apply below_alloc | apply pw_below_drewN | apply below_drew1 | refine below_set ?_ GE145.out) | exact HB.out)⟩
              · replace c41 := Bool.eq_false_iff.mpr c41
                subst c41
                have H1 : (some false) = some r := by rw [if_neg (show ¬ (false = true) by decide)] at H; exact H
                clear H
                have H := H1
                clear H1
                obtain rfl := Option.some.inj H
                have hcz43_0 : wc.cell? ⟨gb145, 0, none⟩ = some (.int .i64 a0_0) := (blk_cell BK145.out 0).trans rfl
                have hcz43_1 : wc.cell? ⟨gb145, 1, none⟩ = some (.int .i64 a0_1) := (blk_cell BK145.out 1).trans rfl
                have hcz43_2 : wc.cell? ⟨gb145, 2, none⟩ = some (.int .i64 a0_2) := (blk_cell BK145.out 2).trans rfl
                have hcz43_3 : wc.cell? ⟨gb145, 3, none⟩ = some (.int .i64 a0_3) := (blk_cell BK145.out 3).trans rfl
                have hcz43_4 : wc.cell? ⟨gb145, 4, none⟩ = some (.int .i64 a0_4) := (blk_cell BK145.out 4).trans rfl
                have hcz43_5 : wc.cell? ⟨gb145, 5, none⟩ = some (.int .i64 a0_5) := (blk_cell BK145.out 5).trans rfl
                have hcz43_6 : wc.cell? ⟨gb145, 6, none⟩ = some (.int .i64 a0_6) := (blk_cell BK145.out 6).trans rfl
                have hcz43_7 : wc.cell? ⟨gb145, 7, none⟩ = some (.int .i64 a0_7) := (blk_cell BK145.out 7).trans rfl
                have hcz43_8 : wc.cell? ⟨gb145, 8, none⟩ = some (.int .i64 a0_8) := (blk_cell BK145.out 8).trans rfl
                have hcz43_9 : wc.cell? ⟨gb145, 9, none⟩ = some (.int .i64 a0_9) := (blk_cell BK145.out 9).trans rfl
                have hcz43_10 : wc.cell? ⟨gb145, 10, none⟩ = some (.int .i64 a0_10) := (blk_cell BK145.out 10).trans rfl
                have hcz43_11 : wc.cell? ⟨gb145, 11, none⟩ = some (.int .i64 a0_11) := (blk_cell BK145.out 11).trans rfl
                have hcz43_12 : wc.cell? ⟨gb145, 12, none⟩ = some (.int .i64 a0_12) := (blk_cell BK145.out 12).trans rfl
                have hcz43_13 : wc.cell? ⟨gb145, 13, none⟩ = some (.int .i64 a0_13) := (blk_cell BK145.out 13).trans rfl
                have hfz43_0 := blk_frozen BK145.out 0
                have hfz43_1 := blk_frozen BK145.out 1
                have hfz43_2 := blk_frozen BK145.out 2
                have hfz43_3 := blk_frozen BK145.out 3
                have hfz43_4 := blk_frozen BK145.out 4
                have hfz43_5 := blk_frozen BK145.out 5
                have hfz43_6 := blk_frozen BK145.out 6
                have hfz43_7 := blk_frozen BK145.out 7
                have hfz43_8 := blk_frozen BK145.out 8
                have hfz43_9 := blk_frozen BK145.out 9
                have hfz43_10 := blk_frozen BK145.out 10
                have hfz43_11 := blk_frozen BK145.out 11
                have hfz43_12 := blk_frozen BK145.out 12
                have hfz43_13 := blk_frozen BK145.out 13
                go_wp2_with (first | ((with_reducible refine gate_callee (f := 18) rfl ?_); refine goesL_ (some 53) rfl rfl Tryd.func18 (by kernel_rfl) rfl #[.int .i64 a0_7, .int .i64 1, .int .i64 a0_8] rfl (by (try simp only [List.map_toArray, List.map_cons, List.map_nil]); first | done | rfl | (simp only [List.length_drop, List.length_take]; rfl)) ?_; (with_reducible refine (impl_in.calls a0_7 1 a0_8 false _ A22.out).mono ?_); rintro e w' ⟨rfl, ⟨nd, rfl⟩⟩; refine ⟨_, rfl, ?_⟩))
                go_ret
                exact ⟨by first | rfl | (simp [errW_none, errW_some] <;> rfl) | (simp [*, errW_none, errW_some] <;> rfl), by repeat (first | (with_reducible first | exact HB.out | apply below_alloc | apply pw_below_drewN | apply below_drew1 | refine below_set ?_ GE145.out) | exact HB.out)⟩

end Go.Proofs.YthafbkpoepblgaaDoor.MFnExactConfigText
