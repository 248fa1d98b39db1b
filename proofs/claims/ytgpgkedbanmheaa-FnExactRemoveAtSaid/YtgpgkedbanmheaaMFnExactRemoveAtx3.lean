-- Written by a program of this session over the kit's print, with stand-ins for the functions that the print leaves; Lean checks it.
import Derived.Test.YtgpgkedbanmheaaMFnExactRemoveAtx0
import Derived.Test.YtgpgkedbanmheaaMFnExactRemoveAtx2
namespace Go.Proofs.Ytgpgkedbanmheaa.MFnExactRemoveAt
open Go.RowKit Go.Proofs.YtgpgkedbanmheaaW.PrintWords Go.Proofs.YtgpgkedbanmheaaW.PrintLast Go.Proofs.YtgpgkedbanmheaaW.PrintMore
attribute [local go_sem] max2_int min2_int max_two min_two max_three min_three max_four min_four   -- for this text's walks alone
set_option linter.unusedVariables false
set_option linter.unusedSimpArgs false

/-! ### impl_QueueOk: function 25 -/
mutual
def impl_QueueOk.j0 : Nat → List Int → List Int → Bool → List (S65) → Int → Int → Int → Int → Option (Bool)
  | 0, _, _, _, _, _, _, _, _ => none
  | k + 1, x3, x5, x53, x151000, x151001, x151002, x151003, x151004 => if x53 = true then (some false) else (impl_QueueOk.l0 k x5 (-1) ([] : List Int) x3 (x3.length : Int) 0 x151000 x151001 x151002 x151003 x151004)
def impl_QueueOk.l0 : Nat → List Int → Int → List Int → List Int → Int → Int → List (S65) → Int → Int → Int → Int → Option (Bool)
  | 0, _, _, _, _, _, _, _, _, _, _, _ => none
  | k + 1, x5, x7, x8, x54, x55, x56, x151000, x151001, x151002, x151003, x151004 => if x56 < x55 then (if 0 ≤ x56 then (if x56 < (x54.length : Int) then (if 0 ≤ (rd x54 x56) then (if (rd x54 x56) < (x151000.length : Int) then (if ((rd_T65 x151000 (rd x54 x56)).f3 = true) then ((impl_isId.f ((rd_T65 x151000 (rd x54 x56)).f0)).bind fun t162 => (if t162 = true then (if ((rd_T65 x151000 (rd x54 x56)).f1) = x7 then ((slices_Contains_int_int.f k x8 ((rd_T65 x151000 (rd x54 x56)).f0)).bind fun t163 => (if t163 = true then (some false) else (if x8.length < 17592186044416 then (impl_QueueOk.l0 k x5 (rd x54 x56) (x8 ++ [(rd_T65 x151000 (rd x54 x56)).f0]) x54 x55 (wrap64 (x56 + 1)) x151000 x151001 x151002 x151003 x151004) else (none)))) else (some false)) else (some false))) else (some false)) else (none)) else (none)) else (none)) else (none)) else (impl_QueueOk.l1 k x7 x5 (x5.length : Int) 0 x151000 x151001 x151002 x151003 x151004)
def impl_QueueOk.l1 : Nat → Int → List Int → Int → Int → List (S65) → Int → Int → Int → Int → Option (Bool)
  | 0, _, _, _, _, _, _, _, _, _ => none
  | k + 1, x7, x93, x94, x95, x151000, x151001, x151002, x151003, x151004 => if x95 < x94 then (if 0 ≤ x95 then (if x95 < (x93.length : Int) then (if 0 ≤ (rd x93 x95) then (if (rd x93 x95) < (x151000.length : Int) then (if (rd_T65 x151000 (rd x93 x95)).f3 = true then (some false) else (if ((rd_T65 x151000 (rd x93 x95)).f0) = 0 then (if ((rd_T65 x151000 (rd x93 x95)).f1) = (-1) then (impl_QueueOk.l1 k x7 x93 x94 (wrap64 (x95 + 1)) x151000 x151001 x151002 x151003 x151004) else (some false)) else (some false))) else (none)) else (none)) else (none)) else (none)) else (some (x151002 == x7))
end
def impl_QueueOk.f (k : Nat) (l0_0 : List (S65)) (a0_1 : Int) (a0_2 : Int) (a0_3 : Int) (a0_4 : Int) : Option (Bool) := if (l0_0.length : Int) = 60 then ((impl_Queue_walk.f k l0_0 a0_1 a0_2 a0_3 a0_4 a0_1).bind fun bt151 => ((impl_Queue_walk.f k l0_0 a0_1 a0_2 a0_3 a0_4 a0_3).bind fun bt155 => (if bt151.2 = true then (if bt155.2 = true then (if (bt151.1.length : Int) = a0_4 then (impl_QueueOk.j0 k bt151.1 bt155.1 ((wrap64 ((bt151.1.length : Int) + (bt155.1.length : Int))) != 60) l0_0 a0_1 a0_2 a0_3 a0_4) else (impl_QueueOk.j0 k bt151.1 bt155.1 true l0_0 a0_1 a0_2 a0_3 a0_4)) else (impl_QueueOk.j0 k bt151.1 bt155.1 true l0_0 a0_1 a0_2 a0_3 a0_4)) else (impl_QueueOk.j0 k bt151.1 bt155.1 true l0_0 a0_1 a0_2 a0_3 a0_4)))) else (some false)
theorem impl_QueueOk.mono_l : ∀ k, (∀ y0 y1 y2 y3 y4 y5 y6 y7, LeO (impl_QueueOk.j0 k y0 y1 y2 y3 y4 y5 y6 y7) (impl_QueueOk.j0 (k + 1) y0 y1 y2 y3 y4 y5 y6 y7)) ∧ (∀ y0 y1 y2 y3 y4 y5 y6 y7 y8 y9 y10, LeO (impl_QueueOk.l0 k y0 y1 y2 y3 y4 y5 y6 y7 y8 y9 y10) (impl_QueueOk.l0 (k + 1) y0 y1 y2 y3 y4 y5 y6 y7 y8 y9 y10)) ∧ (∀ y0 y1 y2 y3 y4 y5 y6 y7 y8, LeO (impl_QueueOk.l1 k y0 y1 y2 y3 y4 y5 y6 y7 y8) (impl_QueueOk.l1 (k + 1) y0 y1 y2 y3 y4 y5 y6 y7 y8))
  | 0 => ⟨fun _ _ _ _ _ _ _ _ r h => by simp [impl_QueueOk.j0] at h, fun _ _ _ _ _ _ _ _ _ _ _ r h => by simp [impl_QueueOk.l0] at h, fun _ _ _ _ _ _ _ _ _ r h => by simp [impl_QueueOk.l1] at h⟩
  | k + 1 => by
    obtain ⟨ih0, ih1, ih2⟩ := impl_QueueOk.mono_l k
    refine ⟨?_, ?_, ?_⟩
    · intro y0 y1 y2 y3 y4 y5 y6 y7
      unfold impl_QueueOk.j0
      repeat' first
      | (with_reducible exact ih0 _ _ _ _ _ _ _ _)
      | (with_reducible exact ih1 _ _ _ _ _ _ _ _ _ _ _)
      | (with_reducible exact ih2 _ _ _ _ _ _ _ _ _)
      | (with_reducible exact impl_Queue_walk.mono _ _ _ _ _ _ _)
      | (with_reducible exact slices_Contains_int_int.mono _ _ _)
      | (with_reducible exact LeO.refl _)
      | (with_reducible exact LeO.none _)
      | (with_reducible refine LeO.ite ?_ ?_)
      | (with_reducible refine LeO.bind ?_ (fun _ => ?_))
      | exact ih0 _ _ _ _ _ _ _ _
      | exact ih1 _ _ _ _ _ _ _ _ _ _ _
      | exact ih2 _ _ _ _ _ _ _ _ _
      | exact impl_Queue_walk.mono _ _ _ _ _ _ _
      | exact slices_Contains_int_int.mono _ _ _
      | exact LeO.none _
      | refine LeO.ite ?_ ?_
      | refine LeO.bind ?_ (fun _ => ?_)
    · intro y0 y1 y2 y3 y4 y5 y6 y7 y8 y9 y10
      unfold impl_QueueOk.l0
      repeat' first
      | (with_reducible exact ih0 _ _ _ _ _ _ _ _)
      | (with_reducible exact ih1 _ _ _ _ _ _ _ _ _ _ _)
      | (with_reducible exact ih2 _ _ _ _ _ _ _ _ _)
      | (with_reducible exact impl_Queue_walk.mono _ _ _ _ _ _ _)
      | (with_reducible exact slices_Contains_int_int.mono _ _ _)
      | (with_reducible exact LeO.refl _)
      | (with_reducible exact LeO.none _)
      | (with_reducible refine LeO.ite ?_ ?_)
      | (with_reducible refine LeO.bind ?_ (fun _ => ?_))
      | exact ih0 _ _ _ _ _ _ _ _
      | exact ih1 _ _ _ _ _ _ _ _ _ _ _
      | exact ih2 _ _ _ _ _ _ _ _ _
      | exact impl_Queue_walk.mono _ _ _ _ _ _ _
      | exact slices_Contains_int_int.mono _ _ _
      | exact LeO.none _
      | refine LeO.ite ?_ ?_
      | refine LeO.bind ?_ (fun _ => ?_)
    · intro y0 y1 y2 y3 y4 y5 y6 y7 y8
      unfold impl_QueueOk.l1
      repeat' first
      | (with_reducible exact ih0 _ _ _ _ _ _ _ _)
      | (with_reducible exact ih1 _ _ _ _ _ _ _ _ _ _ _)
      | (with_reducible exact ih2 _ _ _ _ _ _ _ _ _)
      | (with_reducible exact impl_Queue_walk.mono _ _ _ _ _ _ _)
      | (with_reducible exact slices_Contains_int_int.mono _ _ _)
      | (with_reducible exact LeO.refl _)
      | (with_reducible exact LeO.none _)
      | (with_reducible refine LeO.ite ?_ ?_)
      | (with_reducible refine LeO.bind ?_ (fun _ => ?_))
      | exact ih0 _ _ _ _ _ _ _ _
      | exact ih1 _ _ _ _ _ _ _ _ _ _ _
      | exact ih2 _ _ _ _ _ _ _ _ _
      | exact impl_Queue_walk.mono _ _ _ _ _ _ _
      | exact slices_Contains_int_int.mono _ _ _
      | exact LeO.none _
      | refine LeO.ite ?_ ?_
      | refine LeO.bind ?_ (fun _ => ?_)
theorem impl_QueueOk.mono : ∀ a0 a1 a2 a3 a4 k, LeO (impl_QueueOk.f k a0 a1 a2 a3 a4) (impl_QueueOk.f (k + 1) a0 a1 a2 a3 a4) := by
  intro a0 a1 a2 a3 a4 k
  obtain ⟨ih0, ih1, ih2⟩ := impl_QueueOk.mono_l k
  unfold impl_QueueOk.f
  repeat' first
      | (with_reducible exact ih0 _ _ _ _ _ _ _ _)
      | (with_reducible exact ih1 _ _ _ _ _ _ _ _ _ _ _)
      | (with_reducible exact ih2 _ _ _ _ _ _ _ _ _)
      | (with_reducible exact impl_Queue_walk.mono _ _ _ _ _ _ _)
      | (with_reducible exact slices_Contains_int_int.mono _ _ _)
      | (with_reducible exact LeO.refl _)
      | (with_reducible exact LeO.none _)
      | (with_reducible refine LeO.ite ?_ ?_)
      | (with_reducible refine LeO.bind ?_ (fun _ => ?_))
      | exact ih0 _ _ _ _ _ _ _ _
      | exact ih1 _ _ _ _ _ _ _ _ _ _ _
      | exact ih2 _ _ _ _ _ _ _ _ _
      | exact impl_Queue_walk.mono _ _ _ _ _ _ _
      | exact slices_Contains_int_int.mono _ _ _
      | exact LeO.none _
      | refine LeO.ite ?_ ?_
      | refine LeO.bind ?_ (fun _ => ?_)
set_option maxHeartbeats 40000000 in
set_option maxRecDepth 100000 in
theorem impl_QueueOk.calls (k : Nat) (A0_0 : Option Addr) (c0_0 : Nat) (l0_0 : List (S65)) (a0_1 : Int) (a0_2 : Int) (a0_3 : Int) (a0_4 : Int) (r : Bool) (w : World) (hr0_0 : Kd.C k65 w A0_0 l0_0.length l0_0) (hc0_0 : l0_0.length ≤ c0_0) (h : impl_QueueOk.f k l0_0 a0_1 a0_2 a0_3 a0_4 = some r) :
    Calls Try.prog 25 #[.agg #[.slice A0_0 l0_0.length c0_0, .int .i64 a0_1, .int .i64 a0_2, .int .i64 a0_3, .int .i64 a0_4]] w fun e w' => e = .returned (.bool r) ∧ Below w.heap.size w w' := by
  have hu28 := Try.underlying28
  have hu65 := Try.underlying65
  have HR0_0 := Aside0.mk hr0_0
  have HC0_0 := Aside0.mk hc0_0
  clear hr0_0 hc0_0
  have HB := Aside0.mk (Below.refl w.heap.size w)
  have H : (if (l0_0.length : Int) = 60 then ((impl_Queue_walk.f k l0_0 a0_1 a0_2 a0_3 a0_4 a0_1).bind fun bt151 => ((impl_Queue_walk.f k l0_0 a0_1 a0_2 a0_3 a0_4 a0_3).bind fun bt155 => (if bt151.2 = true then (if bt155.2 = true then (if (bt151.1.length : Int) = a0_4 then (impl_QueueOk.j0 k bt151.1 bt155.1 ((wrap64 ((bt151.1.length : Int) + (bt155.1.length : Int))) != 60) l0_0 a0_1 a0_2 a0_3 a0_4) else (impl_QueueOk.j0 k bt151.1 bt155.1 true l0_0 a0_1 a0_2 a0_3 a0_4)) else (impl_QueueOk.j0 k bt151.1 bt155.1 true l0_0 a0_1 a0_2 a0_3 a0_4)) else (impl_QueueOk.j0 k bt151.1 bt155.1 true l0_0 a0_1 a0_2 a0_3 a0_4)))) else (some false)) = some r := h
  clear h
  by_cases c2 : (l0_0.length : Int) = 60
  · rw [if_pos c2] at H
    have c2b0 : ((l0_0.length : Int) == 60) = true := beq_iff_eq.mpr c2
    have c2b1 : ((l0_0.length : Int) != 60) = false := bne_eq_false_iff_eq.mpr c2
    clear c2
    replace H := Option.bind_eq_some_iff.mp H
    obtain ⟨⟨t151, t154⟩, A30, H⟩ := H
    replace H : ((impl_Queue_walk.f k l0_0 a0_1 a0_2 a0_3 a0_4 a0_3).bind fun bt155 => (if t154 = true then (if bt155.2 = true then (if (t151.length : Int) = a0_4 then (impl_QueueOk.j0 k t151 bt155.1 ((wrap64 ((t151.length : Int) + (bt155.1.length : Int))) != 60) l0_0 a0_1 a0_2 a0_3 a0_4) else (impl_QueueOk.j0 k t151 bt155.1 true l0_0 a0_1 a0_2 a0_3 a0_4)) else (impl_QueueOk.j0 k t151 bt155.1 true l0_0 a0_1 a0_2 a0_3 a0_4)) else (impl_QueueOk.j0 k t151 bt155.1 true l0_0 a0_1 a0_2 a0_3 a0_4))) = some r := H
    have A3 := Aside0.mk A30
    clear A30
    replace H := Option.bind_eq_some_iff.mp H
    obtain ⟨⟨t155, t158⟩, A40, H⟩ := H
    replace H : (if t154 = true then (if t158 = true then (if (t151.length : Int) = a0_4 then (impl_QueueOk.j0 k t151 t155 ((wrap64 ((t151.length : Int) + (t155.length : Int))) != 60) l0_0 a0_1 a0_2 a0_3 a0_4) else (impl_QueueOk.j0 k t151 t155 true l0_0 a0_1 a0_2 a0_3 a0_4)) else (impl_QueueOk.j0 k t151 t155 true l0_0 a0_1 a0_2 a0_3 a0_4)) else (impl_QueueOk.j0 k t151 t155 true l0_0 a0_1 a0_2 a0_3 a0_4)) = some r := H
    have A4 := Aside0.mk A40
    clear A40
    have HC5 := Aside0.mk H
    clear H
    go_enter Try.func25, Try.ntmps25
    go_upto_region 5 with (first | ((with_reducible refine gate_dst (N := 1) rfl ?_); (try (refine gate_guard (by rfl) ?_; dsimp only)); refine box_event ?hg (N := 1) ?hd (cs := #[.slice A0_0 l0_0.length c0_0, .int .i64 a0_1, .int .i64 a0_2, .int .i64 a0_3, .int .i64 a0_4]) (t := 28) ?hr ?_; (case hd => rfl); (case hg => rfl); (case hr => first | (go_simp; done) | (go_simp; rfl)); intro gb150 hg w6 hbox hb; have n0_ := Aside0.mk (below_step (be_ HB.out) hb); have n1_ := Aside0.mk (hbox); have n2_ := Aside0.mk ((by rw [hg]; exact (below_size (be_ HB.out)) : w.heap.size ≤ gb150)); have n3_ := Aside0.mk ((by rw [hg]; exact (below_size (be_ HB.out)) : w.heap.size ≤ gb150)); clear HB; have HB := n0_; have BK150 := n1_; have GW150 := n2_; have GE150 := n3_; clear n0_ n1_ n2_ n3_; clear hb hbox hg; obtain ⟨hcz7_0, hcz7_1, hcz7_2, hcz7_3, hcz7_4, hfz7_0, hfz7_1, hfz7_2, hfz7_3, hfz7_4⟩ := cz5_ BK150.out) | ((with_reducible refine gate_callee (f := 57) rfl ?_); refine goesL_ (some 23) rfl rfl Try.func57 (by kernel_rfl) rfl #[.agg #[.slice A0_0 l0_0.length c0_0, .int .i64 a0_1, .int .i64 a0_2, .int .i64 a0_3, .int .i64 a0_4], .int .i64 a0_1] rfl (by (try simp only [List.map_toArray, List.map_cons, List.map_nil]); first | done | rfl | (simp only [List.length_drop, List.length_take]; rfl)) ?_; (with_reducible refine (impl_Queue_walk.calls k _ _ l0_0 a0_1 a0_2 a0_3 a0_4 a0_1 t151 t154 _ ?side1 ?side2 A3.out).mono ?_); (case side1 => repeat (first | exact (Kd.C_below HR0_0.out HB.out) | (with_reducible refine Kd.C_alloc ?_ _) | (with_reducible refine Kd.C_drewN ?_ _) | (with_reducible refine Kd.C_drew ?_))); (case side2 => exact HC0_0.out); rintro e w8 ⟨v152, rfl, ho0, hb⟩; refine ⟨_, rfl, ?_⟩; have n0_ := Aside0.mk (Kd.R_lower ho0 (below_size (be_ HB.out))); have n1_ := Aside0.mk (blk_below (g := gb150) (o := .cells #[.slice A0_0 l0_0.length c0_0, .int .i64 a0_1, .int .i64 a0_2, .int .i64 a0_3, .int .i64 a0_4] 28 (0, 0)) (bl_ BK150.out) hb); have n2_ := Aside0.mk (below_step (be_ HB.out) hb); clear BK150 HB; have HO153 := n0_; have BK150 := n1_; have HB := n2_; clear n0_ n1_ n2_; (try clear hb); (try clear hb2); (try clear hk); (try clear hi); (try clear ho0); obtain ⟨hcz9_0, hcz9_1, hcz9_2, hcz9_3, hcz9_4, hfz9_0, hfz9_1, hfz9_2, hfz9_3, hfz9_4⟩ := cz5_ BK150.out) | ((with_reducible refine gate_callee (f := 57) rfl ?_); refine goesL_ (some 30) rfl rfl Try.func57 (by kernel_rfl) rfl #[.agg #[.slice A0_0 l0_0.length c0_0, .int .i64 a0_1, .int .i64 a0_2, .int .i64 a0_3, .int .i64 a0_4], .int .i64 a0_3] rfl (by (try simp only [List.map_toArray, List.map_cons, List.map_nil]); first | done | rfl | (simp only [List.length_drop, List.length_take]; rfl)) ?_; (with_reducible refine (impl_Queue_walk.calls k _ _ l0_0 a0_1 a0_2 a0_3 a0_4 a0_3 t155 t158 _ ?side1 ?side2 A4.out).mono ?_); (case side1 => repeat (first | exact (Kd.C_below HR0_0.out HB.out) | (with_reducible refine Kd.C_alloc ?_ _) | (with_reducible refine Kd.C_drewN ?_ _) | (with_reducible refine Kd.C_drew ?_))); (case side2 => exact HC0_0.out); rintro e w10 ⟨v156, rfl, ho0, hb⟩; refine ⟨_, rfl, ?_⟩; have n0_ := Aside0.mk (Kd.R_elder' (ro_ HO153.out) (Kd.R_base ho0) hb); have n1_ := Aside0.mk (Kd.R_lower (Kd.R_new' ho0 (Kd.R_lt (ro_ HO153.out))) (below_size (be_ HB.out))); have n2_ := Aside0.mk (blk_below (g := gb150) (o := .cells #[.slice A0_0 l0_0.length c0_0, .int .i64 a0_1, .int .i64 a0_2, .int .i64 a0_3, .int .i64 a0_4] 28 (0, 0)) (bl_ BK150.out) hb); have n3_ := Aside0.mk (below_step (be_ HB.out) hb); clear HO153 BK150 HB; have HO153 := n0_; have HO157 := n1_; have BK150 := n2_; have HB := n3_; clear n0_ n1_ n2_ n3_; (try clear hb); (try clear hb2); (try clear hk); (try clear hi); (try clear ho0)))
    (try simp only [Act.put, List.setIfInBounds_toArray, List.set_cons_zero, List.set_cons_succ])
    go_cut [53] (fun v53 wc => ∃ (kq : Nat) (x53_4 : Bool), v53 = .bool x53_4 ∧ Aside0 (impl_QueueOk.j0 kq t151 t155 x53_4 l0_0 a0_1 a0_2 a0_3 a0_4 = some r) ∧ Aside0 (kq ≤ k) ∧ Aside0 (Kd.R (Kd.int .i64) 3 wc w.heap.size (fun k_ => some k_ ≠ (v156 : Value).ownBlock) v152 t151) ∧ Aside0 (Kd.R (Kd.int .i64) 3 wc w.heap.size (fun k_ => some k_ ≠ (v152 : Value).ownBlock) v156 t155) ∧ Aside0 (wc.heap[gb150]? = some (.cells #[(.slice A0_0 l0_0.length c0_0), .int .i64 a0_1, .int .i64 a0_2, .int .i64 a0_3, .int .i64 a0_4] 28 (0, 0))) ∧ Aside0 (Below w.heap.size w wc))
    case first =>
      have H := HC5.out
      clear HC5
      by_cases c11 : t154 = true
      · subst c11
        have H1 : (if t158 = true then (if (t151.length : Int) = a0_4 then (impl_QueueOk.j0 k t151 t155 ((wrap64 ((t151.length : Int) + (t155.length : Int))) != 60) l0_0 a0_1 a0_2 a0_3 a0_4) else (impl_QueueOk.j0 k t151 t155 true l0_0 a0_1 a0_2 a0_3 a0_4)) else (impl_QueueOk.j0 k t151 t155 true l0_0 a0_1 a0_2 a0_3 a0_4)) = some r := by rw [if_pos rfl] at H; exact H
        clear H
        have H := H1
        clear H1
        by_cases c12 : t158 = true
        · subst c12
          have H1 : (if (t151.length : Int) = a0_4 then (impl_QueueOk.j0 k t151 t155 ((wrap64 ((t151.length : Int) + (t155.length : Int))) != 60) l0_0 a0_1 a0_2 a0_3 a0_4) else (impl_QueueOk.j0 k t151 t155 true l0_0 a0_1 a0_2 a0_3 a0_4)) = some r := by rw [if_pos rfl] at H; exact H
          clear H
          have H := H1
          clear H1
          by_cases c13 : (t151.length : Int) = a0_4
          · rw [if_pos c13] at H
            have c13b0 : ((t151.length : Int) == a0_4) = true := beq_iff_eq.mpr c13
            have c13b1 : ((t151.length : Int) != a0_4) = false := bne_eq_false_iff_eq.mpr c13
            clear c13
            (first | rw [c13b0] | (simp only [i64_w, i32_w]; rw [c13b0]) | skip)
            have H' := Aside0.mk H
            clear H
            obtain ⟨Ao14, co14, eo14⟩ := Kd.R_slice HO153.out
            subst eo14
            have hcz15_0 : w10.cell? ⟨gb150, 0, none⟩ = some (.slice A0_0 l0_0.length c0_0) := (blk_cell BK150.out 0).trans rfl
            have hcz15_1 : w10.cell? ⟨gb150, 1, none⟩ = some (.int .i64 a0_1) := (blk_cell BK150.out 1).trans rfl
            have hcz15_2 : w10.cell? ⟨gb150, 2, none⟩ = some (.int .i64 a0_2) := (blk_cell BK150.out 2).trans rfl
            have hcz15_3 : w10.cell? ⟨gb150, 3, none⟩ = some (.int .i64 a0_3) := (blk_cell BK150.out 3).trans rfl
            have hcz15_4 : w10.cell? ⟨gb150, 4, none⟩ = some (.int .i64 a0_4) := (blk_cell BK150.out 4).trans rfl
            have hfz15_0 := blk_frozen BK150.out 0
            have hfz15_1 := blk_frozen BK150.out 1
            have hfz15_2 := blk_frozen BK150.out 2
            have hfz15_3 := blk_frozen BK150.out 3
            have hfz15_4 := blk_frozen BK150.out 4
            obtain ⟨Ao16, co16, eo16⟩ := Kd.R_slice HO157.out
            subst eo16
            go_wp2
            go_meet
            case rel => exact ⟨_, (((wrap64 ((t151.length : Int) + (t155.length : Int))) != 60)), (by first | rfl | (simp; done) | (simp [*]; done)), H', ⟨by first | omega | exact Nat.le_refl _⟩, ⟨by (with_reducible repeat (first | apply Kd.R_alloc | apply Kd.R_drewN | apply Kd.R_drew)); exact Kd.R_mono HO153.out (fun _ hk => hk.2)⟩, ⟨by (with_reducible repeat (first | apply Kd.R_alloc | apply Kd.R_drewN | apply Kd.R_drew)); exact Kd.R_mono HO157.out (fun _ hk => hk.2)⟩, ⟨by refine bl_ ?_; exact BK150.out⟩, ⟨be_ HB.out⟩⟩
          · rw [if_neg c13] at H
            have c13b0 : ((t151.length : Int) == a0_4) = false := beq_eq_false_iff_ne.mpr c13
            have c13b1 : ((t151.length : Int) != a0_4) = true := bne_iff_ne.mpr c13
            (first | rw [c13b0] | (simp only [i64_w, i32_w]; rw [c13b0]) | skip)
            have H' := Aside0.mk H
            clear H
            obtain ⟨Ao17, co17, eo17⟩ := Kd.R_slice HO153.out
            subst eo17
            have hcz18_0 : w10.cell? ⟨gb150, 0, none⟩ = some (.slice A0_0 l0_0.length c0_0) := (blk_cell BK150.out 0).trans rfl
            have hcz18_1 : w10.cell? ⟨gb150, 1, none⟩ = some (.int .i64 a0_1) := (blk_cell BK150.out 1).trans rfl
            have hcz18_2 : w10.cell? ⟨gb150, 2, none⟩ = some (.int .i64 a0_2) := (blk_cell BK150.out 2).trans rfl
            have hcz18_3 : w10.cell? ⟨gb150, 3, none⟩ = some (.int .i64 a0_3) := (blk_cell BK150.out 3).trans rfl
            have hcz18_4 : w10.cell? ⟨gb150, 4, none⟩ = some (.int .i64 a0_4) := (blk_cell BK150.out 4).trans rfl
            have hfz18_0 := blk_frozen BK150.out 0
            have hfz18_1 := blk_frozen BK150.out 1
            have hfz18_2 := blk_frozen BK150.out 2
            have hfz18_3 := blk_frozen BK150.out 3
            have hfz18_4 := blk_frozen BK150.out 4
            go_wp2
            go_meet
            case rel => exact ⟨_, (true), (by first | rfl | (simp; done) | (simp [*]; done)), H', ⟨by first | omega | exact Nat.le_refl _⟩, ⟨by (with_reducible repeat (first | apply Kd.R_alloc | apply Kd.R_drewN | apply Kd.R_drew)); exact Kd.R_mono HO153.out (fun _ hk => hk.2)⟩, ⟨by (with_reducible repeat (first | apply Kd.R_alloc | apply Kd.R_drewN | apply Kd.R_drew)); exact Kd.R_mono HO157.out (fun _ hk => hk.2)⟩, ⟨by refine bl_ ?_; exact BK150.out⟩, ⟨be_ HB.out⟩⟩
        · replace c12 := Bool.eq_false_iff.mpr c12
          subst c12
          have H1 : (impl_QueueOk.j0 k t151 t155 true l0_0 a0_1 a0_2 a0_3 a0_4) = some r := by rw [if_neg (show ¬ (false = true) by decide)] at H; exact H
          clear H
          have H := H1
          clear H1
          have H' := Aside0.mk H
          clear H
          go_wp2
          go_meet
          case rel => exact ⟨_, (true), (by first | rfl | (simp; done) | (simp [*]; done)), H', ⟨by first | omega | exact Nat.le_refl _⟩, ⟨by (with_reducible repeat (first | apply Kd.R_alloc | apply Kd.R_drewN | apply Kd.R_drew)); exact Kd.R_mono HO153.out (fun _ hk => hk.2)⟩, ⟨by (with_reducible repeat (first | apply Kd.R_alloc | apply Kd.R_drewN | apply Kd.R_drew)); exact Kd.R_mono HO157.out (fun _ hk => hk.2)⟩, ⟨by refine bl_ ?_; exact BK150.out⟩, ⟨be_ HB.out⟩⟩
      · replace c11 := Bool.eq_false_iff.mpr c11
        subst c11
        have H1 : (impl_QueueOk.j0 k t151 t155 true l0_0 a0_1 a0_2 a0_3 a0_4) = some r := by rw [if_neg (show ¬ (false = true) by decide)] at H; exact H
        clear H
        have H := H1
        clear H1
        have H' := Aside0.mk H
        clear H
        go_wp2
        go_meet
        case rel => exact ⟨_, (true), (by first | rfl | (simp; done) | (simp [*]; done)), H', ⟨by first | omega | exact Nat.le_refl _⟩, ⟨by (with_reducible repeat (first | apply Kd.R_alloc | apply Kd.R_drewN | apply Kd.R_drew)); exact Kd.R_mono HO153.out (fun _ hk => hk.2)⟩, ⟨by (with_reducible repeat (first | apply Kd.R_alloc | apply Kd.R_drewN | apply Kd.R_drew)); exact Kd.R_mono HO157.out (fun _ hk => hk.2)⟩, ⟨by refine bl_ ?_; exact BK150.out⟩, ⟨be_ HB.out⟩⟩
    case rest =>
      clear HC5
      try clear c1
      try clear c2
      try clear c2b0
      try clear c2b1
      try clear p2
      try clear c5
      try clear p6
      try clear c11
      try clear c12
      try clear c13
      try clear c13b0
      try clear c13b1
      try clear hcz15_0
      try clear hcz15_1
      try clear hcz15_2
      try clear hcz15_3
      try clear hcz15_4
      try clear hcz18_0
      try clear hcz18_1
      try clear hcz18_2
      try clear hcz18_3
      try clear hcz18_4
      try clear hcz7_0
      try clear hcz7_1
      try clear hcz7_2
      try clear hcz7_3
      try clear hcz7_4
      try clear hcz9_0
      try clear hcz9_1
      try clear hcz9_2
      try clear hcz9_3
      try clear hcz9_4
      try clear hfz15_0
      try clear hfz15_1
      try clear hfz15_2
      try clear hfz15_3
      try clear hfz15_4
      try clear hfz18_0
      try clear hfz18_1
      try clear hfz18_2
      try clear hfz18_3
      try clear hfz18_4
      try clear hfz7_0
      try clear hfz7_1
      try clear hfz7_2
      try clear hfz7_3
      try clear hfz7_4
      try clear hfz9_0
      try clear hfz9_1
      try clear hfz9_2
      try clear hfz9_3
      try clear hfz9_4
      obtain ⟨kq, x53_4, rfl, HA, HJ4, HO_3, HO_5, BK150, HB⟩ := hcut
      cases kq with
      | zero => exact absurd HA.out (by simp [impl_QueueOk.j0])
      | succ kj4 =>
        have H := HA.out
        clear HA
        simp only [impl_QueueOk.j0] at H
        by_cases c19 : x53_4 = true
        · subst c19
          have H1 : (some false) = some r := by rw [if_pos rfl] at H; exact H
          clear H
          have H := H1
          clear H1
          obtain rfl := Option.some.inj H
          go_wp2
          go_ret
          exact ⟨by first | rfl | (simp [errW_none, errW_some] <;> rfl) | (simp [*, errW_none, errW_some] <;> rfl), be_ HB.out⟩
        · replace c19 := Bool.eq_false_iff.mpr c19
          subst c19
          have H1 : (impl_QueueOk.l0 kj4 t155 (-1) ([] : List Int) t151 (t151.length : Int) 0 l0_0 a0_1 a0_2 a0_3 a0_4) = some r := by rw [if_neg (show ¬ (false = true) by decide)] at H; exact H
          clear H
          have H := H1
          clear H1
          have H' := Aside0.mk H
          clear H
          obtain ⟨Ao20, co20, eo20⟩ := Kd.R_slice HO_3.out
          subst eo20
          go_wp2
          go_loopg [7, 8, 56] kj4 (fun kq v7 v8 v56 w' => ∃ (x7_2 : Int) (x8_2 : List Int) (x56_2 : Int), v7 = .int .i64 x7_2 ∧ v56 = .int .i64 x56_2 ∧ Aside0 (impl_QueueOk.l0 kq t155 x7_2 x8_2 t151 (t151.length : Int) x56_2 l0_0 a0_1 a0_2 a0_3 a0_4 = some r) ∧ Aside0 (kq ≤ kj4) ∧ Aside0 (Kd.R (Kd.int .i64) 3 w' w.heap.size (fun k_ => some k_ ≠ (v8 : Value).ownBlock ∧ some k_ ≠ ((.slice Ao20 t151.length co20) : Value).ownBlock) v156 t155) ∧ Aside0 (Kd.R (Kd.int .i64) 3 w' w.heap.size (fun k_ => some k_ ≠ (v156 : Value).ownBlock ∧ some k_ ≠ ((.slice Ao20 t151.length co20) : Value).ownBlock) v8 x8_2) ∧ Aside0 (Kd.R (Kd.int .i64) 3 w' w.heap.size (fun k_ => some k_ ≠ (v156 : Value).ownBlock ∧ some k_ ≠ (v8 : Value).ownBlock) (.slice Ao20 t151.length co20) t151) ∧ Aside0 (w'.heap[gb150]? = some (.cells #[(.slice A0_0 l0_0.length c0_0), .int .i64 a0_1, .int .i64 a0_2, .int .i64 a0_3, .int .i64 a0_4] 28 (0, 0))) ∧ Aside0 (Below w.heap.size w w'))
          case atStart => exact ⟨((-1)), (([] : List Int)), (0), (by first | rfl | (simp; done) | (simp [*]; done)), (by first | rfl | (simp; done) | (simp [*]; done)), H', ⟨Nat.le_refl _⟩, ⟨by (with_reducible repeat (first | apply Kd.R_alloc | apply Kd.R_drewN | apply Kd.R_drew)); exact Kd.R_mono HO_5.out (fun _ hk => ⟨(by simp [Value.ownBlock]), hk⟩)⟩, ⟨by first | exact Kd.R_nil _ _ _ _ _ | exact Kd.N_nil _ _ _ _ _ | exact Kd.V_nil _ _ _ _ _ | exact Kd.Q_nil _ _ _ _ _ | exact Kd.S_nil _ _ _ _ _⟩, ⟨by (with_reducible repeat (first | apply Kd.R_alloc | apply Kd.R_drewN | apply Kd.R_drew)); exact Kd.R_mono HO_3.out (fun _ hk => ⟨hk, (by simp [Value.ownBlock])⟩)⟩, ⟨by refine bl_ ?_; exact BK150.out⟩, ⟨be_ HB.out⟩⟩
          case round =>
            clear H'
            try clear c1
            try clear c2
            try clear c2b0
            try clear c2b1
            try clear p2
            try clear c5
            try clear p6
            try clear c11
            try clear c12
            try clear c13
            try clear c13b0
            try clear c13b1
            try clear c19
            try clear hcz15_0
            try clear hcz15_1
            try clear hcz15_2
            try clear hcz15_3
            try clear hcz15_4
            try clear hcz18_0
            try clear hcz18_1
            try clear hcz18_2
            try clear hcz18_3
            try clear hcz18_4
            try clear hcz7_0
            try clear hcz7_1
            try clear hcz7_2
            try clear hcz7_3
            try clear hcz7_4
            try clear hcz9_0
            try clear hcz9_1
            try clear hcz9_2
            try clear hcz9_3
            try clear hcz9_4
            try clear hfz15_0
            try clear hfz15_1
            try clear hfz15_2
            try clear hfz15_3
            try clear hfz15_4
            try clear hfz18_0
            try clear hfz18_1
            try clear hfz18_2
            try clear hfz18_3
            try clear hfz18_4
            try clear hfz7_0
            try clear hfz7_1
            try clear hfz7_2
            try clear hfz7_3
            try clear hfz7_4
            try clear hfz9_0
            try clear hfz9_1
            try clear hfz9_2
            try clear hfz9_3
            try clear hfz9_4
            try clear p2
            try clear p6
            obtain ⟨x7_2, x8_2, x56_2, rfl, rfl, HA, HK2, HO_5, HO_8, HO_54, BK150, HB⟩ := hrel
            cases gk with
            | zero => exact absurd HA.out (by simp [impl_QueueOk.l0])
            | succ k2 =>
              have H := HA.out
              clear HA
              simp only [impl_QueueOk.l0] at H
              by_cases c21 : x56_2 < (t151.length : Int)
              · rw [if_pos c21] at H
                have c21b0 : decide (x56_2 < (t151.length : Int)) = true := decide_eq_true c21
                clear c21
                by_cases c22 : 0 ≤ x56_2
                · rw [if_pos c22] at H
                  have c22b0 : decide (0 ≤ x56_2) = true := decide_eq_true c22
                  clear c22
                  by_cases c23 : x56_2 < (t151.length : Int)
                  · rw [if_pos c23] at H
                    have c23b0 : decide (x56_2 < (t151.length : Int)) = true := decide_eq_true c23
                    clear c23
                    by_cases c24 : 0 ≤ (rd t151 x56_2)
                    · rw [if_pos c24] at H
                      have c24b0 : decide (0 ≤ (rd t151 x56_2)) = true := decide_eq_true c24
                      clear c24
                      by_cases c25 : (rd t151 x56_2) < (l0_0.length : Int)
                      · rw [if_pos c25] at H
                        have c25b0 : decide ((rd t151 x56_2) < (l0_0.length : Int)) = true := decide_eq_true c25
                        clear c25
                        obtain ⟨bq26, hbq26⟩ : ∃ b_ : Bool, b_ = ((rd_T65 l0_0 (rd t151 x56_2)).f3) := ⟨_, rfl⟩
                        replace H : (if (bq26 = true) then ((impl_isId.f ((rd_T65 l0_0 (rd t151 x56_2)).f0)).bind fun t162 => (if t162 = true then (if ((rd_T65 l0_0 (rd t151 x56_2)).f1) = x7_2 then ((slices_Contains_int_int.f k2 x8_2 ((rd_T65 l0_0 (rd t151 x56_2)).f0)).bind fun t163 => (if t163 = true then (some false) else (if x8_2.length < 17592186044416 then (impl_QueueOk.l0 k2 t155 (rd t151 x56_2) (x8_2 ++ [(rd_T65 l0_0 (rd t151 x56_2)).f0]) t151 (t151.length : Int) (wrap64 (x56_2 + 1)) l0_0 a0_1 a0_2 a0_3 a0_4) else (none)))) else (some false)) else (some false))) else (some false)) = some r := by rw [← hbq26] at H; exact H
                        have Nbq26 := Aside0.mk hbq26
                        clear hbq26
                        by_cases c27 : (bq26 = true)
                        · subst c27
                          have H1 : ((impl_isId.f ((rd_T65 l0_0 (rd t151 x56_2)).f0)).bind fun t162 => (if t162 = true then (if ((rd_T65 l0_0 (rd t151 x56_2)).f1) = x7_2 then ((slices_Contains_int_int.f k2 x8_2 ((rd_T65 l0_0 (rd t151 x56_2)).f0)).bind fun t163 => (if t163 = true then (some false) else (if x8_2.length < 17592186044416 then (impl_QueueOk.l0 k2 t155 (rd t151 x56_2) (x8_2 ++ [(rd_T65 l0_0 (rd t151 x56_2)).f0]) t151 (t151.length : Int) (wrap64 (x56_2 + 1)) l0_0 a0_1 a0_2 a0_3 a0_4) else (none)))) else (some false)) else (some false))) = some r := by rw [if_pos rfl] at H; exact H
                          clear H
                          have H := H1
                          clear H1
                          replace H := Option.bind_eq_some_iff.mp H
                          obtain ⟨t162, A280, H⟩ := H
                          replace H : (if t162 = true then (if ((rd_T65 l0_0 (rd t151 x56_2)).f1) = x7_2 then ((slices_Contains_int_int.f k2 x8_2 ((rd_T65 l0_0 (rd t151 x56_2)).f0)).bind fun t163 => (if t163 = true then (some false) else (if x8_2.length < 17592186044416 then (impl_QueueOk.l0 k2 t155 (rd t151 x56_2) (x8_2 ++ [(rd_T65 l0_0 (rd t151 x56_2)).f0]) t151 (t151.length : Int) (wrap64 (x56_2 + 1)) l0_0 a0_1 a0_2 a0_3 a0_4) else (none)))) else (some false)) else (some false)) = some r := H
                          have A28 := Aside0.mk A280
                          clear A280
                          by_cases c29 : t162 = true
                          · subst c29
                            have H1 : (if ((rd_T65 l0_0 (rd t151 x56_2)).f1) = x7_2 then ((slices_Contains_int_int.f k2 x8_2 ((rd_T65 l0_0 (rd t151 x56_2)).f0)).bind fun t163 => (if t163 = true then (some false) else (if x8_2.length < 17592186044416 then (impl_QueueOk.l0 k2 t155 (rd t151 x56_2) (x8_2 ++ [(rd_T65 l0_0 (rd t151 x56_2)).f0]) t151 (t151.length : Int) (wrap64 (x56_2 + 1)) l0_0 a0_1 a0_2 a0_3 a0_4) else (none)))) else (some false)) = some r := by rw [if_pos rfl] at H; exact H
                            clear H
                            have H := H1
                            clear H1
                            by_cases c30 : ((rd_T65 l0_0 (rd t151 x56_2)).f1) = x7_2
                            · rw [if_pos c30] at H
                              have c30b0 : (((rd_T65 l0_0 (rd t151 x56_2)).f1) == x7_2) = true := beq_iff_eq.mpr c30
                              have c30b1 : (((rd_T65 l0_0 (rd t151 x56_2)).f1) != x7_2) = false := bne_eq_false_iff_eq.mpr c30
                              clear c30
                              replace H := Option.bind_eq_some_iff.mp H
                              obtain ⟨t163, A310, H⟩ := H
                              replace H : (if t163 = true then (some false) else (if x8_2.length < 17592186044416 then (impl_QueueOk.l0 k2 t155 (rd t151 x56_2) (x8_2 ++ [(rd_T65 l0_0 (rd t151 x56_2)).f0]) t151 (t151.length : Int) (wrap64 (x56_2 + 1)) l0_0 a0_1 a0_2 a0_3 a0_4) else (none))) = some r := H
                              have A31 := Aside0.mk A310
                              clear A310
                              by_cases c32 : t163 = true
                              · subst c32
                                have H1 : (some false) = some r := by rw [if_pos rfl] at H; exact H
                                clear H
                                have H := H1
                                clear H1
                                obtain rfl := Option.some.inj H
                                have p159 : 0 ≤ (x56_2 : Int) := of_decide_eq_true (by first | (with_reducible assumption) | assumption)
                                have q159 : x56_2 < (t151.length : Int) := of_decide_eq_true (by first | (with_reducible assumption) | assumption)
                                obtain ⟨ad159, e159, hx159_0⟩ := Kd.at_int (Kd.R_reads' HO_54.out).2.2 x56_2 p159 q159
                                cases e159
                                replace p159 := eq_true p159
                                replace q159 := eq_true q159
                                have hcz33_0 : wr.cell? ⟨gb150, 0, none⟩ = some (.slice A0_0 l0_0.length c0_0) := (blk_cell BK150.out 0).trans rfl
                                have hcz33_1 : wr.cell? ⟨gb150, 1, none⟩ = some (.int .i64 a0_1) := (blk_cell BK150.out 1).trans rfl
                                have hcz33_2 : wr.cell? ⟨gb150, 2, none⟩ = some (.int .i64 a0_2) := (blk_cell BK150.out 2).trans rfl
                                have hcz33_3 : wr.cell? ⟨gb150, 3, none⟩ = some (.int .i64 a0_3) := (blk_cell BK150.out 3).trans rfl
                                have hcz33_4 : wr.cell? ⟨gb150, 4, none⟩ = some (.int .i64 a0_4) := (blk_cell BK150.out 4).trans rfl
                                have hfz33_0 := blk_frozen BK150.out 0
                                have hfz33_1 := blk_frozen BK150.out 1
                                have hfz33_2 := blk_frozen BK150.out 2
                                have hfz33_3 := blk_frozen BK150.out 3
                                have hfz33_4 := blk_frozen BK150.out 4
                                have p160 : 0 ≤ ((rd t151 x56_2) : Int) := of_decide_eq_true (by first | (with_reducible assumption) | assumption)
                                have q160 : (rd t151 x56_2) < (l0_0.length : Int) := of_decide_eq_true (by first | (with_reducible assumption) | assumption)
                                obtain ⟨ad160, e160, hx160_0, hx160_1, hx160_2, hx160_3⟩ := at_T65 HR0_0.out (rd t151 x56_2) p160 q160
                                (try rw [← Nbq26.out] at hx160_3)
                                cases e160
                                replace hx160_0 := (HB.out.cell (World.block_lt_of_cell? w _ hx160_0)).trans hx160_0
                                replace hx160_1 := (HB.out.cell (World.block_lt_of_cell? w _ hx160_1)).trans hx160_1
                                replace hx160_2 := (HB.out.cell (World.block_lt_of_cell? w _ hx160_2)).trans hx160_2
                                replace hx160_3 := (HB.out.cell (World.block_lt_of_cell? w _ hx160_3)).trans hx160_3
                                replace p160 := eq_true p160
                                replace q160 := eq_true q160
                                go_wp2_with (first | ((with_reducible refine gate_dst (N := 11) rfl ?_); (try (refine gate_guard (by rfl) ?_; dsimp only)); refine box_event ?hg (N := 11) ?hd (cs := #[.int .i64 0, .int .i64 0, .int .i64 0, .bool false]) (t := 65) ?hr ?_; (case hd => rfl); (case hg => rfl); (case hr => first | (go_simp; done) | (go_simp; rfl)); intro gb161 hg w34 hbox hb; have n0_ := Aside0.mk (Kd.R_below (ro_ HO_5.out) hb); have n1_ := Aside0.mk (Kd.R_below (ro_ HO_8.out) hb); have n2_ := Aside0.mk (Kd.R_below (ro_ HO_54.out) hb); have n3_ := Aside0.mk (blk_below (g := gb150) (o := .cells #[.slice (some ad160) l0_0.length c0_0, .int .i64 a0_1, .int .i64 a0_2, .int .i64 a0_3, .int .i64 a0_4] 28 (0, 0)) (bl_ BK150.out) hb); have n4_ := Aside0.mk (below_step (be_ HB.out) hb); have n5_ := Aside0.mk (hbox); have n6_ := Aside0.mk ((by rw [hg]; exact (below_size (be_ HB.out)) : w.heap.size ≤ gb161)); have n7_ := Aside0.mk ((by rw [hg]; exact (below_size (be_ HB.out)) : w.heap.size ≤ gb161)); have n8_ := Aside0.mk ((by rw [hg]; exact Nat.ne_of_lt (blk_lt (g := gb150) (o := .cells #[.slice (some ad160) l0_0.length c0_0, .int .i64 a0_1, .int .i64 a0_2, .int .i64 a0_3, .int .i64 a0_4] 28 (0, 0)) (bl_ BK150.out)) : gb150 ≠ gb161)); have n9_ := Aside0.mk ((by rw [hg]; exact Nat.ne_of_gt (blk_lt (g := gb150) (o := .cells #[.slice (some ad160) l0_0.length c0_0, .int .i64 a0_1, .int .i64 a0_2, .int .i64 a0_3, .int .i64 a0_4] 28 (0, 0)) (bl_ BK150.out)) : gb161 ≠ gb150)); clear HO_5 HO_8 HO_54 BK150 HB; have HO_5 := n0_; have HO_8 := n1_; have HO_54 := n2_; have BK150 := n3_; have HB := n4_; have BK161 := n5_; have GW161 := n6_; have GE161 := n7_; have NB150_161 := n8_; have NB161_150 := n9_; clear n0_ n1_ n2_ n3_ n4_ n5_ n6_ n7_ n8_ n9_; clear hb hbox hg; have hnb35 := NB161_150.out; have hnc35 := NB150_161.out; obtain ⟨hcz36_0, hcz36_1, hcz36_2, hcz36_3, hfz36_0, hfz36_1, hfz36_2, hfz36_3⟩ := cz4_ BK161.out) | (go_at_call 55; (with_reducible refine (impl_isId.calls ((rd_T65 l0_0 (rd t151 x56_2)).f0) true _ A28.out).mono ?_); rintro e w' ⟨rfl, ⟨nd, rfl⟩⟩; obtain ⟨Ao37, co37, eo37⟩ := Kd.R_slice HO_8.out; subst eo37) | (go_at_call 58; (with_reducible refine (slices_Contains_int_int.calls k2 _ _ x8_2 ((rd_T65 l0_0 (rd t151 x56_2)).f0) true _ ?side1 ?side2 A31.out).mono ?_); (case side1 => refine (Kd.R_reads' (e := 3) (base := w.heap.size) (ok := fun k_ => (some k_ ≠ (v156 : Value).ownBlock ∧ some k_ ≠ (.slice (some ad159) t151.length co20 : Value).ownBlock)) (n := x8_2.length) (c := co37) ?_).2.2; exact (by (with_reducible repeat (first | apply Kd.R_alloc | apply Kd.R_drewN | apply Kd.R_drew)); exact (Kd.R_mono (Kd.R_far (p := ⟨gb161, 3, none⟩) (Kd.R_far (p := ⟨gb161, 2, none⟩) (Kd.R_far (p := ⟨gb161, 1, none⟩) (Kd.R_far (p := ⟨gb161, 0, none⟩) (Kd.R_types HO_8.out BK161.out (by decide)) (fun _ hk => hk.2) (.int .i64 ((rd_T65 l0_0 (rd t151 x56_2)).f0))) (fun _ hk => hk.2) (.int .i64 ((rd_T65 l0_0 (rd t151 x56_2)).f1))) (fun _ hk => hk.2) (.int .i64 ((rd_T65 l0_0 (rd t151 x56_2)).f2))) (fun _ hk => hk.2) (.bool true)) (fun _ h_ => h_.1)))); (case side2 => exact (Kd.R_reads' HO_8.out).2.1); rintro e w' ⟨rfl, ⟨nd, rfl⟩⟩))
                                go_ret
                                exact ⟨by first | rfl | (simp [errW_none, errW_some] <;> rfl) | (simp [*, errW_none, errW_some] <;> rfl), be_ HB.out⟩
                              · replace c32 := Bool.eq_false_iff.mpr c32
                                subst c32
                                have H1 : (if x8_2.length < 17592186044416 then (impl_QueueOk.l0 k2 t155 (rd t151 x56_2) (x8_2 ++ [(rd_T65 l0_0 (rd t151 x56_2)).f0]) t151 (t151.length : Int) (wrap64 (x56_2 + 1)) l0_0 a0_1 a0_2 a0_3 a0_4) else (none)) = some r := by rw [if_neg (show ¬ (false = true) by decide)] at H; exact H
                                clear H
                                have H := H1
                                clear H1
                                by_cases c38 : x8_2.length < 17592186044416
                                · rw [if_pos c38] at H
                                  have LMc38 := Aside0.mk c38
                                  clear c38
                                  obtain ⟨y164, hy164⟩ : ∃ y_ : List Int, y_ = (x8_2 ++ [(rd_T65 l0_0 (rd t151 x56_2)).f0]) := ⟨_, rfl⟩
                                  replace H : (impl_QueueOk.l0 k2 t155 (rd t151 x56_2) y164 t151 (t151.length : Int) (wrap64 (x56_2 + 1)) l0_0 a0_1 a0_2 a0_3 a0_4) = some r := by first | (rw [hy164]; with_reducible exact H) | (have H2_ := (Option.bind_some _ _).symm.trans H; rw [hy164]; with_reducible exact H2_) | (have H2_ := (Option.bind_some _ _).symm.trans H; with_reducible exact H2_) | with_reducible exact H | (rw [hy164]; exact H) | exact H
                                  have Ny164 := Aside0.mk hy164
                                  clear hy164
                                  have H' := Aside0.mk H
                                  clear H
                                  have p159 : 0 ≤ (x56_2 : Int) := of_decide_eq_true (by first | (with_reducible assumption) | assumption)
                                  have q159 : x56_2 < (t151.length : Int) := of_decide_eq_true (by first | (with_reducible assumption) | assumption)
                                  obtain ⟨ad159, e159, hx159_0⟩ := Kd.at_int (Kd.R_reads' HO_54.out).2.2 x56_2 p159 q159
                                  cases e159
                                  replace p159 := eq_true p159
                                  replace q159 := eq_true q159
                                  have hcz39_0 : wr.cell? ⟨gb150, 0, none⟩ = some (.slice A0_0 l0_0.length c0_0) := (blk_cell BK150.out 0).trans rfl
                                  have hcz39_1 : wr.cell? ⟨gb150, 1, none⟩ = some (.int .i64 a0_1) := (blk_cell BK150.out 1).trans rfl
                                  have hcz39_2 : wr.cell? ⟨gb150, 2, none⟩ = some (.int .i64 a0_2) := (blk_cell BK150.out 2).trans rfl
                                  have hcz39_3 : wr.cell? ⟨gb150, 3, none⟩ = some (.int .i64 a0_3) := (blk_cell BK150.out 3).trans rfl
                                  have hcz39_4 : wr.cell? ⟨gb150, 4, none⟩ = some (.int .i64 a0_4) := (blk_cell BK150.out 4).trans rfl
                                  have hfz39_0 := blk_frozen BK150.out 0
                                  have hfz39_1 := blk_frozen BK150.out 1
                                  have hfz39_2 := blk_frozen BK150.out 2
                                  have hfz39_3 := blk_frozen BK150.out 3
                                  have hfz39_4 := blk_frozen BK150.out 4
                                  have p160 : 0 ≤ ((rd t151 x56_2) : Int) := of_decide_eq_true (by first | (with_reducible assumption) | assumption)
                                  have q160 : (rd t151 x56_2) < (l0_0.length : Int) := of_decide_eq_true (by first | (with_reducible assumption) | assumption)
                                  obtain ⟨ad160, e160, hx160_0, hx160_1, hx160_2, hx160_3⟩ := at_T65 HR0_0.out (rd t151 x56_2) p160 q160
                                  (try rw [← Nbq26.out] at hx160_3)
                                  cases e160
                                  replace hx160_0 := (HB.out.cell (World.block_lt_of_cell? w _ hx160_0)).trans hx160_0
                                  replace hx160_1 := (HB.out.cell (World.block_lt_of_cell? w _ hx160_1)).trans hx160_1
                                  replace hx160_2 := (HB.out.cell (World.block_lt_of_cell? w _ hx160_2)).trans hx160_2
                                  replace hx160_3 := (HB.out.cell (World.block_lt_of_cell? w _ hx160_3)).trans hx160_3
                                  replace p160 := eq_true p160
                                  replace q160 := eq_true q160
                                  go_wp2_with (first | ((with_reducible refine gate_dst (N := 11) rfl ?_); (try (refine gate_guard (by rfl) ?_; dsimp only)); refine box_event ?hg (N := 11) ?hd (cs := #[.int .i64 0, .int .i64 0, .int .i64 0, .bool false]) (t := 65) ?hr ?_; (case hd => rfl); (case hg => rfl); (case hr => first | (go_simp; done) | (go_simp; rfl)); intro gb161 hg w40 hbox hb; have n0_ := Aside0.mk (Kd.R_below (ro_ HO_5.out) hb); have n1_ := Aside0.mk (Kd.R_below (ro_ HO_8.out) hb); have n2_ := Aside0.mk (Kd.R_below (ro_ HO_54.out) hb); have n3_ := Aside0.mk (blk_below (g := gb150) (o := .cells #[.slice (some ad160) l0_0.length c0_0, .int .i64 a0_1, .int .i64 a0_2, .int .i64 a0_3, .int .i64 a0_4] 28 (0, 0)) (bl_ BK150.out) hb); have n4_ := Aside0.mk (below_step (be_ HB.out) hb); have n5_ := Aside0.mk (hbox); have n6_ := Aside0.mk ((by rw [hg]; exact (below_size (be_ HB.out)) : w.heap.size ≤ gb161)); have n7_ := Aside0.mk ((by rw [hg]; exact (below_size (be_ HB.out)) : w.heap.size ≤ gb161)); have n8_ := Aside0.mk ((by rw [hg]; exact Nat.ne_of_lt (blk_lt (g := gb150) (o := .cells #[.slice (some ad160) l0_0.length c0_0, .int .i64 a0_1, .int .i64 a0_2, .int .i64 a0_3, .int .i64 a0_4] 28 (0, 0)) (bl_ BK150.out)) : gb150 ≠ gb161)); have n9_ := Aside0.mk ((by rw [hg]; exact Nat.ne_of_gt (blk_lt (g := gb150) (o := .cells #[.slice (some ad160) l0_0.length c0_0, .int .i64 a0_1, .int .i64 a0_2, .int .i64 a0_3, .int .i64 a0_4] 28 (0, 0)) (bl_ BK150.out)) : gb161 ≠ gb150)); clear HO_5 HO_8 HO_54 BK150 HB; have HO_5 := n0_; have HO_8 := n1_; have HO_54 := n2_; have BK150 := n3_; have HB := n4_; have BK161 := n5_; have GW161 := n6_; have GE161 := n7_; have NB150_161 := n8_; have NB161_150 := n9_; clear n0_ n1_ n2_ n3_ n4_ n5_ n6_ n7_ n8_ n9_; clear hb hbox hg; have hnb41 := NB161_150.out; have hnc41 := NB150_161.out; obtain ⟨hcz42_0, hcz42_1, hcz42_2, hcz42_3, hfz42_0, hfz42_1, hfz42_2, hfz42_3⟩ := cz4_ BK161.out) | (go_at_call 55; (with_reducible refine (impl_isId.calls ((rd_T65 l0_0 (rd t151 x56_2)).f0) true _ A28.out).mono ?_); rintro e w' ⟨rfl, ⟨nd, rfl⟩⟩; obtain ⟨Ao43, co43, eo43⟩ := Kd.R_slice HO_8.out; subst eo43) | (go_at_call 58; (with_reducible refine (slices_Contains_int_int.calls k2 _ _ x8_2 ((rd_T65 l0_0 (rd t151 x56_2)).f0) false _ ?side1 ?side2 A31.out).mono ?_); (case side1 => refine (Kd.R_reads' (e := 3) (base := w.heap.size) (ok := fun k_ => (some k_ ≠ (v156 : Value).ownBlock ∧ some k_ ≠ (.slice (some ad159) t151.length co20 : Value).ownBlock)) (n := x8_2.length) (c := co43) ?_).2.2; exact (by (with_reducible repeat (first | apply Kd.R_alloc | apply Kd.R_drewN | apply Kd.R_drew)); exact (Kd.R_mono (Kd.R_far (p := ⟨gb161, 3, none⟩) (Kd.R_far (p := ⟨gb161, 2, none⟩) (Kd.R_far (p := ⟨gb161, 1, none⟩) (Kd.R_far (p := ⟨gb161, 0, none⟩) (Kd.R_types HO_8.out BK161.out (by decide)) (fun _ hk => hk.2) (.int .i64 ((rd_T65 l0_0 (rd t151 x56_2)).f0))) (fun _ hk => hk.2) (.int .i64 ((rd_T65 l0_0 (rd t151 x56_2)).f1))) (fun _ hk => hk.2) (.int .i64 ((rd_T65 l0_0 (rd t151 x56_2)).f2))) (fun _ hk => hk.2) (.bool true)) (fun _ h_ => h_.1)))); (case side2 => exact (Kd.R_reads' HO_8.out).2.1); rintro e w' ⟨rfl, ⟨nd, rfl⟩⟩) | ((with_reducible refine gate_builtin (b := .append) (xs := #[.tmp 86, .tmp 89]) rfl ?_); (try (refine gate_guard (by rfl) ?_; dsimp only)); at_builtin; refine Kd.R_append (Kd.int .i64) (w0 := w) w.heap.size rfl (.tmp 86) (.tmp 89) 50 3 (.int .i64 0) 8 rfl Try.underlying50 info3 rfl (by decide) (by omega) (.slice Ao43 x8_2.length co43) x8_2 ((rd_T65 l0_0 (rd t151 x56_2)).f0) [.int .i64 ((rd_T65 l0_0 (rd t151 x56_2)).f0)] (fun k_ => some k_ ≠ (v156 : Value).ownBlock ∧ some k_ ≠ (.slice (some ad159) t151.length co20 : Value).ownBlock) (fun _ => False) rfl (by first | (go_simp; done) | (go_simp; rfl)) ?aP (fun _ hk => hk.elim) ?aF ?aO ?aB ?aS ?aL ?_; (case aP => exact rfl); (case aB => exact (be_ HB.out)); (case aF => exact (fun k_ hk => ⟨Kd.fresh' (Kd.R_lt (by (with_reducible repeat (first | apply Kd.R_alloc | apply Kd.R_drewN | apply Kd.R_drew)); exact (Kd.R_mono (Kd.R_far (p := ⟨gb161, 3, none⟩) (Kd.R_far (p := ⟨gb161, 2, none⟩) (Kd.R_far (p := ⟨gb161, 1, none⟩) (Kd.R_far (p := ⟨gb161, 0, none⟩) (Kd.R_types HO_5.out BK161.out (by decide)) (fun _ hk => hk.2) (.int .i64 ((rd_T65 l0_0 (rd t151 x56_2)).f0))) (fun _ hk => hk.2) (.int .i64 ((rd_T65 l0_0 (rd t151 x56_2)).f1))) (fun _ hk => hk.2) (.int .i64 ((rd_T65 l0_0 (rd t151 x56_2)).f2))) (fun _ hk => hk.2) (.bool true)) (fun _ h_ => h_.1)))) k_ hk, Kd.fresh' (Kd.R_lt (by (with_reducible repeat (first | apply Kd.R_alloc | apply Kd.R_drewN | apply Kd.R_drew)); exact (Kd.R_mono (Kd.R_far (p := ⟨gb161, 3, none⟩) (Kd.R_far (p := ⟨gb161, 2, none⟩) (Kd.R_far (p := ⟨gb161, 1, none⟩) (Kd.R_far (p := ⟨gb161, 0, none⟩) (Kd.R_types HO_54.out BK161.out (by decide)) (fun _ hk => hk.2) (.int .i64 ((rd_T65 l0_0 (rd t151 x56_2)).f0))) (fun _ hk => hk.2) (.int .i64 ((rd_T65 l0_0 (rd t151 x56_2)).f1))) (fun _ hk => hk.2) (.int .i64 ((rd_T65 l0_0 (rd t151 x56_2)).f2))) (fun _ hk => hk.2) (.bool true)) (fun _ h_ => h_.1)))) k_ hk⟩)); (case aO => exact (by (with_reducible repeat (first | apply Kd.R_alloc | apply Kd.R_drewN | apply Kd.R_drew)); exact Kd.R_mono (Kd.R_far (p := ⟨gb161, 3, none⟩) (Kd.R_far (p := ⟨gb161, 2, none⟩) (Kd.R_far (p := ⟨gb161, 1, none⟩) (Kd.R_far (p := ⟨gb161, 0, none⟩) (Kd.R_types HO_8.out BK161.out (by decide)) (fun _ hk => hk.2) (.int .i64 ((rd_T65 l0_0 (rd t151 x56_2)).f0))) (fun _ hk => hk.2) (.int .i64 ((rd_T65 l0_0 (rd t151 x56_2)).f1))) (fun _ hk => hk.2) (.int .i64 ((rd_T65 l0_0 (rd t151 x56_2)).f2))) (fun _ hk => hk.2) (.bool true)) (fun _ hk => ⟨hk.1.1, hk.1.2⟩))); (case aS => exact (below_size (be_ HB.out))); (case aL => have := LMc38.out; omega); intro v165 w44 ho hb hg hat; rw [← Ny164.out] at ho; have n0_ := Aside0.mk (Kd.R_after (ok := (fun k_ => some k_ ≠ (.slice (some ad159) t151.length co20 : Value).ownBlock)) (by (with_reducible repeat (first | apply Kd.R_alloc | apply Kd.R_drewN | apply Kd.R_drew)); exact Kd.R_mono (Kd.R_far (p := ⟨gb161, 3, none⟩) (Kd.R_far (p := ⟨gb161, 2, none⟩) (Kd.R_far (p := ⟨gb161, 1, none⟩) (Kd.R_far (p := ⟨gb161, 0, none⟩) (Kd.R_types HO_5.out BK161.out (by decide)) (fun _ hk => hk.2) (.int .i64 ((rd_T65 l0_0 (rd t151 x56_2)).f0))) (fun _ hk => hk.2) (.int .i64 ((rd_T65 l0_0 (rd t151 x56_2)).f1))) (fun _ hk => hk.2) (.int .i64 ((rd_T65 l0_0 (rd t151 x56_2)).f2))) (fun _ hk => hk.2) (.bool true)) (fun _ hk => ⟨hk.1.2, hk.1.1⟩)) hg hat); have n1_ := Aside0.mk (Kd.R_after (ok := (fun k_ => some k_ ≠ (v156 : Value).ownBlock)) (by (with_reducible repeat (first | apply Kd.R_alloc | apply Kd.R_drewN | apply Kd.R_drew)); exact Kd.R_mono (Kd.R_far (p := ⟨gb161, 3, none⟩) (Kd.R_far (p := ⟨gb161, 2, none⟩) (Kd.R_far (p := ⟨gb161, 1, none⟩) (Kd.R_far (p := ⟨gb161, 0, none⟩) (Kd.R_types HO_54.out BK161.out (by decide)) (fun _ hk => hk.2) (.int .i64 ((rd_T65 l0_0 (rd t151 x56_2)).f0))) (fun _ hk => hk.2) (.int .i64 ((rd_T65 l0_0 (rd t151 x56_2)).f1))) (fun _ hk => hk.2) (.int .i64 ((rd_T65 l0_0 (rd t151 x56_2)).f2))) (fun _ hk => hk.2) (.bool true)) (fun _ hk => ⟨hk.1.1, hk.1.2⟩)) hg hat); have n2_ := Aside0.mk (blk_grown (g := gb150) (o := .cells #[.slice (some ad160) l0_0.length c0_0, .int .i64 a0_1, .int .i64 a0_2, .int .i64 a0_3, .int .i64 a0_4] 28 (0, 0)) (by refine bl_ ?_; refine blk_far ?_ NB150_161.out _; refine bl_ ?_; refine blk_far ?_ NB150_161.out _; refine bl_ ?_; refine blk_far ?_ NB150_161.out _; refine bl_ ?_; refine blk_far ?_ NB150_161.out _; refine bl_ ?_; exact BK150.out) hg (Kd.R_ne HO_8.out BK150.out (by decide))); have n3_ := Aside0.mk (blk_grown (g := gb161) (o := .cells #[.int .i64 ((rd_T65 l0_0 (rd t151 x56_2)).f0), .int .i64 ((rd_T65 l0_0 (rd t151 x56_2)).f1), .int .i64 ((rd_T65 l0_0 (rd t151 x56_2)).f2), .bool true] 65 (0, 0)) (by refine bl_ ?_; refine blk_put (cs := #[.int .i64 ((rd_T65 l0_0 (rd t151 x56_2)).f0), .int .i64 ((rd_T65 l0_0 (rd t151 x56_2)).f1), .int .i64 ((rd_T65 l0_0 (rd t151 x56_2)).f2), .bool false]) ?_ 3 _ rfl; refine bl_ ?_; refine blk_put (cs := #[.int .i64 ((rd_T65 l0_0 (rd t151 x56_2)).f0), .int .i64 ((rd_T65 l0_0 (rd t151 x56_2)).f1), .int .i64 0, .bool false]) ?_ 2 _ rfl; refine bl_ ?_; refine blk_put (cs := #[.int .i64 ((rd_T65 l0_0 (rd t151 x56_2)).f0), .int .i64 0, .int .i64 0, .bool false]) ?_ 1 _ rfl; refine bl_ ?_; refine blk_put (cs := #[.int .i64 0, .int .i64 0, .int .i64 0, .bool false]) ?_ 0 _ rfl; refine bl_ ?_; exact BK161.out) hg (Kd.R_ne HO_8.out BK161.out (by decide))); have n4_ := Aside0.mk (hb); have n5_ := Aside0.mk (ho); clear HO_5 HO_54 BK150 BK161 HB HO_8; have HO_5 := n0_; have HO_54 := n1_; have BK150 := n2_; have BK161 := n3_; have HB := n4_; have HO166 := n5_; clear n0_ n1_ n2_ n3_ n4_ n5_; clear ho hb hg hat))
                                  go_roundg k2
                                  case measure => have := HJ4.out; have := HK2.out; omega
                                  case rel => exact ⟨(rd t151 x56_2), (y164), (wrap64 (x56_2 + 1)), (by first | rfl | (simp; done) | (simp [*]; done)), (by first | rfl | (simp; done) | (simp [*]; done)), H', ⟨by have := HJ4.out; have := HK2.out; omega⟩, ⟨by (with_reducible repeat (first | apply Kd.R_alloc | apply Kd.R_drewN | apply Kd.R_drew)); exact Kd.R_mono HO_5.out (fun _ hk => ⟨hk.2, hk.1⟩)⟩, ⟨by (with_reducible repeat (first | apply Kd.R_alloc | apply Kd.R_drewN | apply Kd.R_drew)); exact HO166.out⟩, ⟨by (with_reducible repeat (first | apply Kd.R_alloc | apply Kd.R_drewN | apply Kd.R_drew)); exact HO_54.out⟩, ⟨by refine bl_ ?_; exact BK150.out⟩, ⟨be_ HB.out⟩⟩
                                · rw [if_neg c38] at H
                                  exact absurd H (by simp)
                            · rw [if_neg c30] at H
                              have c30b0 : (((rd_T65 l0_0 (rd t151 x56_2)).f1) == x7_2) = false := beq_eq_false_iff_ne.mpr c30
                              have c30b1 : (((rd_T65 l0_0 (rd t151 x56_2)).f1) != x7_2) = true := bne_iff_ne.mpr c30
                              obtain rfl := Option.some.inj H
                              have p159 : 0 ≤ (x56_2 : Int) := of_decide_eq_true (by first | (with_reducible assumption) | assumption)
                              have q159 : x56_2 < (t151.length : Int) := of_decide_eq_true (by first | (with_reducible assumption) | assumption)
                              obtain ⟨ad159, e159, hx159_0⟩ := Kd.at_int (Kd.R_reads' HO_54.out).2.2 x56_2 p159 q159
                              cases e159
                              replace p159 := eq_true p159
                              replace q159 := eq_true q159
                              have hcz45_0 : wr.cell? ⟨gb150, 0, none⟩ = some (.slice A0_0 l0_0.length c0_0) := (blk_cell BK150.out 0).trans rfl
                              have hcz45_1 : wr.cell? ⟨gb150, 1, none⟩ = some (.int .i64 a0_1) := (blk_cell BK150.out 1).trans rfl
                              have hcz45_2 : wr.cell? ⟨gb150, 2, none⟩ = some (.int .i64 a0_2) := (blk_cell BK150.out 2).trans rfl
                              have hcz45_3 : wr.cell? ⟨gb150, 3, none⟩ = some (.int .i64 a0_3) := (blk_cell BK150.out 3).trans rfl
                              have hcz45_4 : wr.cell? ⟨gb150, 4, none⟩ = some (.int .i64 a0_4) := (blk_cell BK150.out 4).trans rfl
                              have hfz45_0 := blk_frozen BK150.out 0
                              have hfz45_1 := blk_frozen BK150.out 1
                              have hfz45_2 := blk_frozen BK150.out 2
                              have hfz45_3 := blk_frozen BK150.out 3
                              have hfz45_4 := blk_frozen BK150.out 4
                              have p160 : 0 ≤ ((rd t151 x56_2) : Int) := of_decide_eq_true (by first | (with_reducible assumption) | assumption)
                              have q160 : (rd t151 x56_2) < (l0_0.length : Int) := of_decide_eq_true (by first | (with_reducible assumption) | assumption)
                              obtain ⟨ad160, e160, hx160_0, hx160_1, hx160_2, hx160_3⟩ := at_T65 HR0_0.out (rd t151 x56_2) p160 q160
                              (try rw [← Nbq26.out] at hx160_3)
                              cases e160
                              replace hx160_0 := (HB.out.cell (World.block_lt_of_cell? w _ hx160_0)).trans hx160_0
                              replace hx160_1 := (HB.out.cell (World.block_lt_of_cell? w _ hx160_1)).trans hx160_1
                              replace hx160_2 := (HB.out.cell (World.block_lt_of_cell? w _ hx160_2)).trans hx160_2
                              replace hx160_3 := (HB.out.cell (World.block_lt_of_cell? w _ hx160_3)).trans hx160_3
                              replace p160 := eq_true p160
                              replace q160 := eq_true q160
                              go_wp2_with (first | ((with_reducible refine gate_dst (N := 11) rfl ?_); (try (refine gate_guard (by rfl) ?_; dsimp only)); refine box_event ?hg (N := 11) ?hd (cs := #[.int .i64 0, .int .i64 0, .int .i64 0, .bool false]) (t := 65) ?hr ?_; (case hd => rfl); (case hg => rfl); (case hr => first | (go_simp; done) | (go_simp; rfl)); intro gb161 hg w46 hbox hb; have n0_ := Aside0.mk (Kd.R_below (ro_ HO_5.out) hb); have n1_ := Aside0.mk (Kd.R_below (ro_ HO_8.out) hb); have n2_ := Aside0.mk (Kd.R_below (ro_ HO_54.out) hb); have n3_ := Aside0.mk (blk_below (g := gb150) (o := .cells #[.slice (some ad160) l0_0.length c0_0, .int .i64 a0_1, .int .i64 a0_2, .int .i64 a0_3, .int .i64 a0_4] 28 (0, 0)) (bl_ BK150.out) hb); have n4_ := Aside0.mk (below_step (be_ HB.out) hb); have n5_ := Aside0.mk (hbox); have n6_ := Aside0.mk ((by rw [hg]; exact (below_size (be_ HB.out)) : w.heap.size ≤ gb161)); have n7_ := Aside0.mk ((by rw [hg]; exact (below_size (be_ HB.out)) : w.heap.size ≤ gb161)); have n8_ := Aside0.mk ((by rw [hg]; exact Nat.ne_of_lt (blk_lt (g := gb150) (o := .cells #[.slice (some ad160) l0_0.length c0_0, .int .i64 a0_1, .int .i64 a0_2, .int .i64 a0_3, .int .i64 a0_4] 28 (0, 0)) (bl_ BK150.out)) : gb150 ≠ gb161)); have n9_ := Aside0.mk ((by rw [hg]; exact Nat.ne_of_gt (blk_lt (g := gb150) (o := .cells #[.slice (some ad160) l0_0.length c0_0, .int .i64 a0_1, .int .i64 a0_2, .int .i64 a0_3, .int .i64 a0_4] 28 (0, 0)) (bl_ BK150.out)) : gb161 ≠ gb150)); clear HO_5 HO_8 HO_54 BK150 HB; have HO_5 := n0_; have HO_8 := n1_; have HO_54 := n2_; have BK150 := n3_; have HB := n4_; have BK161 := n5_; have GW161 := n6_; have GE161 := n7_; have NB150_161 := n8_; have NB161_150 := n9_; clear n0_ n1_ n2_ n3_ n4_ n5_ n6_ n7_ n8_ n9_; clear hb hbox hg; have hnb47 := NB161_150.out; have hnc47 := NB150_161.out; obtain ⟨hcz48_0, hcz48_1, hcz48_2, hcz48_3, hfz48_0, hfz48_1, hfz48_2, hfz48_3⟩ := cz4_ BK161.out) | (go_at_call 55; (with_reducible refine (impl_isId.calls ((rd_T65 l0_0 (rd t151 x56_2)).f0) true _ A28.out).mono ?_); rintro e w' ⟨rfl, ⟨nd, rfl⟩⟩))
                              go_ret
                              exact ⟨by first | rfl | (simp [errW_none, errW_some] <;> rfl) | (simp [*, errW_none, errW_some] <;> rfl), be_ HB.out⟩
                          · replace c29 := Bool.eq_false_iff.mpr c29
                            subst c29
                            have H1 : (some false) = some r := by rw [if_neg (show ¬ (false = true) by decide)] at H; exact H
                            clear H
                            have H := H1
                            clear H1
                            obtain rfl := Option.some.inj H
                            have p159 : 0 ≤ (x56_2 : Int) := of_decide_eq_true (by first | (with_reducible assumption) | assumption)
                            have q159 : x56_2 < (t151.length : Int) := of_decide_eq_true (by first | (with_reducible assumption) | assumption)
                            obtain ⟨ad159, e159, hx159_0⟩ := Kd.at_int (Kd.R_reads' HO_54.out).2.2 x56_2 p159 q159
                            cases e159
                            replace p159 := eq_true p159
                            replace q159 := eq_true q159
                            have hcz49_0 : wr.cell? ⟨gb150, 0, none⟩ = some (.slice A0_0 l0_0.length c0_0) := (blk_cell BK150.out 0).trans rfl
                            have hcz49_1 : wr.cell? ⟨gb150, 1, none⟩ = some (.int .i64 a0_1) := (blk_cell BK150.out 1).trans rfl
                            have hcz49_2 : wr.cell? ⟨gb150, 2, none⟩ = some (.int .i64 a0_2) := (blk_cell BK150.out 2).trans rfl
                            have hcz49_3 : wr.cell? ⟨gb150, 3, none⟩ = some (.int .i64 a0_3) := (blk_cell BK150.out 3).trans rfl
                            have hcz49_4 : wr.cell? ⟨gb150, 4, none⟩ = some (.int .i64 a0_4) := (blk_cell BK150.out 4).trans rfl
                            have hfz49_0 := blk_frozen BK150.out 0
                            have hfz49_1 := blk_frozen BK150.out 1
                            have hfz49_2 := blk_frozen BK150.out 2
                            have hfz49_3 := blk_frozen BK150.out 3
                            have hfz49_4 := blk_frozen BK150.out 4
                            have p160 : 0 ≤ ((rd t151 x56_2) : Int) := of_decide_eq_true (by first | (with_reducible assumption) | assumption)
                            have q160 : (rd t151 x56_2) < (l0_0.length : Int) := of_decide_eq_true (by first | (with_reducible assumption) | assumption)
                            obtain ⟨ad160, e160, hx160_0, hx160_1, hx160_2, hx160_3⟩ := at_T65 HR0_0.out (rd t151 x56_2) p160 q160
                            (try rw [← Nbq26.out] at hx160_3)
                            cases e160
                            replace hx160_0 := (HB.out.cell (World.block_lt_of_cell? w _ hx160_0)).trans hx160_0
                            replace hx160_1 := (HB.out.cell (World.block_lt_of_cell? w _ hx160_1)).trans hx160_1
                            replace hx160_2 := (HB.out.cell (World.block_lt_of_cell? w _ hx160_2)).trans hx160_2
                            replace hx160_3 := (HB.out.cell (World.block_lt_of_cell? w _ hx160_3)).trans hx160_3
                            replace p160 := eq_true p160
                            replace q160 := eq_true q160
                            go_wp2_with (first | ((with_reducible refine gate_dst (N := 11) rfl ?_); (try (refine gate_guard (by rfl) ?_; dsimp only)); refine box_event ?hg (N := 11) ?hd (cs := #[.int .i64 0, .int .i64 0, .int .i64 0, .bool false]) (t := 65) ?hr ?_; (case hd => rfl); (case hg => rfl); (case hr => first | (go_simp; done) | (go_simp; rfl)); intro gb161 hg w50 hbox hb; have n0_ := Aside0.mk (Kd.R_below (ro_ HO_5.out) hb); have n1_ := Aside0.mk (Kd.R_below (ro_ HO_8.out) hb); have n2_ := Aside0.mk (Kd.R_below (ro_ HO_54.out) hb); have n3_ := Aside0.mk (blk_below (g := gb150) (o := .cells #[.slice (some ad160) l0_0.length c0_0, .int .i64 a0_1, .int .i64 a0_2, .int .i64 a0_3, .int .i64 a0_4] 28 (0, 0)) (bl_ BK150.out) hb); have n4_ := Aside0.mk (below_step (be_ HB.out) hb); have n5_ := Aside0.mk (hbox); have n6_ := Aside0.mk ((by rw [hg]; exact (below_size (be_ HB.out)) : w.heap.size ≤ gb161)); have n7_ := Aside0.mk ((by rw [hg]; exact (below_size (be_ HB.out)) : w.heap.size ≤ gb161)); have n8_ := Aside0.mk ((by rw [hg]; exact Nat.ne_of_lt (blk_lt (g := gb150) (o := .cells #[.slice (some ad160) l0_0.length c0_0, .int .i64 a0_1, .int .i64 a0_2, .int .i64 a0_3, .int .i64 a0_4] 28 (0, 0)) (bl_ BK150.out)) : gb150 ≠ gb161)); have n9_ := Aside0.mk ((by rw [hg]; exact Nat.ne_of_gt (blk_lt (g := gb150) (o := .cells #[.slice (some ad160) l0_0.length c0_0, .int .i64 a0_1, .int .i64 a0_2, .int .i64 a0_3, .int .i64 a0_4] 28 (0, 0)) (bl_ BK150.out)) : gb161 ≠ gb150)); clear HO_5 HO_8 HO_54 BK150 HB; have HO_5 := n0_; have HO_8 := n1_; have HO_54 := n2_; have BK150 := n3_; have HB := n4_; have BK161 := n5_; have GW161 := n6_; have GE161 := n7_; have NB150_161 := n8_; have NB161_150 := n9_; clear n0_ n1_ n2_ n3_ n4_ n5_ n6_ n7_ n8_ n9_; clear hb hbox hg; have hnb51 := NB161_150.out; have hnc51 := NB150_161.out; obtain ⟨hcz52_0, hcz52_1, hcz52_2, hcz52_3, hfz52_0, hfz52_1, hfz52_2, hfz52_3⟩ := cz4_ BK161.out) | (go_at_call 55; (with_reducible refine (impl_isId.calls ((rd_T65 l0_0 (rd t151 x56_2)).f0) false _ A28.out).mono ?_); rintro e w' ⟨rfl, ⟨nd, rfl⟩⟩))
                            go_ret
                            exact ⟨by first | rfl | (simp [errW_none, errW_some] <;> rfl) | (simp [*, errW_none, errW_some] <;> rfl), be_ HB.out⟩
                        · replace c27 := Bool.eq_false_iff.mpr c27
                          subst c27
                          have H1 : (some false) = some r := by rw [if_neg (show ¬ (false = true) by decide)] at H; exact H
                          clear H
                          have H := H1
                          clear H1
                          obtain rfl := Option.some.inj H
                          have p159 : 0 ≤ (x56_2 : Int) := of_decide_eq_true (by first | (with_reducible assumption) | assumption)
                          have q159 : x56_2 < (t151.length : Int) := of_decide_eq_true (by first | (with_reducible assumption) | assumption)
                          obtain ⟨ad159, e159, hx159_0⟩ := Kd.at_int (Kd.R_reads' HO_54.out).2.2 x56_2 p159 q159
                          cases e159
                          replace p159 := eq_true p159
                          replace q159 := eq_true q159
                          have hcz53_0 : wr.cell? ⟨gb150, 0, none⟩ = some (.slice A0_0 l0_0.length c0_0) := (blk_cell BK150.out 0).trans rfl
                          have hcz53_1 : wr.cell? ⟨gb150, 1, none⟩ = some (.int .i64 a0_1) := (blk_cell BK150.out 1).trans rfl
                          have hcz53_2 : wr.cell? ⟨gb150, 2, none⟩ = some (.int .i64 a0_2) := (blk_cell BK150.out 2).trans rfl
                          have hcz53_3 : wr.cell? ⟨gb150, 3, none⟩ = some (.int .i64 a0_3) := (blk_cell BK150.out 3).trans rfl
                          have hcz53_4 : wr.cell? ⟨gb150, 4, none⟩ = some (.int .i64 a0_4) := (blk_cell BK150.out 4).trans rfl
                          have hfz53_0 := blk_frozen BK150.out 0
                          have hfz53_1 := blk_frozen BK150.out 1
                          have hfz53_2 := blk_frozen BK150.out 2
                          have hfz53_3 := blk_frozen BK150.out 3
                          have hfz53_4 := blk_frozen BK150.out 4
                          have p160 : 0 ≤ ((rd t151 x56_2) : Int) := of_decide_eq_true (by first | (with_reducible assumption) | assumption)
                          have q160 : (rd t151 x56_2) < (l0_0.length : Int) := of_decide_eq_true (by first | (with_reducible assumption) | assumption)
                          obtain ⟨ad160, e160, hx160_0, hx160_1, hx160_2, hx160_3⟩ := at_T65 HR0_0.out (rd t151 x56_2) p160 q160
                          (try rw [← Nbq26.out] at hx160_3)
                          cases e160
                          replace hx160_0 := (HB.out.cell (World.block_lt_of_cell? w _ hx160_0)).trans hx160_0
                          replace hx160_1 := (HB.out.cell (World.block_lt_of_cell? w _ hx160_1)).trans hx160_1
                          replace hx160_2 := (HB.out.cell (World.block_lt_of_cell? w _ hx160_2)).trans hx160_2
                          replace hx160_3 := (HB.out.cell (World.block_lt_of_cell? w _ hx160_3)).trans hx160_3
                          replace p160 := eq_true p160
                          replace q160 := eq_true q160
                          go_wp2_with (first | ((with_reducible refine gate_dst (N := 11) rfl ?_); (try (refine gate_guard (by rfl) ?_; dsimp only)); refine box_event ?hg (N := 11) ?hd (cs := #[.int .i64 0, .int .i64 0, .int .i64 0, .bool false]) (t := 65) ?hr ?_; (case hd => rfl); (case hg => rfl); (case hr => first | (go_simp; done) | (go_simp; rfl)); intro gb161 hg w54 hbox hb; have n0_ := Aside0.mk (Kd.R_below (ro_ HO_5.out) hb); have n1_ := Aside0.mk (Kd.R_below (ro_ HO_8.out) hb); have n2_ := Aside0.mk (Kd.R_below (ro_ HO_54.out) hb); have n3_ := Aside0.mk (blk_below (g := gb150) (o := .cells #[.slice (some ad160) l0_0.length c0_0, .int .i64 a0_1, .int .i64 a0_2, .int .i64 a0_3, .int .i64 a0_4] 28 (0, 0)) (bl_ BK150.out) hb); have n4_ := Aside0.mk (below_step (be_ HB.out) hb); have n5_ := Aside0.mk (hbox); have n6_ := Aside0.mk ((by rw [hg]; exact (below_size (be_ HB.out)) : w.heap.size ≤ gb161)); have n7_ := Aside0.mk ((by rw [hg]; exact (below_size (be_ HB.out)) : w.heap.size ≤ gb161)); have n8_ := Aside0.mk ((by rw [hg]; exact Nat.ne_of_lt (blk_lt (g := gb150) (o := .cells #[.slice (some ad160) l0_0.length c0_0, .int .i64 a0_1, .int .i64 a0_2, .int .i64 a0_3, .int .i64 a0_4] 28 (0, 0)) (bl_ BK150.out)) : gb150 ≠ gb161)); have n9_ := Aside0.mk ((by rw [hg]; exact Nat.ne_of_gt (blk_lt (g := gb150) (o := .cells #[.slice (some ad160) l0_0.length c0_0, .int .i64 a0_1, .int .i64 a0_2, .int .i64 a0_3, .int .i64 a0_4] 28 (0, 0)) (bl_ BK150.out)) : gb161 ≠ gb150)); clear HO_5 HO_8 HO_54 BK150 HB; have HO_5 := n0_; have HO_8 := n1_; have HO_54 := n2_; have BK150 := n3_; have HB := n4_; have BK161 := n5_; have GW161 := n6_; have GE161 := n7_; have NB150_161 := n8_; have NB161_150 := n9_; clear n0_ n1_ n2_ n3_ n4_ n5_ n6_ n7_ n8_ n9_; clear hb hbox hg; have hnb55 := NB161_150.out; have hnc55 := NB150_161.out; obtain ⟨hcz56_0, hcz56_1, hcz56_2, hcz56_3, hfz56_0, hfz56_1, hfz56_2, hfz56_3⟩ := cz4_ BK161.out))
                          go_ret
                          exact ⟨by first | rfl | (simp [errW_none, errW_some] <;> rfl) | (simp [*, errW_none, errW_some] <;> rfl), be_ HB.out⟩
                      · rw [if_neg c25] at H
                        exact absurd H (by simp)
                    · rw [if_neg c24] at H
                      exact absurd H (by simp)
                  · rw [if_neg c23] at H
                    exact absurd H (by simp)
                · rw [if_neg c22] at H
                  exact absurd H (by simp)
              · rw [if_neg c21] at H
                have c21b0 : decide (x56_2 < (t151.length : Int)) = false := decide_eq_false c21
                clear c21
                have H' := Aside0.mk H
                clear H
                obtain ⟨Ao57, co57, eo57⟩ := Kd.R_slice HO_5.out
                subst eo57
                go_wp2
                go_loopg [95] k2 (fun kq v95 w' => ∃ (x95_3 : Int), v95 = .int .i64 x95_3 ∧ Aside0 (impl_QueueOk.l1 kq x7_2 t155 (t155.length : Int) x95_3 l0_0 a0_1 a0_2 a0_3 a0_4 = some r) ∧ Aside0 (kq ≤ k2) ∧ Aside0 (Kd.R (Kd.int .i64) 3 w' w.heap.size (fun _ => True) (.slice Ao57 t155.length co57) t155) ∧ Aside0 (w'.heap[gb150]? = some (.cells #[(.slice A0_0 l0_0.length c0_0), .int .i64 a0_1, .int .i64 a0_2, .int .i64 a0_3, .int .i64 a0_4] 28 (0, 0))) ∧ Aside0 (Below w.heap.size w w'))
                case atStart => exact ⟨(0), (by first | rfl | (simp; done) | (simp [*]; done)), H', ⟨Nat.le_refl _⟩, ⟨by (with_reducible repeat (first | apply Kd.R_alloc | apply Kd.R_drewN | apply Kd.R_drew)); exact Kd.R_mono HO_5.out (fun _ hk => trivial)⟩, ⟨by refine bl_ ?_; exact BK150.out⟩, ⟨be_ HB.out⟩⟩
                case round =>
                  clear H'
                  try clear c1
                  try clear p1
                  try clear q1
                  try clear hx1
                  try clear c2
                  try clear c2b0
                  try clear c2b1
                  try clear p2
                  try clear q2
                  try clear c3
                  try clear c4
                  try clear c5
                  try clear p6
                  try clear c11
                  try clear c12
                  try clear c13
                  try clear c13b0
                  try clear c13b1
                  try clear p15
                  try clear q15
                  try clear hx15
                  try clear p16
                  try clear q16
                  try clear hx16
                  try clear c19
                  try clear c21
                  try clear c21b0
                  try clear c22
                  try clear c22b0
                  try clear c23
                  try clear c23b0
                  try clear c24
                  try clear c24b0
                  try clear c25
                  try clear c25b0
                  try clear q26
                  try clear c27
                  try clear c29
                  try clear c30
                  try clear c30b0
                  try clear c30b1
                  try clear c32
                  try clear c35
                  try clear c38
                  try clear c41
                  try clear c47
                  try clear c51
                  try clear c55
                  try clear c57
                  try clear hcz15_0
                  try clear hcz15_1
                  try clear hcz15_2
                  try clear hcz15_3
                  try clear hcz15_4
                  try clear hcz18_0
                  try clear hcz18_1
                  try clear hcz18_2
                  try clear hcz18_3
                  try clear hcz18_4
                  try clear hcz33_0
                  try clear hcz33_1
                  try clear hcz33_2
                  try clear hcz33_3
                  try clear hcz33_4
                  try clear hcz36_0
                  try clear hcz36_1
                  try clear hcz36_2
                  try clear hcz36_3
                  try clear hcz39_0
                  try clear hcz39_1
                  try clear hcz39_2
                  try clear hcz39_3
                  try clear hcz39_4
                  try clear hcz42_0
                  try clear hcz42_1
                  try clear hcz42_2
                  try clear hcz42_3
                  try clear hcz45_0
                  try clear hcz45_1
                  try clear hcz45_2
                  try clear hcz45_3
                  try clear hcz45_4
                  try clear hcz48_0
                  try clear hcz48_1
                  try clear hcz48_2
                  try clear hcz48_3
                  try clear hcz49_0
                  try clear hcz49_1
                  try clear hcz49_2
                  try clear hcz49_3
                  try clear hcz49_4
                  try clear hcz52_0
                  try clear hcz52_1
                  try clear hcz52_2
                  try clear hcz52_3
                  try clear hcz53_0
                  try clear hcz53_1
                  try clear hcz53_2
                  try clear hcz53_3
                  try clear hcz53_4
                  try clear hcz56_0
                  try clear hcz56_1
                  try clear hcz56_2
                  try clear hcz56_3
                  try clear hcz7_0
                  try clear hcz7_1
                  try clear hcz7_2
                  try clear hcz7_3
                  try clear hcz7_4
                  try clear hcz9_0
                  try clear hcz9_1
                  try clear hcz9_2
                  try clear hcz9_3
                  try clear hcz9_4
                  try clear hfz15_0
                  try clear hfz15_1
                  try clear hfz15_2
                  try clear hfz15_3
                  try clear hfz15_4
                  try clear hfz18_0
                  try clear hfz18_1
                  try clear hfz18_2
                  try clear hfz18_3
                  try clear hfz18_4
                  try clear hfz33_0
                  try clear hfz33_1
                  try clear hfz33_2
                  try clear hfz33_3
                  try clear hfz33_4
                  try clear hfz36_0
                  try clear hfz36_1
                  try clear hfz36_2
                  try clear hfz36_3
                  try clear hfz39_0
                  try clear hfz39_1
                  try clear hfz39_2
                  try clear hfz39_3
                  try clear hfz39_4
                  try clear hfz42_0
                  try clear hfz42_1
                  try clear hfz42_2
                  try clear hfz42_3
                  try clear hfz45_0
                  try clear hfz45_1
                  try clear hfz45_2
                  try clear hfz45_3
                  try clear hfz45_4
                  try clear hfz48_0
                  try clear hfz48_1
                  try clear hfz48_2
                  try clear hfz48_3
                  try clear hfz49_0
                  try clear hfz49_1
                  try clear hfz49_2
                  try clear hfz49_3
                  try clear hfz49_4
                  try clear hfz52_0
                  try clear hfz52_1
                  try clear hfz52_2
                  try clear hfz52_3
                  try clear hfz53_0
                  try clear hfz53_1
                  try clear hfz53_2
                  try clear hfz53_3
                  try clear hfz53_4
                  try clear hfz56_0
                  try clear hfz56_1
                  try clear hfz56_2
                  try clear hfz56_3
                  try clear hfz7_0
                  try clear hfz7_1
                  try clear hfz7_2
                  try clear hfz7_3
                  try clear hfz7_4
                  try clear hfz9_0
                  try clear hfz9_1
                  try clear hfz9_2
                  try clear hfz9_3
                  try clear hfz9_4
                  try clear hx159_0
                  try clear hx160_0
                  try clear hx160_1
                  try clear hx160_2
                  try clear hx160_3
                  try clear p159
                  try clear p160
                  try clear p2
                  try clear p6
                  try clear q159
                  try clear q160
                  obtain ⟨x95_3, rfl, HA, HK3, HO_93, BK150, HB⟩ := hrel
                  cases gk with
                  | zero => exact absurd HA.out (by simp [impl_QueueOk.l1])
                  | succ k3 =>
                    have H := HA.out
                    clear HA
                    simp only [impl_QueueOk.l1] at H
                    by_cases c58 : x95_3 < (t155.length : Int)
                    · rw [if_pos c58] at H
                      have c58b0 : decide (x95_3 < (t155.length : Int)) = true := decide_eq_true c58
                      clear c58
                      by_cases c59 : 0 ≤ x95_3
                      · rw [if_pos c59] at H
                        have c59b0 : decide (0 ≤ x95_3) = true := decide_eq_true c59
                        clear c59
                        by_cases c60 : x95_3 < (t155.length : Int)
                        · rw [if_pos c60] at H
                          have c60b0 : decide (x95_3 < (t155.length : Int)) = true := decide_eq_true c60
                          clear c60
                          by_cases c61 : 0 ≤ (rd t155 x95_3)
                          · rw [if_pos c61] at H
                            have c61b0 : decide (0 ≤ (rd t155 x95_3)) = true := decide_eq_true c61
                            clear c61
                            by_cases c62 : (rd t155 x95_3) < (l0_0.length : Int)
                            · rw [if_pos c62] at H
                              have c62b0 : decide ((rd t155 x95_3) < (l0_0.length : Int)) = true := decide_eq_true c62
                              clear c62
                              obtain ⟨bq63, hbq63⟩ : ∃ b_ : Bool, b_ = ((rd_T65 l0_0 (rd t155 x95_3)).f3) := ⟨_, rfl⟩
                              replace H : (if bq63 = true then (some false) else (if ((rd_T65 l0_0 (rd t155 x95_3)).f0) = 0 then (if ((rd_T65 l0_0 (rd t155 x95_3)).f1) = (-1) then (impl_QueueOk.l1 k3 x7_2 t155 (t155.length : Int) (wrap64 (x95_3 + 1)) l0_0 a0_1 a0_2 a0_3 a0_4) else (some false)) else (some false))) = some r := by rw [← hbq63] at H; exact H
                              have Nbq63 := Aside0.mk hbq63
                              clear hbq63
                              by_cases c64 : bq63 = true
                              · subst c64
                                have H1 : (some false) = some r := by rw [if_pos rfl] at H; exact H
                                clear H
                                have H := H1
                                clear H1
                                obtain rfl := Option.some.inj H
                                have p167 : 0 ≤ (x95_3 : Int) := of_decide_eq_true (by first | (with_reducible assumption) | assumption)
                                have q167 : x95_3 < (t155.length : Int) := of_decide_eq_true (by first | (with_reducible assumption) | assumption)
                                obtain ⟨ad167, e167, hx167_0⟩ := Kd.at_int (Kd.R_reads' HO_93.out).2.2 x95_3 p167 q167
                                cases e167
                                replace p167 := eq_true p167
                                replace q167 := eq_true q167
                                have hcz65_0 : wr.cell? ⟨gb150, 0, none⟩ = some (.slice A0_0 l0_0.length c0_0) := (blk_cell BK150.out 0).trans rfl
                                have hcz65_1 : wr.cell? ⟨gb150, 1, none⟩ = some (.int .i64 a0_1) := (blk_cell BK150.out 1).trans rfl
                                have hcz65_2 : wr.cell? ⟨gb150, 2, none⟩ = some (.int .i64 a0_2) := (blk_cell BK150.out 2).trans rfl
                                have hcz65_3 : wr.cell? ⟨gb150, 3, none⟩ = some (.int .i64 a0_3) := (blk_cell BK150.out 3).trans rfl
                                have hcz65_4 : wr.cell? ⟨gb150, 4, none⟩ = some (.int .i64 a0_4) := (blk_cell BK150.out 4).trans rfl
                                have hfz65_0 := blk_frozen BK150.out 0
                                have hfz65_1 := blk_frozen BK150.out 1
                                have hfz65_2 := blk_frozen BK150.out 2
                                have hfz65_3 := blk_frozen BK150.out 3
                                have hfz65_4 := blk_frozen BK150.out 4
                                have p168 : 0 ≤ ((rd t155 x95_3) : Int) := of_decide_eq_true (by first | (with_reducible assumption) | assumption)
                                have q168 : (rd t155 x95_3) < (l0_0.length : Int) := of_decide_eq_true (by first | (with_reducible assumption) | assumption)
                                obtain ⟨ad168, e168, hx168_0, hx168_1, hx168_2, hx168_3⟩ := at_T65 HR0_0.out (rd t155 x95_3) p168 q168
                                (try rw [← Nbq63.out] at hx168_3)
                                cases e168
                                replace hx168_0 := (HB.out.cell (World.block_lt_of_cell? w _ hx168_0)).trans hx168_0
                                replace hx168_1 := (HB.out.cell (World.block_lt_of_cell? w _ hx168_1)).trans hx168_1
                                replace hx168_2 := (HB.out.cell (World.block_lt_of_cell? w _ hx168_2)).trans hx168_2
                                replace hx168_3 := (HB.out.cell (World.block_lt_of_cell? w _ hx168_3)).trans hx168_3
                                replace p168 := eq_true p168
                                replace q168 := eq_true q168
                                go_wp2_with (first | ((with_reducible refine gate_dst (N := 14) rfl ?_); (try (refine gate_guard (by rfl) ?_; dsimp only)); refine box_event ?hg (N := 14) ?hd (cs := #[.int .i64 0, .int .i64 0, .int .i64 0, .bool false]) (t := 65) ?hr ?_; (case hd => rfl); (case hg => rfl); (case hr => first | (go_simp; done) | (go_simp; rfl)); intro gb169 hg w66 hbox hb; have n0_ := Aside0.mk (Kd.R_below (ro_ HO_93.out) hb); have n1_ := Aside0.mk (blk_below (g := gb150) (o := .cells #[.slice (some ad168) l0_0.length c0_0, .int .i64 a0_1, .int .i64 a0_2, .int .i64 a0_3, .int .i64 a0_4] 28 (0, 0)) (bl_ BK150.out) hb); have n2_ := Aside0.mk (below_step (be_ HB.out) hb); have n3_ := Aside0.mk (hbox); have n4_ := Aside0.mk ((by rw [hg]; exact (below_size (be_ HB.out)) : w.heap.size ≤ gb169)); have n5_ := Aside0.mk ((by rw [hg]; exact (below_size (be_ HB.out)) : w.heap.size ≤ gb169)); have n6_ := Aside0.mk ((by rw [hg]; exact Nat.ne_of_lt (blk_lt (g := gb150) (o := .cells #[.slice (some ad168) l0_0.length c0_0, .int .i64 a0_1, .int .i64 a0_2, .int .i64 a0_3, .int .i64 a0_4] 28 (0, 0)) (bl_ BK150.out)) : gb150 ≠ gb169)); have n7_ := Aside0.mk ((by rw [hg]; exact Nat.ne_of_gt (blk_lt (g := gb150) (o := .cells #[.slice (some ad168) l0_0.length c0_0, .int .i64 a0_1, .int .i64 a0_2, .int .i64 a0_3, .int .i64 a0_4] 28 (0, 0)) (bl_ BK150.out)) : gb169 ≠ gb150)); clear HO_93 BK150 HB; have HO_93 := n0_; have BK150 := n1_; have HB := n2_; have BK169 := n3_; have GW169 := n4_; have GE169 := n5_; have NB150_169 := n6_; have NB169_150 := n7_; clear n0_ n1_ n2_ n3_ n4_ n5_ n6_ n7_; clear hb hbox hg; have hnb67 := NB169_150.out; have hnc67 := NB150_169.out; obtain ⟨hcz68_0, hcz68_1, hcz68_2, hcz68_3, hfz68_0, hfz68_1, hfz68_2, hfz68_3⟩ := cz4_ BK169.out))
                                go_ret
                                exact ⟨by first | rfl | (simp [errW_none, errW_some] <;> rfl) | (simp [*, errW_none, errW_some] <;> rfl), be_ HB.out⟩
                              · replace c64 := Bool.eq_false_iff.mpr c64
                                subst c64
                                have H1 : (if ((rd_T65 l0_0 (rd t155 x95_3)).f0) = 0 then (if ((rd_T65 l0_0 (rd t155 x95_3)).f1) = (-1) then (impl_QueueOk.l1 k3 x7_2 t155 (t155.length : Int) (wrap64 (x95_3 + 1)) l0_0 a0_1 a0_2 a0_3 a0_4) else (some false)) else (some false)) = some r := by rw [if_neg (show ¬ (false = true) by decide)] at H; exact H
                                clear H
                                have H := H1
                                clear H1
                                by_cases c69 : ((rd_T65 l0_0 (rd t155 x95_3)).f0) = 0
                                · rw [if_pos c69] at H
                                  have c69b0 : (((rd_T65 l0_0 (rd t155 x95_3)).f0) == 0) = true := beq_iff_eq.mpr c69
                                  have c69b1 : (((rd_T65 l0_0 (rd t155 x95_3)).f0) != 0) = false := bne_eq_false_iff_eq.mpr c69
                                  clear c69
                                  by_cases c70 : ((rd_T65 l0_0 (rd t155 x95_3)).f1) = (-1)
                                  · rw [if_pos c70] at H
                                    have c70b0 : (((rd_T65 l0_0 (rd t155 x95_3)).f1) == (-1)) = true := beq_iff_eq.mpr c70
                                    have c70b1 : (((rd_T65 l0_0 (rd t155 x95_3)).f1) != (-1)) = false := bne_eq_false_iff_eq.mpr c70
                                    clear c70
                                    have H' := Aside0.mk H
                                    clear H
                                    have p167 : 0 ≤ (x95_3 : Int) := of_decide_eq_true (by first | (with_reducible assumption) | assumption)
                                    have q167 : x95_3 < (t155.length : Int) := of_decide_eq_true (by first | (with_reducible assumption) | assumption)
                                    obtain ⟨ad167, e167, hx167_0⟩ := Kd.at_int (Kd.R_reads' HO_93.out).2.2 x95_3 p167 q167
                                    cases e167
                                    replace p167 := eq_true p167
                                    replace q167 := eq_true q167
                                    have hcz71_0 : wr.cell? ⟨gb150, 0, none⟩ = some (.slice A0_0 l0_0.length c0_0) := (blk_cell BK150.out 0).trans rfl
                                    have hcz71_1 : wr.cell? ⟨gb150, 1, none⟩ = some (.int .i64 a0_1) := (blk_cell BK150.out 1).trans rfl
                                    have hcz71_2 : wr.cell? ⟨gb150, 2, none⟩ = some (.int .i64 a0_2) := (blk_cell BK150.out 2).trans rfl
                                    have hcz71_3 : wr.cell? ⟨gb150, 3, none⟩ = some (.int .i64 a0_3) := (blk_cell BK150.out 3).trans rfl
                                    have hcz71_4 : wr.cell? ⟨gb150, 4, none⟩ = some (.int .i64 a0_4) := (blk_cell BK150.out 4).trans rfl
                                    have hfz71_0 := blk_frozen BK150.out 0
                                    have hfz71_1 := blk_frozen BK150.out 1
                                    have hfz71_2 := blk_frozen BK150.out 2
                                    have hfz71_3 := blk_frozen BK150.out 3
                                    have hfz71_4 := blk_frozen BK150.out 4
                                    have p168 : 0 ≤ ((rd t155 x95_3) : Int) := of_decide_eq_true (by first | (with_reducible assumption) | assumption)
                                    have q168 : (rd t155 x95_3) < (l0_0.length : Int) := of_decide_eq_true (by first | (with_reducible assumption) | assumption)
                                    obtain ⟨ad168, e168, hx168_0, hx168_1, hx168_2, hx168_3⟩ := at_T65 HR0_0.out (rd t155 x95_3) p168 q168
                                    (try rw [← Nbq63.out] at hx168_3)
                                    cases e168
                                    replace hx168_0 := (HB.out.cell (World.block_lt_of_cell? w _ hx168_0)).trans hx168_0
                                    replace hx168_1 := (HB.out.cell (World.block_lt_of_cell? w _ hx168_1)).trans hx168_1
                                    replace hx168_2 := (HB.out.cell (World.block_lt_of_cell? w _ hx168_2)).trans hx168_2
                                    replace hx168_3 := (HB.out.cell (World.block_lt_of_cell? w _ hx168_3)).trans hx168_3
                                    replace p168 := eq_true p168
                                    replace q168 := eq_true q168
                                    go_wp2_with (first | ((with_reducible refine gate_dst (N := 14) rfl ?_); (try (refine gate_guard (by rfl) ?_; dsimp only)); refine box_event ?hg (N := 14) ?hd (cs := #[.int .i64 0, .int .i64 0, .int .i64 0, .bool false]) (t := 65) ?hr ?_; (case hd => rfl); (case hg => rfl); (case hr => first | (go_simp; done) | (go_simp; rfl)); intro gb169 hg w72 hbox hb; have n0_ := Aside0.mk (Kd.R_below (ro_ HO_93.out) hb); have n1_ := Aside0.mk (blk_below (g := gb150) (o := .cells #[.slice (some ad168) l0_0.length c0_0, .int .i64 a0_1, .int .i64 a0_2, .int .i64 a0_3, .int .i64 a0_4] 28 (0, 0)) (bl_ BK150.out) hb); have n2_ := Aside0.mk (below_step (be_ HB.out) hb); have n3_ := Aside0.mk (hbox); have n4_ := Aside0.mk ((by rw [hg]; exact (below_size (be_ HB.out)) : w.heap.size ≤ gb169)); have n5_ := Aside0.mk ((by rw [hg]; exact (below_size (be_ HB.out)) : w.heap.size ≤ gb169)); have n6_ := Aside0.mk ((by rw [hg]; exact Nat.ne_of_lt (blk_lt (g := gb150) (o := .cells #[.slice (some ad168) l0_0.length c0_0, .int .i64 a0_1, .int .i64 a0_2, .int .i64 a0_3, .int .i64 a0_4] 28 (0, 0)) (bl_ BK150.out)) : gb150 ≠ gb169)); have n7_ := Aside0.mk ((by rw [hg]; exact Nat.ne_of_gt (blk_lt (g := gb150) (o := .cells #[.slice (some ad168) l0_0.length c0_0, .int .i64 a0_1, .int .i64 a0_2, .int .i64 a0_3, .int .i64 a0_4] 28 (0, 0)) (bl_ BK150.out)) : gb169 ≠ gb150)); clear HO_93 BK150 HB; have HO_93 := n0_; have BK150 := n1_; have HB := n2_; have BK169 := n3_; have GW169 := n4_; have GE169 := n5_; have NB150_169 := n6_; have NB169_150 := n7_; clear n0_ n1_ n2_ n3_ n4_ n5_ n6_ n7_; clear hb hbox hg; have hnb73 := NB169_150.out; have hnc73 := NB150_169.out; obtain ⟨hcz74_0, hcz74_1, hcz74_2, hcz74_3, hfz74_0, hfz74_1, hfz74_2, hfz74_3⟩ := cz4_ BK169.out))
                                    go_roundg k3
                                    case measure => have := HJ4.out; have := HK2.out; have := HK3.out; omega
                                    case rel => exact ⟨(wrap64 (x95_3 + 1)), (by first | rfl | (simp; done) | (simp [*]; done)), H', ⟨by have := HJ4.out; have := HK2.out; have := HK3.out; omega⟩, ⟨by (with_reducible repeat (first | apply Kd.R_alloc | apply Kd.R_drewN | apply Kd.R_drew)); exact Kd.R_mono (Kd.R_far (p := ⟨gb169, 3, none⟩) (Kd.R_far (p := ⟨gb169, 2, none⟩) (Kd.R_far (p := ⟨gb169, 1, none⟩) (Kd.R_far (p := ⟨gb169, 0, none⟩) (Kd.R_types HO_93.out BK169.out (by decide)) (fun _ hk => hk.2) (.int .i64 ((rd_T65 l0_0 (rd t155 x95_3)).f0))) (fun _ hk => hk.2) (.int .i64 ((rd_T65 l0_0 (rd t155 x95_3)).f1))) (fun _ hk => hk.2) (.int .i64 ((rd_T65 l0_0 (rd t155 x95_3)).f2))) (fun _ hk => hk.2) (.bool false)) (fun _ hk => trivial)⟩, ⟨by refine bl_ ?_; refine blk_far ?_ NB150_169.out _; refine bl_ ?_; refine blk_far ?_ NB150_169.out _; refine bl_ ?_; refine blk_far ?_ NB150_169.out _; refine bl_ ?_; refine blk_far ?_ NB150_169.out _; refine bl_ ?_; exact BK150.out⟩, ⟨be_ HB.out⟩⟩
                                  · rw [if_neg c70] at H
                                    have c70b0 : (((rd_T65 l0_0 (rd t155 x95_3)).f1) == (-1)) = false := beq_eq_false_iff_ne.mpr c70
                                    have c70b1 : (((rd_T65 l0_0 (rd t155 x95_3)).f1) != (-1)) = true := bne_iff_ne.mpr c70
                                    obtain rfl := Option.some.inj H
                                    have p167 : 0 ≤ (x95_3 : Int) := of_decide_eq_true (by first | (with_reducible assumption) | assumption)
                                    have q167 : x95_3 < (t155.length : Int) := of_decide_eq_true (by first | (with_reducible assumption) | assumption)
                                    obtain ⟨ad167, e167, hx167_0⟩ := Kd.at_int (Kd.R_reads' HO_93.out).2.2 x95_3 p167 q167
                                    cases e167
                                    replace p167 := eq_true p167
                                    replace q167 := eq_true q167
                                    have hcz75_0 : wr.cell? ⟨gb150, 0, none⟩ = some (.slice A0_0 l0_0.length c0_0) := (blk_cell BK150.out 0).trans rfl
                                    have hcz75_1 : wr.cell? ⟨gb150, 1, none⟩ = some (.int .i64 a0_1) := (blk_cell BK150.out 1).trans rfl
                                    have hcz75_2 : wr.cell? ⟨gb150, 2, none⟩ = some (.int .i64 a0_2) := (blk_cell BK150.out 2).trans rfl
                                    have hcz75_3 : wr.cell? ⟨gb150, 3, none⟩ = some (.int .i64 a0_3) := (blk_cell BK150.out 3).trans rfl
                                    have hcz75_4 : wr.cell? ⟨gb150, 4, none⟩ = some (.int .i64 a0_4) := (blk_cell BK150.out 4).trans rfl
                                    have hfz75_0 := blk_frozen BK150.out 0
                                    have hfz75_1 := blk_frozen BK150.out 1
                                    have hfz75_2 := blk_frozen BK150.out 2
                                    have hfz75_3 := blk_frozen BK150.out 3
                                    have hfz75_4 := blk_frozen BK150.out 4
                                    have p168 : 0 ≤ ((rd t155 x95_3) : Int) := of_decide_eq_true (by first | (with_reducible assumption) | assumption)
                                    have q168 : (rd t155 x95_3) < (l0_0.length : Int) := of_decide_eq_true (by first | (with_reducible assumption) | assumption)
                                    obtain ⟨ad168, e168, hx168_0, hx168_1, hx168_2, hx168_3⟩ := at_T65 HR0_0.out (rd t155 x95_3) p168 q168
                                    (try rw [← Nbq63.out] at hx168_3)
                                    cases e168
                                    replace hx168_0 := (HB.out.cell (World.block_lt_of_cell? w _ hx168_0)).trans hx168_0
                                    replace hx168_1 := (HB.out.cell (World.block_lt_of_cell? w _ hx168_1)).trans hx168_1
                                    replace hx168_2 := (HB.out.cell (World.block_lt_of_cell? w _ hx168_2)).trans hx168_2
                                    replace hx168_3 := (HB.out.cell (World.block_lt_of_cell? w _ hx168_3)).trans hx168_3
                                    replace p168 := eq_true p168
                                    replace q168 := eq_true q168
                                    go_wp2_with (first | ((with_reducible refine gate_dst (N := 14) rfl ?_); (try (refine gate_guard (by rfl) ?_; dsimp only)); refine box_event ?hg (N := 14) ?hd (cs := #[.int .i64 0, .int .i64 0, .int .i64 0, .bool false]) (t := 65) ?hr ?_; (case hd => rfl); (case hg => rfl); (case hr => first | (go_simp; done) | (go_simp; rfl)); intro gb169 hg w76 hbox hb; have n0_ := Aside0.mk (Kd.R_below (ro_ HO_93.out) hb); have n1_ := Aside0.mk (blk_below (g := gb150) (o := .cells #[.slice (some ad168) l0_0.length c0_0, .int .i64 a0_1, .int .i64 a0_2, .int .i64 a0_3, .int .i64 a0_4] 28 (0, 0)) (bl_ BK150.out) hb); have n2_ := Aside0.mk (below_step (be_ HB.out) hb); have n3_ := Aside0.mk (hbox); have n4_ := Aside0.mk ((by rw [hg]; exact (below_size (be_ HB.out)) : w.heap.size ≤ gb169)); have n5_ := Aside0.mk ((by rw [hg]; exact (below_size (be_ HB.out)) : w.heap.size ≤ gb169)); have n6_ := Aside0.mk ((by rw [hg]; exact Nat.ne_of_lt (blk_lt (g := gb150) (o := .cells #[.slice (some ad168) l0_0.length c0_0, .int .i64 a0_1, .int .i64 a0_2, .int .i64 a0_3, .int .i64 a0_4] 28 (0, 0)) (bl_ BK150.out)) : gb150 ≠ gb169)); have n7_ := Aside0.mk ((by rw [hg]; exact Nat.ne_of_gt (blk_lt (g := gb150) (o := .cells #[.slice (some ad168) l0_0.length c0_0, .int .i64 a0_1, .int .i64 a0_2, .int .i64 a0_3, .int .i64 a0_4] 28 (0, 0)) (bl_ BK150.out)) : gb169 ≠ gb150)); clear HO_93 BK150 HB; have HO_93 := n0_; have BK150 := n1_; have HB := n2_; have BK169 := n3_; have GW169 := n4_; have GE169 := n5_; have NB150_169 := n6_; have NB169_150 := n7_; clear n0_ n1_ n2_ n3_ n4_ n5_ n6_ n7_; clear hb hbox hg; have hnb77 := NB169_150.out; have hnc77 := NB150_169.out; obtain ⟨hcz78_0, hcz78_1, hcz78_2, hcz78_3, hfz78_0, hfz78_1, hfz78_2, hfz78_3⟩ := cz4_ BK169.out))
                                    go_ret
                                    exact ⟨by first | rfl | (simp [errW_none, errW_some] <;> rfl) | (simp [*, errW_none, errW_some] <;> rfl), be_ HB.out⟩
                                · rw [if_neg c69] at H
                                  have c69b0 : (((rd_T65 l0_0 (rd t155 x95_3)).f0) == 0) = false := beq_eq_false_iff_ne.mpr c69
                                  have c69b1 : (((rd_T65 l0_0 (rd t155 x95_3)).f0) != 0) = true := bne_iff_ne.mpr c69
                                  obtain rfl := Option.some.inj H
                                  have p167 : 0 ≤ (x95_3 : Int) := of_decide_eq_true (by first | (with_reducible assumption) | assumption)
                                  have q167 : x95_3 < (t155.length : Int) := of_decide_eq_true (by first | (with_reducible assumption) | assumption)
                                  obtain ⟨ad167, e167, hx167_0⟩ := Kd.at_int (Kd.R_reads' HO_93.out).2.2 x95_3 p167 q167
                                  cases e167
                                  replace p167 := eq_true p167
                                  replace q167 := eq_true q167
                                  have hcz79_0 : wr.cell? ⟨gb150, 0, none⟩ = some (.slice A0_0 l0_0.length c0_0) := (blk_cell BK150.out 0).trans rfl
                                  have hcz79_1 : wr.cell? ⟨gb150, 1, none⟩ = some (.int .i64 a0_1) := (blk_cell BK150.out 1).trans rfl
                                  have hcz79_2 : wr.cell? ⟨gb150, 2, none⟩ = some (.int .i64 a0_2) := (blk_cell BK150.out 2).trans rfl
                                  have hcz79_3 : wr.cell? ⟨gb150, 3, none⟩ = some (.int .i64 a0_3) := (blk_cell BK150.out 3).trans rfl
                                  have hcz79_4 : wr.cell? ⟨gb150, 4, none⟩ = some (.int .i64 a0_4) := (blk_cell BK150.out 4).trans rfl
                                  have hfz79_0 := blk_frozen BK150.out 0
                                  have hfz79_1 := blk_frozen BK150.out 1
                                  have hfz79_2 := blk_frozen BK150.out 2
                                  have hfz79_3 := blk_frozen BK150.out 3
                                  have hfz79_4 := blk_frozen BK150.out 4
                                  have p168 : 0 ≤ ((rd t155 x95_3) : Int) := of_decide_eq_true (by first | (with_reducible assumption) | assumption)
                                  have q168 : (rd t155 x95_3) < (l0_0.length : Int) := of_decide_eq_true (by first | (with_reducible assumption) | assumption)
                                  obtain ⟨ad168, e168, hx168_0, hx168_1, hx168_2, hx168_3⟩ := at_T65 HR0_0.out (rd t155 x95_3) p168 q168
                                  (try rw [← Nbq63.out] at hx168_3)
                                  cases e168
                                  replace hx168_0 := (HB.out.cell (World.block_lt_of_cell? w _ hx168_0)).trans hx168_0
                                  replace hx168_1 := (HB.out.cell (World.block_lt_of_cell? w _ hx168_1)).trans hx168_1
                                  replace hx168_2 := (HB.out.cell (World.block_lt_of_cell? w _ hx168_2)).trans hx168_2
                                  replace hx168_3 := (HB.out.cell (World.block_lt_of_cell? w _ hx168_3)).trans hx168_3
                                  replace p168 := eq_true p168
                                  replace q168 := eq_true q168
                                  go_wp2_with (first | ((with_reducible refine gate_dst (N := 14) rfl ?_); (try (refine gate_guard (by rfl) ?_; dsimp only)); refine box_event ?hg (N := 14) ?hd (cs := #[.int .i64 0, .int .i64 0, .int .i64 0, .bool false]) (t := 65) ?hr ?_; (case hd => rfl); (case hg => rfl); (case hr => first | (go_simp; done) | (go_simp; rfl)); intro gb169 hg w80 hbox hb; have n0_ := Aside0.mk (Kd.R_below (ro_ HO_93.out) hb); have n1_ := Aside0.mk (blk_below (g := gb150) (o := .cells #[.slice (some ad168) l0_0.length c0_0, .int .i64 a0_1, .int .i64 a0_2, .int .i64 a0_3, .int .i64 a0_4] 28 (0, 0)) (bl_ BK150.out) hb); have n2_ := Aside0.mk (below_step (be_ HB.out) hb); have n3_ := Aside0.mk (hbox); have n4_ := Aside0.mk ((by rw [hg]; exact (below_size (be_ HB.out)) : w.heap.size ≤ gb169)); have n5_ := Aside0.mk ((by rw [hg]; exact (below_size (be_ HB.out)) : w.heap.size ≤ gb169)); have n6_ := Aside0.mk ((by rw [hg]; exact Nat.ne_of_lt (blk_lt (g := gb150) (o := .cells #[.slice (some ad168) l0_0.length c0_0, .int .i64 a0_1, .int .i64 a0_2, .int .i64 a0_3, .int .i64 a0_4] 28 (0, 0)) (bl_ BK150.out)) : gb150 ≠ gb169)); have n7_ := Aside0.mk ((by rw [hg]; exact Nat.ne_of_gt (blk_lt (g := gb150) (o := .cells #[.slice (some ad168) l0_0.length c0_0, .int .i64 a0_1, .int .i64 a0_2, .int .i64 a0_3, .int .i64 a0_4] 28 (0, 0)) (bl_ BK150.out)) : gb169 ≠ gb150)); clear HO_93 BK150 HB; have HO_93 := n0_; have BK150 := n1_; have HB := n2_; have BK169 := n3_; have GW169 := n4_; have GE169 := n5_; have NB150_169 := n6_; have NB169_150 := n7_; clear n0_ n1_ n2_ n3_ n4_ n5_ n6_ n7_; clear hb hbox hg; have hnb81 := NB169_150.out; have hnc81 := NB150_169.out; obtain ⟨hcz82_0, hcz82_1, hcz82_2, hcz82_3, hfz82_0, hfz82_1, hfz82_2, hfz82_3⟩ := cz4_ BK169.out))
                                  go_ret
                                  exact ⟨by first | rfl | (simp [errW_none, errW_some] <;> rfl) | (simp [*, errW_none, errW_some] <;> rfl), be_ HB.out⟩
                            · rw [if_neg c62] at H
                              exact absurd H (by simp)
                          · rw [if_neg c61] at H
                            exact absurd H (by simp)
                        · rw [if_neg c60] at H
                          exact absurd H (by simp)
                      · rw [if_neg c59] at H
                        exact absurd H (by simp)
                    · rw [if_neg c58] at H
                      have c58b0 : decide (x95_3 < (t155.length : Int)) = false := decide_eq_false c58
                      clear c58
                      obtain rfl := Option.some.inj H
                      have hcz83_0 : wr.cell? ⟨gb150, 0, none⟩ = some (.slice A0_0 l0_0.length c0_0) := (blk_cell BK150.out 0).trans rfl
                      have hcz83_1 : wr.cell? ⟨gb150, 1, none⟩ = some (.int .i64 a0_1) := (blk_cell BK150.out 1).trans rfl
                      have hcz83_2 : wr.cell? ⟨gb150, 2, none⟩ = some (.int .i64 a0_2) := (blk_cell BK150.out 2).trans rfl
                      have hcz83_3 : wr.cell? ⟨gb150, 3, none⟩ = some (.int .i64 a0_3) := (blk_cell BK150.out 3).trans rfl
                      have hcz83_4 : wr.cell? ⟨gb150, 4, none⟩ = some (.int .i64 a0_4) := (blk_cell BK150.out 4).trans rfl
                      have hfz83_0 := blk_frozen BK150.out 0
                      have hfz83_1 := blk_frozen BK150.out 1
                      have hfz83_2 := blk_frozen BK150.out 2
                      have hfz83_3 := blk_frozen BK150.out 3
                      have hfz83_4 := blk_frozen BK150.out 4
                      go_wp2
                      go_ret
                      exact ⟨by first | rfl | (simp [errW_none, errW_some] <;> rfl) | (simp [*, errW_none, errW_some] <;> rfl), be_ HB.out⟩
  · rw [if_neg c2] at H
    have c2b0 : ((l0_0.length : Int) == 60) = false := beq_eq_false_iff_ne.mpr c2
    have c2b1 : ((l0_0.length : Int) != 60) = true := bne_iff_ne.mpr c2
    obtain rfl := Option.some.inj H
    go_enter Try.func25, Try.ntmps25
    go_wp2_with (first | ((with_reducible refine gate_dst (N := 1) rfl ?_); (try (refine gate_guard (by rfl) ?_; dsimp only)); refine box_event ?hg (N := 1) ?hd (cs := #[.slice A0_0 l0_0.length c0_0, .int .i64 a0_1, .int .i64 a0_2, .int .i64 a0_3, .int .i64 a0_4]) (t := 28) ?hr ?_; (case hd => rfl); (case hg => rfl); (case hr => first | (go_simp; done) | (go_simp; rfl)); intro gb150 hg w84 hbox hb; have n0_ := Aside0.mk (below_step (be_ HB.out) hb); have n1_ := Aside0.mk (hbox); have n2_ := Aside0.mk ((by rw [hg]; exact (below_size (be_ HB.out)) : w.heap.size ≤ gb150)); have n3_ := Aside0.mk ((by rw [hg]; exact (below_size (be_ HB.out)) : w.heap.size ≤ gb150)); clear HB; have HB := n0_; have BK150 := n1_; have GW150 := n2_; have GE150 := n3_; clear n0_ n1_ n2_ n3_; clear hb hbox hg; obtain ⟨hcz85_0, hcz85_1, hcz85_2, hcz85_3, hcz85_4, hfz85_0, hfz85_1, hfz85_2, hfz85_3, hfz85_4⟩ := cz5_ BK150.out))
    go_ret
    exact ⟨by first | rfl | (simp [errW_none, errW_some] <;> rfl) | (simp [*, errW_none, errW_some] <;> rfl), be_ HB.out⟩

end Go.Proofs.Ytgpgkedbanmheaa.MFnExactRemoveAt
