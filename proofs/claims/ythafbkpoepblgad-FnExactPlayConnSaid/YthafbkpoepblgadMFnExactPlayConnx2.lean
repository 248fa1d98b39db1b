-- Written by a program of this session over the kit's print, with stand-ins for the functions that the print leaves; Lean checks it.
import Derived.Test.YthafbkpoepblgadMFnExactPlayConnx0
import Derived.Test.YthafbkpoepblgadMFnExactPlayConnx1
namespace Go.Proofs.Ythafbkpoepblgad.MFnExactPlayConn
open Go.RowKit Go.Proofs.YthafbkpoepblgadW.PrintWords Go.Proofs.YthafbkpoepblgadW.PrintLast Go.Proofs.YthafbkpoepblgadW.PrintMore
attribute [local go_sem] max2_int min2_int max_two min_two max_three min_three max_four min_four   -- for this text's walks alone
set_option linter.unusedVariables false
set_option linter.unusedSimpArgs false

/-! ### spec_l08To: function 23 -/
def spec_l08To.j0 : Nat → Int → Int → List Int → List Int → Bool → Option (Int)
 | 0, _, _, _, _, _ => none
 | k + 1, x0, x1, x5, x6, x14 => if x14 = true then (some 4) else ((spec_l01In.f x1 0 6).bind fun t119 => (if t119 = true then (if 0 ≤ x1 then (if x1 < (x5.length : Int) then (if (rd x5 x1) = x0 then (if x1 < (x6.length : Int) then (some (rd x6 x1)) else (none)) else (some (-1))) else (none)) else (none)) else (some (-1))))
def spec_l08To.f (k : Nat) (a0 : Int) (a1 : Int) : Option (Int) := (some (([0, 0, 1, 3, 1, 2, 2] : List Int) : List Int)).bind fun y113 => ((some (([1, 4, 3, 1, 2, 1, 4] : List Int) : List Int)).bind fun y116 => (if a1 = 7 then (spec_l08To.j0 k a0 a1 y113 y116 (a0 != 4)) else (spec_l08To.j0 k a0 a1 y113 y116 false)))
theorem spec_l08To.mono_l : ∀ k, (∀ y0 y1 y2 y3 y4, LeO (spec_l08To.j0 k y0 y1 y2 y3 y4) (spec_l08To.j0 (k + 1) y0 y1 y2 y3 y4))
 | 0 => fun _ _ _ _ _ r h => by simp [spec_l08To.j0] at h
 | k + 1 => by
  have ih0 := spec_l08To.mono_l k
  ·
   intro y0 y1 y2 y3 y4
   unfold spec_l08To.j0
   repeat' first
   | (with_reducible exact ih0 _ _ _ _ _)
   | (with_reducible exact LeO.refl _)
   | (with_reducible exact LeO.none _)
   | (with_reducible refine LeO.ite ?_ ?_)
   | (with_reducible refine LeO.bind ?_ (fun _ => ?_))
   | exact ih0 _ _ _ _ _
   | exact LeO.none _
   | refine LeO.ite ?_ ?_
   | refine LeO.bind ?_ (fun _ => ?_)
theorem spec_l08To.mono : ∀ a0 a1 k, LeO (spec_l08To.f k a0 a1) (spec_l08To.f (k + 1) a0 a1) := by
 intro a0 a1 k
 have ih0 := spec_l08To.mono_l k
 unfold spec_l08To.f
 repeat' first
  | (with_reducible exact ih0 _ _ _ _ _)
  | (with_reducible exact LeO.refl _)
  | (with_reducible exact LeO.none _)
  | (with_reducible refine LeO.ite ?_ ?_)
  | (with_reducible refine LeO.bind ?_ (fun _ => ?_))
  | exact ih0 _ _ _ _ _
  | exact LeO.none _
  | refine LeO.ite ?_ ?_
  | refine LeO.bind ?_ (fun _ => ?_)
set_option maxHeartbeats 40000000 in
set_option maxRecDepth 100000 in
theorem spec_l08To.calls (k : Nat) (a0 : Int) (a1 : Int) (r : Int) (w : World) (h : spec_l08To.f k a0 a1 = some r) :
 Calls Try.prog 23 #[.int .i64 a0, .int .i64 a1] w fun e w' => e = .returned (.int .i64 r) ∧ Below w.heap.size w w' := by
 have HB := Aside0.mk (Below.refl w.heap.size w)
 have H : ((some (([0, 0, 1, 3, 1, 2, 2] : List Int) : List Int)).bind fun y113 => ((some (([1, 4, 3, 1, 2, 1, 4] : List Int) : List Int)).bind fun y116 => (if a1 = 7 then (spec_l08To.j0 k a0 a1 y113 y116 (a0 != 4)) else (spec_l08To.j0 k a0 a1 y113 y116 false)))) = some r := h
 clear h
 obtain ⟨y113, hy113⟩ : ∃ y_ : List Int, y_ = (([0, 0, 1, 3, 1, 2, 2] : List Int)) := ⟨_, rfl⟩
 replace H : ((some (([1, 4, 3, 1, 2, 1, 4] : List Int) : List Int)).bind fun y116 => (if a1 = 7 then (spec_l08To.j0 k a0 a1 y113 y116 (a0 != 4)) else (spec_l08To.j0 k a0 a1 y113 y116 false))) = some r := by first | (rw [hy113]; with_reducible exact H) | (have H2_ := (Option.bind_some _ _).symm.trans H; rw [hy113]; with_reducible exact H2_) | (have H2_ := (Option.bind_some _ _).symm.trans H; with_reducible exact H2_) | with_reducible exact H | (rw [hy113]; exact H) | exact H
 have Ny113 := Aside0.mk hy113
 clear hy113
 obtain ⟨y116, hy116⟩ : ∃ y_ : List Int, y_ = (([1, 4, 3, 1, 2, 1, 4] : List Int)) := ⟨_, rfl⟩
 replace H : (if a1 = 7 then (spec_l08To.j0 k a0 a1 y113 y116 (a0 != 4)) else (spec_l08To.j0 k a0 a1 y113 y116 false)) = some r := by first | (rw [hy116]; with_reducible exact H) | (have H2_ := (Option.bind_some _ _).symm.trans H; rw [hy116]; with_reducible exact H2_) | (have H2_ := (Option.bind_some _ _).symm.trans H; with_reducible exact H2_) | with_reducible exact H | (rw [hy116]; exact H) | exact H
 have Ny116 := Aside0.mk hy116
 clear hy116
 have HC3 := Aside0.mk H
 clear H
 go_enter Try.func23, Try.ntmps23
 go_upto_region 3 with (first | ((with_reducible refine gate_dst (N := 7) rfl ?_); refine Kd.R_lit (Kd.int .i64) _ 3 ?hg (N := 7) ?hd (xs := ([0, 0, 1, 3, 1, 2, 2] : List Int)) (inner := [.int .i64 0, .int .i64 0, .int .i64 1, .int .i64 3, .int .i64 1, .int .i64 2, .int .i64 2]) (ok := fun _ => True) (okp := fun _ => True) ?hr ?hp (fun _ hk => hk) trivial (Below.refl _ _) (Nat.le_refl _) (by simp) ?_; (case hd => rfl); (case hg => rfl); (case hr => first | (go_simp; done) | (go_simp; rfl)); (case hp => exact (Reps.one (show Kd.M (Kd.int .i64) _ _ _ 0 [.int .i64 0] from rfl) (Reps.one (show Kd.M (Kd.int .i64) _ _ _ 0 [.int .i64 0] from rfl) (Reps.one (show Kd.M (Kd.int .i64) _ _ _ 1 [.int .i64 1] from rfl) (Reps.one (show Kd.M (Kd.int .i64) _ _ _ 3 [.int .i64 3] from rfl) (Reps.one (show Kd.M (Kd.int .i64) _ _ _ 1 [.int .i64 1] from rfl) (Reps.one (show Kd.M (Kd.int .i64) _ _ _ 2 [.int .i64 2] from rfl) (Reps.one (show Kd.M (Kd.int .i64) _ _ _ 2 [.int .i64 2] from rfl) (Reps.none _ _))))))))); intro v114 w4 ho5 hb hg_ hnew_; clear hg_ hnew_; (first | rw [← Ny113.out] at ho5 | (simp only [Int.reduceToNat] at ho5; rw [← Ny113.out] at ho5)); have n0_ := Aside0.mk (Kd.R_lower ho5 (below_size (be_ HB.out))); have n1_ := Aside0.mk (below_step (be_ HB.out) hb); clear HB; have HO115 := n0_; have HB := n1_; clear n0_ n1_; clear hb ho5) | ((with_reducible refine gate_dst (N := 8) rfl ?_); refine Kd.R_lit (Kd.int .i64) _ 3 ?hg (N := 8) ?hd (xs := ([1, 4, 3, 1, 2, 1, 4] : List Int)) (inner := [.int .i64 1, .int .i64 4, .int .i64 3, .int .i64 1, .int .i64 2, .int .i64 1, .int .i64 4]) (ok := fun _ => True) (okp := fun _ => True) ?hr ?hp (fun _ hk => hk) trivial (Below.refl _ _) (Nat.le_refl _) (by simp) ?_; (case hd => rfl); (case hg => rfl); (case hr => first | (go_simp; done) | (go_simp; rfl)); (case hp => exact (Reps.one (show Kd.M (Kd.int .i64) _ _ _ 1 [.int .i64 1] from rfl) (Reps.one (show Kd.M (Kd.int .i64) _ _ _ 4 [.int .i64 4] from rfl) (Reps.one (show Kd.M (Kd.int .i64) _ _ _ 3 [.int .i64 3] from rfl) (Reps.one (show Kd.M (Kd.int .i64) _ _ _ 1 [.int .i64 1] from rfl) (Reps.one (show Kd.M (Kd.int .i64) _ _ _ 2 [.int .i64 2] from rfl) (Reps.one (show Kd.M (Kd.int .i64) _ _ _ 1 [.int .i64 1] from rfl) (Reps.one (show Kd.M (Kd.int .i64) _ _ _ 4 [.int .i64 4] from rfl) (Reps.none _ _))))))))); intro v117 w6 ho7 hb hg_ hnew_; clear hg_ hnew_; (first | rw [← Ny116.out] at ho7 | (simp only [Int.reduceToNat] at ho7; rw [← Ny116.out] at ho7)); have n0_ := Aside0.mk (Kd.R_elder' (ro_ HO115.out) (Kd.R_base ho7) hb); have n1_ := Aside0.mk (Kd.R_lower (Kd.R_new' ho7 (Kd.R_lt (ro_ HO115.out))) (below_size (be_ HB.out))); have n2_ := Aside0.mk (below_step (be_ HB.out) hb); clear HO115 HB; have HO115 := n0_; have HO118 := n1_; have HB := n2_; clear n0_ n1_ n2_; clear hb ho7))
 (try simp only [Act.put, List.setIfInBounds_toArray, List.set_cons_zero, List.set_cons_succ])
 go_cut [14] (fun zv14 wc => ∃ (kq : Nat) (x14_2 : Bool), zv14 = .bool x14_2 ∧ Aside0 (spec_l08To.j0 kq a0 a1 y113 y116 x14_2 = some r) ∧ Aside0 (kq ≤ k) ∧ Aside0 (Kd.R (Kd.int .i64) 3 wc w.heap.size (fun k_ => some k_ ≠ (v117 : Value).ownBlock) v114 y113) ∧ Aside0 (Kd.R (Kd.int .i64) 3 wc w.heap.size (fun k_ => some k_ ≠ (v114 : Value).ownBlock) v117 y116) ∧ Aside0 (Below w.heap.size w wc))
 case first =>
  have H := HC3.out
  clear HC3
  by_cases c8 : a1 = 7
  ·
   rw [if_pos c8] at H
   have c8b0 : (a1 == 7) = true := beq_iff_eq.mpr c8
   have c8b1 : (a1 != 7) = false := bne_eq_false_iff_eq.mpr c8
   clear c8
   (first | rw [c8b0] | (simp only [i64_w, i32_w]; rw [c8b0]) | skip)
   have H' := Aside0.mk H
   clear H
   go_wp2
   go_meet
   case rel => exact ⟨_, ((a0 != 4)), (by first | rfl | (simp; done) | (simp [*]; done)), H', ⟨by first | omega | exact Nat.le_refl _⟩, ⟨by (with_reducible repeat (first | apply Kd.R_alloc | apply Kd.R_drewN | apply Kd.R_drew)); exact Kd.R_mono HO115.out (fun _ hk => hk.2)⟩, ⟨by (with_reducible repeat (first | apply Kd.R_alloc | apply Kd.R_drewN | apply Kd.R_drew)); exact Kd.R_mono HO118.out (fun _ hk => hk.2)⟩, ⟨be_ HB.out⟩⟩
  ·
   rw [if_neg c8] at H
   have c8b0 : (a1 == 7) = false := beq_eq_false_iff_ne.mpr c8
   have c8b1 : (a1 != 7) = true := bne_iff_ne.mpr c8
   (first | rw [c8b0] | (simp only [i64_w, i32_w]; rw [c8b0]) | skip)
   have H' := Aside0.mk H
   clear H
   go_wp2
   go_meet
   case rel => exact ⟨_, (false), (by first | rfl | (simp; done) | (simp [*]; done)), H', ⟨by first | omega | exact Nat.le_refl _⟩, ⟨by (with_reducible repeat (first | apply Kd.R_alloc | apply Kd.R_drewN | apply Kd.R_drew)); exact Kd.R_mono HO115.out (fun _ hk => hk.2)⟩, ⟨by (with_reducible repeat (first | apply Kd.R_alloc | apply Kd.R_drewN | apply Kd.R_drew)); exact Kd.R_mono HO118.out (fun _ hk => hk.2)⟩, ⟨be_ HB.out⟩⟩
 case rest =>
  clear HC3
  try clear c2
  try clear p2
  try clear c8
  try clear c8b0
  try clear c8b1
  obtain ⟨kq, x14_2, rfl, HA, HJ2, HO_5, HO_6, HB⟩ := hcut
  cases kq with
  | zero => exact absurd HA.out (by simp [spec_l08To.j0])
  | succ kj2 =>
   have H := HA.out
   clear HA
   simp only [spec_l08To.j0] at H
   by_cases c9 : x14_2 = true
   ·
    subst c9
    have H1 : (some 4) = some r := by rw [if_pos rfl] at H; exact H
    clear H
    have H := H1
    clear H1
    obtain rfl := Option.some.inj H
    go_wp2
    go_ret
    exact ⟨by first | rfl | (simp [errW_none, errW_some] <;> rfl) | (simp [*, errW_none, errW_some] <;> rfl), be_ HB.out⟩
   ·
    replace c9 := Bool.eq_false_iff.mpr c9
    subst c9
    have H1 : ((spec_l01In.f a1 0 6).bind fun t119 => (if t119 = true then (if 0 ≤ a1 then (if a1 < (y113.length : Int) then (if (rd y113 a1) = a0 then (if a1 < (y116.length : Int) then (some (rd y116 a1)) else (none)) else (some (-1))) else (none)) else (none)) else (some (-1)))) = some r := by rw [if_neg (show ¬ (false = true) by decide)] at H; exact H
    clear H
    have H := H1
    clear H1
    replace H := Option.bind_eq_some_iff.mp H
    obtain ⟨t119, A100, H⟩ := H
    replace H : (if t119 = true then (if 0 ≤ a1 then (if a1 < (y113.length : Int) then (if (rd y113 a1) = a0 then (if a1 < (y116.length : Int) then (some (rd y116 a1)) else (none)) else (some (-1))) else (none)) else (none)) else (some (-1))) = some r := H
    have A10 := Aside0.mk A100
    clear A100
    by_cases c11 : t119 = true
    ·
     subst c11
     have H1 : (if 0 ≤ a1 then (if a1 < (y113.length : Int) then (if (rd y113 a1) = a0 then (if a1 < (y116.length : Int) then (some (rd y116 a1)) else (none)) else (some (-1))) else (none)) else (none)) = some r := by rw [if_pos rfl] at H; exact H
     clear H
     have H := H1
     clear H1
     by_cases c12 : 0 ≤ a1
     ·
      rw [if_pos c12] at H
      have c12b0 : decide (0 ≤ a1) = true := decide_eq_true c12
      clear c12
      by_cases c13 : a1 < (y113.length : Int)
      ·
       rw [if_pos c13] at H
       have c13b0 : decide (a1 < (y113.length : Int)) = true := decide_eq_true c13
       clear c13
       by_cases c14 : (rd y113 a1) = a0
       ·
        rw [if_pos c14] at H
        have c14b0 : ((rd y113 a1) == a0) = true := beq_iff_eq.mpr c14
        have c14b1 : ((rd y113 a1) != a0) = false := bne_eq_false_iff_eq.mpr c14
        clear c14
        by_cases c15 : a1 < (y116.length : Int)
        ·
         rw [if_pos c15] at H
         have c15b0 : decide (a1 < (y116.length : Int)) = true := decide_eq_true c15
         clear c15
         obtain rfl := Option.some.inj H
         go_wp2_with (first | ((with_reducible refine gate_callee (f := 22) rfl ?_); refine goesL_ (some 16) rfl rfl Try.func22 (by kernel_rfl) rfl #[.int .i64 a1, .int .i64 0, .int .i64 6] rfl (by (try simp only [List.map_toArray, List.map_cons, List.map_nil]); first | done | rfl | (simp only [List.length_drop, List.length_take]; rfl)) ?_; (with_reducible refine (spec_l01In.calls a1 0 6 true _ A10.out).mono ?_); rintro e w' ⟨rfl, ⟨nd, rfl⟩⟩; refine ⟨_, rfl, ?_⟩; obtain ⟨Ao16, co16, eo16⟩ := Kd.R_slice HO_5.out; subst eo16; have p120 : 0 ≤ (a1 : Int) := of_decide_eq_true (by first | (with_reducible assumption) | assumption); have q120 : a1 < (y113.length : Int) := of_decide_eq_true (by first | (with_reducible assumption) | assumption); obtain ⟨ad120, e120, hx120_0⟩ := Kd.at_int (Kd.R_reads' HO_5.out).2.2 a1 p120 q120; cases e120; replace p120 := eq_true p120; replace q120 := eq_true q120; obtain ⟨Ao17, co17, eo17⟩ := Kd.R_slice HO_6.out; subst eo17; have p121 : 0 ≤ (a1 : Int) := of_decide_eq_true (by first | (with_reducible assumption) | assumption); have q121 : a1 < (y116.length : Int) := of_decide_eq_true (by first | (with_reducible assumption) | assumption); obtain ⟨ad121, e121, hx121_0⟩ := Kd.at_int (Kd.R_reads' HO_6.out).2.2 a1 p121 q121; cases e121; replace p121 := eq_true p121; replace q121 := eq_true q121))
         go_ret
         exact ⟨by first | rfl | (simp [errW_none, errW_some] <;> rfl) | (simp [*, errW_none, errW_some] <;> rfl), be_ HB.out⟩
        ·
         rw [if_neg c15] at H
         exact absurd H (by simp)
       ·
        rw [if_neg c14] at H
        have c14b0 : ((rd y113 a1) == a0) = false := beq_eq_false_iff_ne.mpr c14
        have c14b1 : ((rd y113 a1) != a0) = true := bne_iff_ne.mpr c14
        obtain rfl := Option.some.inj H
        go_wp2_with (first | ((with_reducible refine gate_callee (f := 22) rfl ?_); refine goesL_ (some 16) rfl rfl Try.func22 (by kernel_rfl) rfl #[.int .i64 a1, .int .i64 0, .int .i64 6] rfl (by (try simp only [List.map_toArray, List.map_cons, List.map_nil]); first | done | rfl | (simp only [List.length_drop, List.length_take]; rfl)) ?_; (with_reducible refine (spec_l01In.calls a1 0 6 true _ A10.out).mono ?_); rintro e w' ⟨rfl, ⟨nd, rfl⟩⟩; refine ⟨_, rfl, ?_⟩; obtain ⟨Ao18, co18, eo18⟩ := Kd.R_slice HO_5.out; subst eo18; have p120 : 0 ≤ (a1 : Int) := of_decide_eq_true (by first | (with_reducible assumption) | assumption); have q120 : a1 < (y113.length : Int) := of_decide_eq_true (by first | (with_reducible assumption) | assumption); obtain ⟨ad120, e120, hx120_0⟩ := Kd.at_int (Kd.R_reads' HO_5.out).2.2 a1 p120 q120; cases e120; replace p120 := eq_true p120; replace q120 := eq_true q120))
        go_ret
        exact ⟨by first | rfl | (simp [errW_none, errW_some] <;> rfl) | (simp [*, errW_none, errW_some] <;> rfl), be_ HB.out⟩
      ·
       rw [if_neg c13] at H
       exact absurd H (by simp)
     ·
      rw [if_neg c12] at H
      exact absurd H (by simp)
    ·
     replace c11 := Bool.eq_false_iff.mpr c11
     subst c11
     have H1 : (some (-1)) = some r := by rw [if_neg (show ¬ (false = true) by decide)] at H; exact H
     clear H
     have H := H1
     clear H1
     obtain rfl := Option.some.inj H
     go_wp2_with (first | ((with_reducible refine gate_callee (f := 22) rfl ?_); refine goesL_ (some 16) rfl rfl Try.func22 (by kernel_rfl) rfl #[.int .i64 a1, .int .i64 0, .int .i64 6] rfl (by (try simp only [List.map_toArray, List.map_cons, List.map_nil]); first | done | rfl | (simp only [List.length_drop, List.length_take]; rfl)) ?_; (with_reducible refine (spec_l01In.calls a1 0 6 false _ A10.out).mono ?_); rintro e w' ⟨rfl, ⟨nd, rfl⟩⟩; refine ⟨_, rfl, ?_⟩))
     go_ret
     exact ⟨by first | rfl | (simp [errW_none, errW_some] <;> rfl) | (simp [*, errW_none, errW_some] <;> rfl), be_ HB.out⟩

/-! ### spec_StepConn: function 16 -/
mutual
def spec_StepConn.j0 : Nat → Int → Int → Int → Bool → Int → Int → Int → Int → Int → Bool → Option (Int × Int × Int × Int × Int × Bool × Bool)
 | 0, _, _, _, _, _, _, _, _, _, _ => none
 | k + 1, x1, x2, x3, x21, x123000, x123001, x123002, x123003, x123004, x123005 => if x21 = true then (some (x123000, x123001, x123002, x123003, x123004, x123005, false)) else ((spec_l08To.f k x123001 x1).bind fun t126 => (if t126 < 0 then (spec_StepConn.j1 k x1 x2 x3 t126 true x123000 x123001 x123002 x123003 x123004 x123005) else (if x1 = 2 then ((spec_l01In.f x3 1 1000000000).bind fun t127 => (spec_StepConn.j1 k x1 x2 x3 t126 (!t127) x123000 x123001 x123002 x123003 x123004 x123005)) else (spec_StepConn.j1 k x1 x2 x3 t126 false x123000 x123001 x123002 x123003 x123004 x123005))))
def spec_StepConn.j1 : Nat → Int → Int → Int → Int → Bool → Int → Int → Int → Int → Int → Bool → Option (Int × Int × Int × Int × Int × Bool × Bool)
 | 0, _, _, _, _, _, _, _, _, _, _, _ => none
 | k + 1, x1, x2, x3, x10, x37, x123000, x123001, x123002, x123003, x123004, x123005 => if x37 = true then (some (x123000, x123001, x123002, x123003, x123004, x123005, false)) else (if x1 = 0 then (if x1 = 2 then (some (x123000, x10, x2, x2, x3, false, true)) else (some (x123000, x10, x2, x2, 0, false, true))) else (if x1 = 2 then (some (x123000, x10, x123002, x2, x3, false, true)) else (some (x123000, x10, x123002, x2, 0, false, true))))
end
def spec_StepConn.f (k : Nat) (a0_0 : Int) (a0_1 : Int) (a0_2 : Int) (a0_3 : Int) (a0_4 : Int) (a0_5 : Bool) (a1 : Int) (a2 : Int) (a3 : Int) : Option (Int × Int × Int × Int × Int × Bool × Bool) := (spec_ConnOk.f k a0_0 a0_1 a0_2 a0_3 a0_4 a0_5).bind fun t124 => (if t124 = true then ((spec_l01In.f a2 a0_3 1000000000).bind fun t125 => (spec_StepConn.j0 k a1 a2 a3 (!t125) a0_0 a0_1 a0_2 a0_3 a0_4 a0_5)) else (spec_StepConn.j0 k a1 a2 a3 true a0_0 a0_1 a0_2 a0_3 a0_4 a0_5))
theorem spec_StepConn.mono_l : ∀ k, (∀ y0 y1 y2 y3 y4 y5 y6 y7 y8 y9, LeO (spec_StepConn.j0 k y0 y1 y2 y3 y4 y5 y6 y7 y8 y9) (spec_StepConn.j0 (k + 1) y0 y1 y2 y3 y4 y5 y6 y7 y8 y9)) ∧ (∀ y0 y1 y2 y3 y4 y5 y6 y7 y8 y9 y10, LeO (spec_StepConn.j1 k y0 y1 y2 y3 y4 y5 y6 y7 y8 y9 y10) (spec_StepConn.j1 (k + 1) y0 y1 y2 y3 y4 y5 y6 y7 y8 y9 y10))
 | 0 => ⟨fun _ _ _ _ _ _ _ _ _ _ r h => by simp [spec_StepConn.j0] at h, fun _ _ _ _ _ _ _ _ _ _ _ r h => by simp [spec_StepConn.j1] at h⟩
 | k + 1 => by
  obtain ⟨ih0, ih1⟩ := spec_StepConn.mono_l k
  refine ⟨?_, ?_⟩
  ·
   intro y0 y1 y2 y3 y4 y5 y6 y7 y8 y9
   unfold spec_StepConn.j0
   repeat' first
   | (with_reducible exact ih0 _ _ _ _ _ _ _ _ _ _)
   | (with_reducible exact ih1 _ _ _ _ _ _ _ _ _ _ _)
   | (with_reducible exact spec_ConnOk.mono _ _ _ _ _ _ _)
   | (with_reducible exact spec_l08To.mono _ _ _)
   | (with_reducible exact LeO.refl _)
   | (with_reducible exact LeO.none _)
   | (with_reducible refine LeO.ite ?_ ?_)
   | (with_reducible refine LeO.bind ?_ (fun _ => ?_))
   | exact ih0 _ _ _ _ _ _ _ _ _ _
   | exact ih1 _ _ _ _ _ _ _ _ _ _ _
   | exact spec_ConnOk.mono _ _ _ _ _ _ _
   | exact spec_l08To.mono _ _ _
   | exact LeO.none _
   | refine LeO.ite ?_ ?_
   | refine LeO.bind ?_ (fun _ => ?_)
  ·
   intro y0 y1 y2 y3 y4 y5 y6 y7 y8 y9 y10
   unfold spec_StepConn.j1
   repeat' first
   | (with_reducible exact ih0 _ _ _ _ _ _ _ _ _ _)
   | (with_reducible exact ih1 _ _ _ _ _ _ _ _ _ _ _)
   | (with_reducible exact spec_ConnOk.mono _ _ _ _ _ _ _)
   | (with_reducible exact spec_l08To.mono _ _ _)
   | (with_reducible exact LeO.refl _)
   | (with_reducible exact LeO.none _)
   | (with_reducible refine LeO.ite ?_ ?_)
   | (with_reducible refine LeO.bind ?_ (fun _ => ?_))
   | exact ih0 _ _ _ _ _ _ _ _ _ _
   | exact ih1 _ _ _ _ _ _ _ _ _ _ _
   | exact spec_ConnOk.mono _ _ _ _ _ _ _
   | exact spec_l08To.mono _ _ _
   | exact LeO.none _
   | refine LeO.ite ?_ ?_
   | refine LeO.bind ?_ (fun _ => ?_)
theorem spec_StepConn.mono : ∀ a0 a1 a2 a3 a4 a5 a6 a7 a8 k, LeO (spec_StepConn.f k a0 a1 a2 a3 a4 a5 a6 a7 a8) (spec_StepConn.f (k + 1) a0 a1 a2 a3 a4 a5 a6 a7 a8) := by
 intro a0 a1 a2 a3 a4 a5 a6 a7 a8 k
 obtain ⟨ih0, ih1⟩ := spec_StepConn.mono_l k
 unfold spec_StepConn.f
 repeat' first
  | (with_reducible exact ih0 _ _ _ _ _ _ _ _ _ _)
  | (with_reducible exact ih1 _ _ _ _ _ _ _ _ _ _ _)
  | (with_reducible exact spec_ConnOk.mono _ _ _ _ _ _ _)
  | (with_reducible exact spec_l08To.mono _ _ _)
  | (with_reducible exact LeO.refl _)
  | (with_reducible exact LeO.none _)
  | (with_reducible refine LeO.ite ?_ ?_)
  | (with_reducible refine LeO.bind ?_ (fun _ => ?_))
  | exact ih0 _ _ _ _ _ _ _ _ _ _
  | exact ih1 _ _ _ _ _ _ _ _ _ _ _
  | exact spec_ConnOk.mono _ _ _ _ _ _ _
  | exact spec_l08To.mono _ _ _
  | exact LeO.none _
  | refine LeO.ite ?_ ?_
  | refine LeO.bind ?_ (fun _ => ?_)
set_option maxHeartbeats 40000000 in
set_option maxRecDepth 100000 in
theorem spec_StepConn.calls (k : Nat) (a0_0 : Int) (a0_1 : Int) (a0_2 : Int) (a0_3 : Int) (a0_4 : Int) (a0_5 : Bool) (a1 : Int) (a2 : Int) (a3 : Int) (r1 : Int) (r2 : Int) (r3 : Int) (r4 : Int) (r5 : Int) (r6 : Bool) (r7 : Bool) (w : World) (h : spec_StepConn.f k a0_0 a0_1 a0_2 a0_3 a0_4 a0_5 a1 a2 a3 = some (r1, r2, r3, r4, r5, r6, r7)) :
 Calls Try.prog 16 #[.agg #[.int .i64 a0_0, .int .i64 a0_1, .int .i64 a0_2, .int .i64 a0_3, .int .i64 a0_4, .bool a0_5], .int .i64 a1, .int .i64 a2, .int .i64 a3] w fun e w' => e = .returned (.tuple #[.agg #[.int .i64 r1, .int .i64 r2, .int .i64 r3, .int .i64 r4, .int .i64 r5, .bool r6], .bool r7]) ∧ Below w.heap.size w w' := by
 have hu25 := Try.underlying25
 have HB := Aside0.mk (Below.refl w.heap.size w)
 have H : ((spec_ConnOk.f k a0_0 a0_1 a0_2 a0_3 a0_4 a0_5).bind fun t124 => (if t124 = true then ((spec_l01In.f a2 a0_3 1000000000).bind fun t125 => (spec_StepConn.j0 k a1 a2 a3 (!t125) a0_0 a0_1 a0_2 a0_3 a0_4 a0_5)) else (spec_StepConn.j0 k a1 a2 a3 true a0_0 a0_1 a0_2 a0_3 a0_4 a0_5))) = some (r1, r2, r3, r4, r5, r6, r7) := h
 clear h
 have HC5 := Aside0.mk H
 clear H
 go_enter Try.func16, Try.ntmps16
 go_upto_region 1 with (first | ((with_reducible refine gate_dst (N := 4) rfl ?_); refine box_event ?hg (N := 4) ?hd (cs := #[.int .i64 a0_0, .int .i64 a0_1, .int .i64 a0_2, .int .i64 a0_3, .int .i64 a0_4, .bool a0_5]) (t := 25) ?hr ?_; (case hd => rfl); (case hg => rfl); (case hr => first | (go_simp; done) | (go_simp; rfl)); intro gb122 hg w6 hbox hb; have n0_ := Aside0.mk (below_step (be_ HB.out) hb); have n1_ := Aside0.mk (hbox); have n2_ := Aside0.mk ((by rw [hg]; exact (below_size (be_ HB.out)) : w.heap.size ≤ gb122)); have n3_ := Aside0.mk ((by rw [hg]; exact (below_size (be_ HB.out)) : w.heap.size ≤ gb122)); clear HB; have HB := n0_; have BK122 := n1_; have GW122 := n2_; have GE122 := n3_; clear n0_ n1_ n2_ n3_; clear hb hbox hg) | ((with_reducible refine gate_dst (N := 8) rfl ?_); refine box_event ?hg (N := 8) ?hd (cs := #[.int .i64 0, .int .i64 0, .int .i64 0, .int .i64 0, .int .i64 0, .bool false]) (t := 25) ?hr ?_; (case hd => rfl); (case hg => rfl); (case hr => first | (go_simp; done) | (go_simp; rfl)); intro gb123 hg w7 hbox hb; have n0_ := Aside0.mk (blk_below (bl_ BK122.out) hb); have n1_ := Aside0.mk (below_step (be_ HB.out) hb); have n2_ := Aside0.mk (hbox); have n3_ := Aside0.mk ((by rw [hg]; exact (below_size (be_ HB.out)) : w.heap.size ≤ gb123)); have n4_ := Aside0.mk ((by rw [hg]; exact (below_size (be_ HB.out)) : w.heap.size ≤ gb123)); have n5_ := Aside0.mk ((by rw [hg]; exact Nat.ne_of_lt (blk_lt (g := gb122) (o := .cells #[.int .i64 a0_0, .int .i64 a0_1, .int .i64 a0_2, .int .i64 a0_3, .int .i64 a0_4, .bool a0_5] 25 (0, 0)) (bl_ BK122.out)) : gb122 ≠ gb123)); have n6_ := Aside0.mk ((by rw [hg]; exact Nat.ne_of_gt (blk_lt (g := gb122) (o := .cells #[.int .i64 a0_0, .int .i64 a0_1, .int .i64 a0_2, .int .i64 a0_3, .int .i64 a0_4, .bool a0_5] 25 (0, 0)) (bl_ BK122.out)) : gb123 ≠ gb122)); clear BK122 HB; have BK122 := n0_; have HB := n1_; have BK123 := n2_; have GW123 := n3_; have GE123 := n4_; have NB122_123 := n5_; have NB123_122 := n6_; clear n0_ n1_ n2_ n3_ n4_ n5_ n6_; clear hb hbox hg))
 (try simp only [Act.put, List.setIfInBounds_toArray, List.set_cons_zero, List.set_cons_succ])
 go_cut [21] (fun zv21 wc => ∃ (kq : Nat) (x21_4 : Bool), zv21 = .bool x21_4 ∧ Aside0 (spec_StepConn.j0 kq a1 a2 a3 x21_4 a0_0 a0_1 a0_2 a0_3 a0_4 a0_5 = some (r1, r2, r3, r4, r5, r6, r7)) ∧ Aside0 (kq ≤ k) ∧ Aside0 (wc.heap[gb122]? = some (.cells #[.int .i64 a0_0, .int .i64 a0_1, .int .i64 a0_2, .int .i64 a0_3, .int .i64 a0_4, .bool a0_5] 25 (0, 0))) ∧ Aside0 (wc.heap[gb123]? = some (.cells #[.int .i64 0, .int .i64 0, .int .i64 0, .int .i64 0, .int .i64 0, .bool false] 25 (0, 0))) ∧ Aside0 (Below w.heap.size w wc))
 case first =>
  have H := HC5.out
  clear HC5
  replace H := Option.bind_eq_some_iff.mp H
  obtain ⟨t124, A80, H⟩ := H
  replace H : (if t124 = true then ((spec_l01In.f a2 a0_3 1000000000).bind fun t125 => (spec_StepConn.j0 k a1 a2 a3 (!t125) a0_0 a0_1 a0_2 a0_3 a0_4 a0_5)) else (spec_StepConn.j0 k a1 a2 a3 true a0_0 a0_1 a0_2 a0_3 a0_4 a0_5)) = some (r1, r2, r3, r4, r5, r6, r7) := H
  have A8 := Aside0.mk A80
  clear A80
  by_cases c9 : t124 = true
  ·
   subst c9
   have H1 : ((spec_l01In.f a2 a0_3 1000000000).bind fun t125 => (spec_StepConn.j0 k a1 a2 a3 (!t125) a0_0 a0_1 a0_2 a0_3 a0_4 a0_5)) = some (r1, r2, r3, r4, r5, r6, r7) := by rw [if_pos rfl] at H; exact H
   clear H
   have H := H1
   clear H1
   replace H := Option.bind_eq_some_iff.mp H
   obtain ⟨t125, A100, H⟩ := H
   replace H : (spec_StepConn.j0 k a1 a2 a3 (!t125) a0_0 a0_1 a0_2 a0_3 a0_4 a0_5) = some (r1, r2, r3, r4, r5, r6, r7) := H
   have A10 := Aside0.mk A100
   clear A100
   have H' := Aside0.mk H
   clear H
   have hnb11 := NB122_123.out
   have hnc11 := NB123_122.out
   obtain ⟨hcz12_0, hcz12_1, hcz12_2, hcz12_3, hcz12_4, hcz12_5, hfz12_0, hfz12_1, hfz12_2, hfz12_3, hfz12_4, hfz12_5⟩ := cz6_ BK122.out
   go_wp2_with (first | ((with_reducible refine gate_callee (f := 21) rfl ?_); refine goesL_ (some 13) rfl rfl Try.func21 (by kernel_rfl) rfl #[.agg #[.int .i64 a0_0, .int .i64 a0_1, .int .i64 a0_2, .int .i64 a0_3, .int .i64 a0_4, .bool a0_5]] rfl (by (try simp only [List.map_toArray, List.map_cons, List.map_nil]); first | done | rfl | (simp only [List.length_drop, List.length_take]; rfl)) ?_; (with_reducible refine (spec_ConnOk.calls k a0_0 a0_1 a0_2 a0_3 a0_4 a0_5 true _ A8.out).mono ?_); rintro e w13 ⟨rfl, hb⟩; refine ⟨_, rfl, ?_⟩; have n0_ := Aside0.mk (blk_below (bl_ BK122.out) hb); have n1_ := Aside0.mk (blk_below (bl_ BK123.out) hb); have n2_ := Aside0.mk (below_step (be_ HB.out) hb); clear BK122 BK123 HB; have BK122 := n0_; have BK123 := n1_; have HB := n2_; clear n0_ n1_ n2_; (try clear hb); (try clear hb2); (try clear hk); (try clear hi); obtain ⟨hcz14_0, hcz14_1, hcz14_2, hcz14_3, hcz14_4, hcz14_5, hfz14_0, hfz14_1, hfz14_2, hfz14_3, hfz14_4, hfz14_5⟩ := cz6_ BK122.out) | (go_at_call 22; (with_reducible refine (spec_l01In.calls a2 a0_3 1000000000 t125 _ A10.out).mono ?_); rintro e w' ⟨rfl, ⟨nd, rfl⟩⟩))
   go_meet
   case rel => exact ⟨_, (!t125), (by first | rfl | (simp; done) | (simp [*]; done)), H', ⟨by first | omega | exact Nat.le_refl _⟩, ⟨by refine bl_ ?_; exact BK122.out⟩, ⟨by refine bl_ ?_; exact BK123.out⟩, ⟨be_ HB.out⟩⟩
  ·
   replace c9 := Bool.eq_false_iff.mpr c9
   subst c9
   have H1 : (spec_StepConn.j0 k a1 a2 a3 true a0_0 a0_1 a0_2 a0_3 a0_4 a0_5) = some (r1, r2, r3, r4, r5, r6, r7) := by rw [if_neg (show ¬ (false = true) by decide)] at H; exact H
   clear H
   have H := H1
   clear H1
   have H' := Aside0.mk H
   clear H
   have hnb15 := NB122_123.out
   have hnc15 := NB123_122.out
   obtain ⟨hcz16_0, hcz16_1, hcz16_2, hcz16_3, hcz16_4, hcz16_5, hfz16_0, hfz16_1, hfz16_2, hfz16_3, hfz16_4, hfz16_5⟩ := cz6_ BK122.out
   go_wp2_with (first | ((with_reducible refine gate_callee (f := 21) rfl ?_); refine goesL_ (some 13) rfl rfl Try.func21 (by kernel_rfl) rfl #[.agg #[.int .i64 a0_0, .int .i64 a0_1, .int .i64 a0_2, .int .i64 a0_3, .int .i64 a0_4, .bool a0_5]] rfl (by (try simp only [List.map_toArray, List.map_cons, List.map_nil]); first | done | rfl | (simp only [List.length_drop, List.length_take]; rfl)) ?_; (with_reducible refine (spec_ConnOk.calls k a0_0 a0_1 a0_2 a0_3 a0_4 a0_5 false _ A8.out).mono ?_); rintro e w17 ⟨rfl, hb⟩; refine ⟨_, rfl, ?_⟩; have n0_ := Aside0.mk (blk_below (bl_ BK122.out) hb); have n1_ := Aside0.mk (blk_below (bl_ BK123.out) hb); have n2_ := Aside0.mk (below_step (be_ HB.out) hb); clear BK122 BK123 HB; have BK122 := n0_; have BK123 := n1_; have HB := n2_; clear n0_ n1_ n2_; (try clear hb); (try clear hb2); (try clear hk); (try clear hi)))
   go_meet
   case rel => exact ⟨_, (true), (by first | rfl | (simp; done) | (simp [*]; done)), H', ⟨by first | omega | exact Nat.le_refl _⟩, ⟨by refine bl_ ?_; exact BK122.out⟩, ⟨by refine bl_ ?_; exact BK123.out⟩, ⟨be_ HB.out⟩⟩
 case rest =>
  clear HC5
  try clear c1
  try clear c2
  try clear p2
  try clear c9
  try clear c11
  try clear c15
  try clear c16
  try clear hcz12_0
  try clear hcz12_1
  try clear hcz12_2
  try clear hcz12_3
  try clear hcz12_4
  try clear hcz12_5
  try clear hcz14_0
  try clear hcz14_1
  try clear hcz14_2
  try clear hcz14_3
  try clear hcz14_4
  try clear hcz14_5
  try clear hcz16_0
  try clear hcz16_1
  try clear hcz16_2
  try clear hcz16_3
  try clear hcz16_4
  try clear hcz16_5
  try clear hfz12_0
  try clear hfz12_1
  try clear hfz12_2
  try clear hfz12_3
  try clear hfz12_4
  try clear hfz12_5
  try clear hfz14_0
  try clear hfz14_1
  try clear hfz14_2
  try clear hfz14_3
  try clear hfz14_4
  try clear hfz14_5
  try clear hfz16_0
  try clear hfz16_1
  try clear hfz16_2
  try clear hfz16_3
  try clear hfz16_4
  try clear hfz16_5
  obtain ⟨kq, x21_4, rfl, HA, HJ4, BK122, BK123, HB⟩ := hcut
  cases kq with
  | zero => exact absurd HA.out (by simp [spec_StepConn.j0])
  | succ kj4 =>
   have H := HA.out
   clear HA
   simp only [spec_StepConn.j0] at H
   by_cases c18 : x21_4 = true
   ·
    subst c18
    have H1 : (some (a0_0, a0_1, a0_2, a0_3, a0_4, a0_5, false)) = some (r1, r2, r3, r4, r5, r6, r7) := by rw [if_pos rfl] at H; exact H
    clear H
    have H := H1
    clear H1
    simp only [Option.some.injEq, Prod.mk.injEq] at H
    obtain ⟨rfl, rfl, rfl, rfl, rfl, rfl, rfl⟩ := H
    have hnb19 := NB122_123.out
    have hnc19 := NB123_122.out
    obtain ⟨hcz20_0, hcz20_1, hcz20_2, hcz20_3, hcz20_4, hcz20_5, hfz20_0, hfz20_1, hfz20_2, hfz20_3, hfz20_4, hfz20_5⟩ := cz6_ BK122.out
    obtain ⟨hcz21_0, hcz21_1, hcz21_2, hcz21_3, hcz21_4, hcz21_5, hfz21_0, hfz21_1, hfz21_2, hfz21_3, hfz21_4, hfz21_5⟩ := cz6_ BK123.out
    go_wp2
    refine bodyPost_ret (results_ct rfl _ _ gb123 25 #[.int .i64 a0_0, .int .i64 a0_1, .int .i64 a0_2, .int .i64 a0_3, .int .i64 a0_4, .bool a0_5] (0, 0) _ rfl (by refine bl_ ?_; refine blk_put (cs := #[.int .i64 a0_0, .int .i64 a0_1, .int .i64 a0_2, .int .i64 a0_3, .int .i64 a0_4, .bool false]) ?_ 5 _ rfl; refine bl_ ?_; refine blk_put (cs := #[.int .i64 a0_0, .int .i64 a0_1, .int .i64 a0_2, .int .i64 a0_3, .int .i64 0, .bool false]) ?_ 4 _ rfl; refine bl_ ?_; refine blk_put (cs := #[.int .i64 a0_0, .int .i64 a0_1, .int .i64 a0_2, .int .i64 0, .int .i64 0, .bool false]) ?_ 3 _ rfl; refine bl_ ?_; refine blk_put (cs := #[.int .i64 a0_0, .int .i64 a0_1, .int .i64 0, .int .i64 0, .int .i64 0, .bool false]) ?_ 2 _ rfl; refine bl_ ?_; refine blk_put (cs := #[.int .i64 a0_0, .int .i64 0, .int .i64 0, .int .i64 0, .int .i64 0, .bool false]) ?_ 1 _ rfl; refine bl_ ?_; refine blk_put (cs := #[.int .i64 0, .int .i64 0, .int .i64 0, .int .i64 0, .int .i64 0, .bool false]) ?_ 0 _ rfl; refine bl_ ?_; exact BK123.out) Try.underlying25 rfl (by kernel_rfl)) rfl ?_
    exact ⟨by first | rfl | (simp [errW_none, errW_some] <;> rfl) | (simp [*, errW_none, errW_some] <;> rfl), be_ HB.out⟩
   ·
    replace c18 := Bool.eq_false_iff.mpr c18
    subst c18
    have H1 : ((spec_l08To.f kj4 a0_1 a1).bind fun t126 => (if t126 < 0 then (spec_StepConn.j1 kj4 a1 a2 a3 t126 true a0_0 a0_1 a0_2 a0_3 a0_4 a0_5) else (if a1 = 2 then ((spec_l01In.f a3 1 1000000000).bind fun t127 => (spec_StepConn.j1 kj4 a1 a2 a3 t126 (!t127) a0_0 a0_1 a0_2 a0_3 a0_4 a0_5)) else (spec_StepConn.j1 kj4 a1 a2 a3 t126 false a0_0 a0_1 a0_2 a0_3 a0_4 a0_5)))) = some (r1, r2, r3, r4, r5, r6, r7) := by rw [if_neg (show ¬ (false = true) by decide)] at H; exact H
    clear H
    have H := H1
    clear H1
    replace H := Option.bind_eq_some_iff.mp H
    obtain ⟨t126, A220, H⟩ := H
    replace H : (if t126 < 0 then (spec_StepConn.j1 kj4 a1 a2 a3 t126 true a0_0 a0_1 a0_2 a0_3 a0_4 a0_5) else (if a1 = 2 then ((spec_l01In.f a3 1 1000000000).bind fun t127 => (spec_StepConn.j1 kj4 a1 a2 a3 t126 (!t127) a0_0 a0_1 a0_2 a0_3 a0_4 a0_5)) else (spec_StepConn.j1 kj4 a1 a2 a3 t126 false a0_0 a0_1 a0_2 a0_3 a0_4 a0_5))) = some (r1, r2, r3, r4, r5, r6, r7) := H
    have A22 := Aside0.mk A220
    clear A220
    have HC23 := Aside0.mk H
    clear H
    have hnb24 := NB122_123.out
    have hnc24 := NB123_122.out
    obtain ⟨hcz25_0, hcz25_1, hcz25_2, hcz25_3, hcz25_4, hcz25_5, hfz25_0, hfz25_1, hfz25_2, hfz25_3, hfz25_4, hfz25_5⟩ := cz6_ BK122.out
    go_upto_region 4 with (first | ((with_reducible refine gate_callee (f := 23) rfl ?_); refine goesL_ (some 26) rfl rfl Try.func23 (by kernel_rfl) rfl #[.int .i64 a0_1, .int .i64 a1] rfl (by (try simp only [List.map_toArray, List.map_cons, List.map_nil]); first | done | rfl | (simp only [List.length_drop, List.length_take]; rfl)) ?_; (with_reducible refine (spec_l08To.calls kj4 a0_1 a1 t126 _ A22.out).mono ?_); rintro e w26 ⟨rfl, hb⟩; refine ⟨_, rfl, ?_⟩; have n0_ := Aside0.mk (blk_below (bl_ BK122.out) hb); have n1_ := Aside0.mk (blk_below (bl_ BK123.out) hb); have n2_ := Aside0.mk (below_step (be_ HB.out) hb); clear BK122 BK123 HB; have BK122 := n0_; have BK123 := n1_; have HB := n2_; clear n0_ n1_ n2_; (try clear hb); (try clear hb2); (try clear hk); (try clear hi)))
    (try simp only [Act.put, List.setIfInBounds_toArray, List.set_cons_zero, List.set_cons_succ])
    go_cut [37] (fun zv37 wc => ∃ (kq : Nat) (x37_22 : Bool), zv37 = .bool x37_22 ∧ Aside0 (spec_StepConn.j1 kq a1 a2 a3 t126 x37_22 a0_0 a0_1 a0_2 a0_3 a0_4 a0_5 = some (r1, r2, r3, r4, r5, r6, r7)) ∧ Aside0 (kq ≤ kj4) ∧ Aside0 (wc.heap[gb122]? = some (.cells #[.int .i64 a0_0, .int .i64 a0_1, .int .i64 a0_2, .int .i64 a0_3, .int .i64 a0_4, .bool a0_5] 25 (0, 0))) ∧ Aside0 (wc.heap[gb123]? = some (.cells #[.int .i64 0, .int .i64 0, .int .i64 0, .int .i64 0, .int .i64 0, .bool false] 25 (0, 0))) ∧ Aside0 (Below w.heap.size w wc))
    case first =>
     have H := HC23.out
     clear HC23
     by_cases c27 : t126 < 0
     ·
      rw [if_pos c27] at H
      have c27b0 : decide (t126 < 0) = true := decide_eq_true c27
      clear c27
      (first | rw [c27b0] | (simp only [i64_w, i32_w]; rw [c27b0]) | skip)
      have H' := Aside0.mk H
      clear H
      go_wp2
      go_meet
      case rel => exact ⟨_, (true), (by first | rfl | (simp; done) | (simp [*]; done)), H', ⟨by have := HJ4.out; first | omega | exact Nat.le_refl _⟩, ⟨by refine bl_ ?_; exact BK122.out⟩, ⟨by refine bl_ ?_; exact BK123.out⟩, ⟨be_ HB.out⟩⟩
     ·
      rw [if_neg c27] at H
      have c27b0 : decide (t126 < 0) = false := decide_eq_false c27
      clear c27
      (first | rw [c27b0] | (simp only [i64_w, i32_w]; rw [c27b0]) | skip)
      by_cases c28 : a1 = 2
      ·
       rw [if_pos c28] at H
       have c28b0 : (a1 == 2) = true := beq_iff_eq.mpr c28
       have c28b1 : (a1 != 2) = false := bne_eq_false_iff_eq.mpr c28
       clear c28
       replace H := Option.bind_eq_some_iff.mp H
       obtain ⟨t127, A290, H⟩ := H
       replace H : (spec_StepConn.j1 kj4 a1 a2 a3 t126 (!t127) a0_0 a0_1 a0_2 a0_3 a0_4 a0_5) = some (r1, r2, r3, r4, r5, r6, r7) := H
       have A29 := Aside0.mk A290
       clear A290
       have H' := Aside0.mk H
       clear H
       go_wp2_with (first | (go_at_call 22; (with_reducible refine (spec_l01In.calls a3 1 1000000000 t127 _ A29.out).mono ?_); rintro e w' ⟨rfl, ⟨nd, rfl⟩⟩))
       go_meet
       case rel => exact ⟨_, (!t127), (by first | rfl | (simp; done) | (simp [*]; done)), H', ⟨by have := HJ4.out; first | omega | exact Nat.le_refl _⟩, ⟨by refine bl_ ?_; exact BK122.out⟩, ⟨by refine bl_ ?_; exact BK123.out⟩, ⟨be_ HB.out⟩⟩
      ·
       rw [if_neg c28] at H
       have c28b0 : (a1 == 2) = false := beq_eq_false_iff_ne.mpr c28
       have c28b1 : (a1 != 2) = true := bne_iff_ne.mpr c28
       have H' := Aside0.mk H
       clear H
       go_wp2
       go_meet
       case rel => exact ⟨_, (false), (by first | rfl | (simp; done) | (simp [*]; done)), H', ⟨by have := HJ4.out; first | omega | exact Nat.le_refl _⟩, ⟨by refine bl_ ?_; exact BK122.out⟩, ⟨by refine bl_ ?_; exact BK123.out⟩, ⟨be_ HB.out⟩⟩
    case rest =>
     clear HC23
     try clear c1
     try clear c2
     try clear p2
     try clear c9
     try clear c11
     try clear c15
     try clear c16
     try clear c18
     try clear c19
     try clear c21
     try clear c23
     try clear c24
     try clear c27
     try clear c27b0
     try clear c28
     try clear c28b0
     try clear c28b1
     try clear hcz12_0
     try clear hcz12_1
     try clear hcz12_2
     try clear hcz12_3
     try clear hcz12_4
     try clear hcz12_5
     try clear hcz14_0
     try clear hcz14_1
     try clear hcz14_2
     try clear hcz14_3
     try clear hcz14_4
     try clear hcz14_5
     try clear hcz16_0
     try clear hcz16_1
     try clear hcz16_2
     try clear hcz16_3
     try clear hcz16_4
     try clear hcz16_5
     try clear hcz20_0
     try clear hcz20_1
     try clear hcz20_2
     try clear hcz20_3
     try clear hcz20_4
     try clear hcz20_5
     try clear hcz21_0
     try clear hcz21_1
     try clear hcz21_2
     try clear hcz21_3
     try clear hcz21_4
     try clear hcz21_5
     try clear hcz25_0
     try clear hcz25_1
     try clear hcz25_2
     try clear hcz25_3
     try clear hcz25_4
     try clear hcz25_5
     try clear hfz12_0
     try clear hfz12_1
     try clear hfz12_2
     try clear hfz12_3
     try clear hfz12_4
     try clear hfz12_5
     try clear hfz14_0
     try clear hfz14_1
     try clear hfz14_2
     try clear hfz14_3
     try clear hfz14_4
     try clear hfz14_5
     try clear hfz16_0
     try clear hfz16_1
     try clear hfz16_2
     try clear hfz16_3
     try clear hfz16_4
     try clear hfz16_5
     try clear hfz20_0
     try clear hfz20_1
     try clear hfz20_2
     try clear hfz20_3
     try clear hfz20_4
     try clear hfz20_5
     try clear hfz21_0
     try clear hfz21_1
     try clear hfz21_2
     try clear hfz21_3
     try clear hfz21_4
     try clear hfz21_5
     try clear hfz25_0
     try clear hfz25_1
     try clear hfz25_2
     try clear hfz25_3
     try clear hfz25_4
     try clear hfz25_5
     try clear p2
     obtain ⟨kq, x37_22, rfl, HA, HJ22, BK122, BK123, HB⟩ := hcut
     cases kq with
     | zero => exact absurd HA.out (by simp [spec_StepConn.j1])
     | succ kj22 =>
      have H := HA.out
      clear HA
      simp only [spec_StepConn.j1] at H
      by_cases c30 : x37_22 = true
      ·
       subst c30
       have H1 : (some (a0_0, a0_1, a0_2, a0_3, a0_4, a0_5, false)) = some (r1, r2, r3, r4, r5, r6, r7) := by rw [if_pos rfl] at H; exact H
       clear H
       have H := H1
       clear H1
       simp only [Option.some.injEq, Prod.mk.injEq] at H
       obtain ⟨rfl, rfl, rfl, rfl, rfl, rfl, rfl⟩ := H
       have hnb31 := NB122_123.out
       have hnc31 := NB123_122.out
       obtain ⟨hcz32_0, hcz32_1, hcz32_2, hcz32_3, hcz32_4, hcz32_5, hfz32_0, hfz32_1, hfz32_2, hfz32_3, hfz32_4, hfz32_5⟩ := cz6_ BK122.out
       obtain ⟨hcz33_0, hcz33_1, hcz33_2, hcz33_3, hcz33_4, hcz33_5, hfz33_0, hfz33_1, hfz33_2, hfz33_3, hfz33_4, hfz33_5⟩ := cz6_ BK123.out
       go_wp2
       refine bodyPost_ret (results_ct rfl _ _ gb123 25 #[.int .i64 a0_0, .int .i64 a0_1, .int .i64 a0_2, .int .i64 a0_3, .int .i64 a0_4, .bool a0_5] (0, 0) _ rfl (by refine bl_ ?_; refine blk_put (cs := #[.int .i64 a0_0, .int .i64 a0_1, .int .i64 a0_2, .int .i64 a0_3, .int .i64 a0_4, .bool false]) ?_ 5 _ rfl; refine bl_ ?_; refine blk_put (cs := #[.int .i64 a0_0, .int .i64 a0_1, .int .i64 a0_2, .int .i64 a0_3, .int .i64 0, .bool false]) ?_ 4 _ rfl; refine bl_ ?_; refine blk_put (cs := #[.int .i64 a0_0, .int .i64 a0_1, .int .i64 a0_2, .int .i64 0, .int .i64 0, .bool false]) ?_ 3 _ rfl; refine bl_ ?_; refine blk_put (cs := #[.int .i64 a0_0, .int .i64 a0_1, .int .i64 0, .int .i64 0, .int .i64 0, .bool false]) ?_ 2 _ rfl; refine bl_ ?_; refine blk_put (cs := #[.int .i64 a0_0, .int .i64 0, .int .i64 0, .int .i64 0, .int .i64 0, .bool false]) ?_ 1 _ rfl; refine bl_ ?_; refine blk_put (cs := #[.int .i64 0, .int .i64 0, .int .i64 0, .int .i64 0, .int .i64 0, .bool false]) ?_ 0 _ rfl; refine bl_ ?_; exact BK123.out) Try.underlying25 rfl (by kernel_rfl)) rfl ?_
       exact ⟨by first | rfl | (simp [errW_none, errW_some] <;> rfl) | (simp [*, errW_none, errW_some] <;> rfl), be_ HB.out⟩
      ·
       replace c30 := Bool.eq_false_iff.mpr c30
       subst c30
       have H1 : (if a1 = 0 then (if a1 = 2 then (some (a0_0, t126, a2, a2, a3, false, true)) else (some (a0_0, t126, a2, a2, 0, false, true))) else (if a1 = 2 then (some (a0_0, t126, a0_2, a2, a3, false, true)) else (some (a0_0, t126, a0_2, a2, 0, false, true)))) = some (r1, r2, r3, r4, r5, r6, r7) := by rw [if_neg (show ¬ (false = true) by decide)] at H; exact H
       clear H
       have H := H1
       clear H1
       by_cases c34 : a1 = 0
       ·
        rw [if_pos c34] at H
        have c34b0 : (a1 == 0) = true := beq_iff_eq.mpr c34
        have c34b1 : (a1 != 0) = false := bne_eq_false_iff_eq.mpr c34
        clear c34
        by_cases c35 : a1 = 2
        ·
         rw [if_pos c35] at H
         exact absurd ((beq_iff_eq.mp c34b0).symm.trans c35) (by decide)
        ·
         rw [if_neg c35] at H
         have c35b0 : (a1 == 2) = false := beq_eq_false_iff_ne.mpr c35
         have c35b1 : (a1 != 2) = true := bne_iff_ne.mpr c35
         simp only [Option.some.injEq, Prod.mk.injEq] at H
         obtain ⟨rfl, rfl, rfl, rfl, rfl, rfl, rfl⟩ := H
         have hnb43 := NB122_123.out
         have hnc43 := NB123_122.out
         obtain ⟨hcz44_0, hcz44_1, hcz44_2, hcz44_3, hcz44_4, hcz44_5, hfz44_0, hfz44_1, hfz44_2, hfz44_3, hfz44_4, hfz44_5⟩ := cz6_ BK122.out
         go_wp2_with (first | ((with_reducible refine gate_dst (N := 11) rfl ?_); refine box_event ?hg (N := 11) ?hd (cs := #[.int .i64 0, .int .i64 0, .int .i64 0, .int .i64 0, .int .i64 0, .bool false]) (t := 25) ?hr ?_; (case hd => rfl); (case hg => rfl); (case hr => first | (go_simp; done) | (go_simp; rfl)); intro gb128 hg w45 hbox hb; have n0_ := Aside0.mk (blk_below (bl_ BK122.out) hb); have n1_ := Aside0.mk (blk_below (bl_ BK123.out) hb); have n2_ := Aside0.mk (below_step (be_ HB.out) hb); have n3_ := Aside0.mk (hbox); have n4_ := Aside0.mk ((by rw [hg]; exact (below_size (be_ HB.out)) : w.heap.size ≤ gb128)); have n5_ := Aside0.mk ((by rw [hg]; exact (below_size (be_ HB.out)) : w.heap.size ≤ gb128)); have n6_ := Aside0.mk ((by rw [hg]; exact Nat.ne_of_lt (blk_lt (g := gb122) (o := .cells #[.int .i64 a0_0, .int .i64 a0_1, .int .i64 a0_2, .int .i64 a0_3, .int .i64 a0_4, .bool a0_5] 25 (0, 0)) (bl_ BK122.out)) : gb122 ≠ gb128)); have n7_ := Aside0.mk ((by rw [hg]; exact Nat.ne_of_gt (blk_lt (g := gb122) (o := .cells #[.int .i64 a0_0, .int .i64 a0_1, .int .i64 a0_2, .int .i64 a0_3, .int .i64 a0_4, .bool a0_5] 25 (0, 0)) (bl_ BK122.out)) : gb128 ≠ gb122)); have n8_ := Aside0.mk ((by rw [hg]; exact Nat.ne_of_lt (blk_lt (g := gb123) (o := .cells #[.int .i64 0, .int .i64 0, .int .i64 0, .int .i64 0, .int .i64 0, .bool false] 25 (0, 0)) (bl_ BK123.out)) : gb123 ≠ gb128)); have n9_ := Aside0.mk ((by rw [hg]; exact Nat.ne_of_gt (blk_lt (g := gb123) (o := .cells #[.int .i64 0, .int .i64 0, .int .i64 0, .int .i64 0, .int .i64 0, .bool false] 25 (0, 0)) (bl_ BK123.out)) : gb128 ≠ gb123)); clear BK122 BK123 HB; have BK122 := n0_; have BK123 := n1_; have HB := n2_; have BK128 := n3_; have GW128 := n4_; have GE128 := n5_; have NB122_128 := n6_; have NB128_122 := n7_; have NB123_128 := n8_; have NB128_123 := n9_; clear n0_ n1_ n2_ n3_ n4_ n5_ n6_ n7_ n8_ n9_; clear hb hbox hg; have hnb46 := NB128_122.out; have hnc46 := NB122_128.out; have hnb47 := NB128_123.out; have hnc47 := NB123_128.out; obtain ⟨hcz48_0, hcz48_1, hcz48_2, hcz48_3, hcz48_4, hcz48_5, hfz48_0, hfz48_1, hfz48_2, hfz48_3, hfz48_4, hfz48_5⟩ := cz6_ BK128.out; obtain ⟨hcz49_0, hcz49_1, hcz49_2, hcz49_3, hcz49_4, hcz49_5, hfz49_0, hfz49_1, hfz49_2, hfz49_3, hfz49_4, hfz49_5⟩ := cz6_ BK123.out) | ((with_reducible refine gate_store (t := 25) (p := 11) rfl ?_); refine store_event (t := 25) (p := 11) (v := ?vo_w904) (w1 := ((((((w45.setCell ⟨gb128, 0, none⟩ (.int .i64 a0_0)).setCell ⟨gb128, 1, none⟩ (.int .i64 t126)).setCell ⟨gb128, 2, none⟩ (.int .i64 a0_2)).setCell ⟨gb128, 3, none⟩ (.int .i64 a2)).setCell ⟨gb128, 4, none⟩ (.int .i64 0)).setCell ⟨gb128, 5, none⟩ (.bool false))) ?hg ?ho ?hn ?hr ?_; (case ho => rfl); (case hg => rfl); (case hn => rfl); (case hr => first | (go_simp; done) | (go_simp; rfl)); intro w904 hw; have n0_ : Aside0 (w904.heap[gb122]? = some (.cells #[.int .i64 a0_0, .int .i64 a0_1, .int .i64 a0_2, .int .i64 a0_3, .int .i64 a0_4, .bool a0_5] 25 (0, 0))) := ⟨(by rw [hw]; exact (by refine blk_far ?_ NB122_128.out _; refine blk_far ?_ NB122_128.out _; refine blk_far ?_ NB122_128.out _; refine blk_far ?_ NB122_128.out _; refine blk_far ?_ NB122_128.out _; refine blk_far ?_ NB122_128.out _; exact BK122.out))⟩; have n1_ : Aside0 (w904.heap[gb123]? = some (.cells #[.int .i64 0, .int .i64 0, .int .i64 0, .int .i64 0, .int .i64 0, .bool false] 25 (0, 0))) := ⟨(by rw [hw]; exact (by refine blk_far ?_ NB123_128.out _; refine blk_far ?_ NB123_128.out _; refine blk_far ?_ NB123_128.out _; refine blk_far ?_ NB123_128.out _; refine blk_far ?_ NB123_128.out _; refine blk_far ?_ NB123_128.out _; exact BK123.out))⟩; have n2_ : Aside0 (w904.heap[gb128]? = some (.cells #[.int .i64 a0_0, .int .i64 t126, .int .i64 a0_2, .int .i64 a2, .int .i64 0, .bool false] 25 (0, 0))) := ⟨(by rw [hw]; exact (by refine blk_put (cs := #[.int .i64 a0_0, .int .i64 t126, .int .i64 a0_2, .int .i64 a2, .int .i64 0, .bool false]) ?_ 5 _ rfl; refine blk_put (cs := #[.int .i64 a0_0, .int .i64 t126, .int .i64 a0_2, .int .i64 a2, .int .i64 0, .bool false]) ?_ 4 _ rfl; refine blk_put (cs := #[.int .i64 a0_0, .int .i64 t126, .int .i64 a0_2, .int .i64 0, .int .i64 0, .bool false]) ?_ 3 _ rfl; refine blk_put (cs := #[.int .i64 a0_0, .int .i64 t126, .int .i64 0, .int .i64 0, .int .i64 0, .bool false]) ?_ 2 _ rfl; refine blk_put (cs := #[.int .i64 a0_0, .int .i64 0, .int .i64 0, .int .i64 0, .int .i64 0, .bool false]) ?_ 1 _ rfl; refine blk_put (cs := #[.int .i64 0, .int .i64 0, .int .i64 0, .int .i64 0, .int .i64 0, .bool false]) ?_ 0 _ rfl; exact BK128.out))⟩; have n3_ : Aside0 (Below w.heap.size w w904) := ⟨(by rw [hw]; exact (be_ HB.out))⟩; clear hw BK122 BK123 BK128 HB; have BK122 := n0_; have BK123 := n1_; have BK128 := n2_; have HB := n3_; clear n0_ n1_ n2_ n3_; obtain ⟨hcz9040_0, hcz9040_1, hcz9040_2, hcz9040_3, hcz9040_4, hcz9040_5, hfz9040_0, hfz9040_1, hfz9040_2, hfz9040_3, hfz9040_4, hfz9040_5⟩ := cz6_ BK122.out; obtain ⟨hcz9041_0, hcz9041_1, hcz9041_2, hcz9041_3, hcz9041_4, hcz9041_5, hfz9041_0, hfz9041_1, hfz9041_2, hfz9041_3, hfz9041_4, hfz9041_5⟩ := cz6_ BK123.out; obtain ⟨hcz9042_0, hcz9042_1, hcz9042_2, hcz9042_3, hcz9042_4, hcz9042_5, hfz9042_0, hfz9042_1, hfz9042_2, hfz9042_3, hfz9042_4, hfz9042_5⟩ := cz6_ BK128.out) | ((with_reducible refine gate_store (t := 3) (p := 49) rfl ?_); refine store_event (t := 3) (p := 49) (v := ?vo_w905) (w1 := (w904.setCell ⟨gb128, 2, none⟩ (.int .i64 a2))) ?hg ?ho ?hn ?hr ?_; (case ho => rfl); (case hg => rfl); (case hn => rfl); (case hr => first | (go_simp; done) | (go_simp; rfl)); intro w905 hw; have n0_ : Aside0 (w905.heap[gb122]? = some (.cells #[.int .i64 a0_0, .int .i64 a0_1, .int .i64 a0_2, .int .i64 a0_3, .int .i64 a0_4, .bool a0_5] 25 (0, 0))) := ⟨(by rw [hw]; exact (by refine blk_far ?_ NB122_128.out _; exact BK122.out))⟩; have n1_ : Aside0 (w905.heap[gb123]? = some (.cells #[.int .i64 0, .int .i64 0, .int .i64 0, .int .i64 0, .int .i64 0, .bool false] 25 (0, 0))) := ⟨(by rw [hw]; exact (by refine blk_far ?_ NB123_128.out _; exact BK123.out))⟩; have n2_ : Aside0 (w905.heap[gb128]? = some (.cells #[.int .i64 a0_0, .int .i64 t126, .int .i64 a2, .int .i64 a2, .int .i64 0, .bool false] 25 (0, 0))) := ⟨(by rw [hw]; exact (by refine blk_put (cs := #[.int .i64 a0_0, .int .i64 t126, .int .i64 a0_2, .int .i64 a2, .int .i64 0, .bool false]) ?_ 2 _ rfl; exact BK128.out))⟩; have n3_ : Aside0 (Below w.heap.size w w905) := ⟨(by rw [hw]; exact (be_ HB.out))⟩; clear hw BK122 BK123 BK128 HB; have BK122 := n0_; have BK123 := n1_; have BK128 := n2_; have HB := n3_; clear n0_ n1_ n2_ n3_; obtain ⟨hcz9050_0, hcz9050_1, hcz9050_2, hcz9050_3, hcz9050_4, hcz9050_5, hfz9050_0, hfz9050_1, hfz9050_2, hfz9050_3, hfz9050_4, hfz9050_5⟩ := cz6_ BK122.out; obtain ⟨hcz9051_0, hcz9051_1, hcz9051_2, hcz9051_3, hcz9051_4, hcz9051_5, hfz9051_0, hfz9051_1, hfz9051_2, hfz9051_3, hfz9051_4, hfz9051_5⟩ := cz6_ BK123.out; obtain ⟨hcz9052_0, hcz9052_1, hcz9052_2, hcz9052_3, hcz9052_4, hcz9052_5, hfz9052_0, hfz9052_1, hfz9052_2, hfz9052_3, hfz9052_4, hfz9052_5⟩ := cz6_ BK128.out))
         refine bodyPost_ret (results_ct rfl _ _ gb123 25 #[.int .i64 a0_0, .int .i64 t126, .int .i64 a2, .int .i64 a2, .int .i64 0, .bool false] (0, 0) _ rfl (by refine bl_ ?_; refine blk_put (cs := #[.int .i64 a0_0, .int .i64 t126, .int .i64 a2, .int .i64 a2, .int .i64 0, .bool false]) ?_ 5 _ rfl; refine bl_ ?_; refine blk_put (cs := #[.int .i64 a0_0, .int .i64 t126, .int .i64 a2, .int .i64 a2, .int .i64 0, .bool false]) ?_ 4 _ rfl; refine bl_ ?_; refine blk_put (cs := #[.int .i64 a0_0, .int .i64 t126, .int .i64 a2, .int .i64 0, .int .i64 0, .bool false]) ?_ 3 _ rfl; refine bl_ ?_; refine blk_put (cs := #[.int .i64 a0_0, .int .i64 t126, .int .i64 0, .int .i64 0, .int .i64 0, .bool false]) ?_ 2 _ rfl; refine bl_ ?_; refine blk_put (cs := #[.int .i64 a0_0, .int .i64 0, .int .i64 0, .int .i64 0, .int .i64 0, .bool false]) ?_ 1 _ rfl; refine bl_ ?_; refine blk_put (cs := #[.int .i64 0, .int .i64 0, .int .i64 0, .int .i64 0, .int .i64 0, .bool false]) ?_ 0 _ rfl; exact BK123.out) Try.underlying25 rfl (by kernel_rfl)) rfl ?_
         exact ⟨by first | rfl | (simp [errW_none, errW_some] <;> rfl) | (simp [*, errW_none, errW_some] <;> rfl), be_ HB.out⟩
       ·
        rw [if_neg c34] at H
        have c34b0 : (a1 == 0) = false := beq_eq_false_iff_ne.mpr c34
        have c34b1 : (a1 != 0) = true := bne_iff_ne.mpr c34
        by_cases c50 : a1 = 2
        ·
         rw [if_pos c50] at H
         have c50b0 : (a1 == 2) = true := beq_iff_eq.mpr c50
         have c50b1 : (a1 != 2) = false := bne_eq_false_iff_eq.mpr c50
         clear c50
         simp only [Option.some.injEq, Prod.mk.injEq] at H
         obtain ⟨rfl, rfl, rfl, rfl, rfl, rfl, rfl⟩ := H
         have hnb51 := NB122_123.out
         have hnc51 := NB123_122.out
         obtain ⟨hcz52_0, hcz52_1, hcz52_2, hcz52_3, hcz52_4, hcz52_5, hfz52_0, hfz52_1, hfz52_2, hfz52_3, hfz52_4, hfz52_5⟩ := cz6_ BK122.out
         go_wp2_with (first | ((with_reducible refine gate_dst (N := 11) rfl ?_); refine box_event ?hg (N := 11) ?hd (cs := #[.int .i64 0, .int .i64 0, .int .i64 0, .int .i64 0, .int .i64 0, .bool false]) (t := 25) ?hr ?_; (case hd => rfl); (case hg => rfl); (case hr => first | (go_simp; done) | (go_simp; rfl)); intro gb128 hg w53 hbox hb; have n0_ := Aside0.mk (blk_below (bl_ BK122.out) hb); have n1_ := Aside0.mk (blk_below (bl_ BK123.out) hb); have n2_ := Aside0.mk (below_step (be_ HB.out) hb); have n3_ := Aside0.mk (hbox); have n4_ := Aside0.mk ((by rw [hg]; exact (below_size (be_ HB.out)) : w.heap.size ≤ gb128)); have n5_ := Aside0.mk ((by rw [hg]; exact (below_size (be_ HB.out)) : w.heap.size ≤ gb128)); have n6_ := Aside0.mk ((by rw [hg]; exact Nat.ne_of_lt (blk_lt (g := gb122) (o := .cells #[.int .i64 a0_0, .int .i64 a0_1, .int .i64 a0_2, .int .i64 a0_3, .int .i64 a0_4, .bool a0_5] 25 (0, 0)) (bl_ BK122.out)) : gb122 ≠ gb128)); have n7_ := Aside0.mk ((by rw [hg]; exact Nat.ne_of_gt (blk_lt (g := gb122) (o := .cells #[.int .i64 a0_0, .int .i64 a0_1, .int .i64 a0_2, .int .i64 a0_3, .int .i64 a0_4, .bool a0_5] 25 (0, 0)) (bl_ BK122.out)) : gb128 ≠ gb122)); have n8_ := Aside0.mk ((by rw [hg]; exact Nat.ne_of_lt (blk_lt (g := gb123) (o := .cells #[.int .i64 0, .int .i64 0, .int .i64 0, .int .i64 0, .int .i64 0, .bool false] 25 (0, 0)) (bl_ BK123.out)) : gb123 ≠ gb128)); have n9_ := Aside0.mk ((by rw [hg]; exact Nat.ne_of_gt (blk_lt (g := gb123) (o := .cells #[.int .i64 0, .int .i64 0, .int .i64 0, .int .i64 0, .int .i64 0, .bool false] 25 (0, 0)) (bl_ BK123.out)) : gb128 ≠ gb123)); clear BK122 BK123 HB; have BK122 := n0_; have BK123 := n1_; have HB := n2_; have BK128 := n3_; have GW128 := n4_; have GE128 := n5_; have NB122_128 := n6_; have NB128_122 := n7_; have NB123_128 := n8_; have NB128_123 := n9_; clear n0_ n1_ n2_ n3_ n4_ n5_ n6_ n7_ n8_ n9_; clear hb hbox hg; have hnb54 := NB128_122.out; have hnc54 := NB122_128.out; have hnb55 := NB128_123.out; have hnc55 := NB123_128.out; obtain ⟨hcz56_0, hcz56_1, hcz56_2, hcz56_3, hcz56_4, hcz56_5, hfz56_0, hfz56_1, hfz56_2, hfz56_3, hfz56_4, hfz56_5⟩ := cz6_ BK128.out; obtain ⟨hcz57_0, hcz57_1, hcz57_2, hcz57_3, hcz57_4, hcz57_5, hfz57_0, hfz57_1, hfz57_2, hfz57_3, hfz57_4, hfz57_5⟩ := cz6_ BK123.out) | ((with_reducible refine gate_store (t := 25) (p := 11) rfl ?_); refine store_event (t := 25) (p := 11) (v := ?vo_w906) (w1 := ((((((w53.setCell ⟨gb128, 0, none⟩ (.int .i64 a0_0)).setCell ⟨gb128, 1, none⟩ (.int .i64 t126)).setCell ⟨gb128, 2, none⟩ (.int .i64 a0_2)).setCell ⟨gb128, 3, none⟩ (.int .i64 a2)).setCell ⟨gb128, 4, none⟩ (.int .i64 0)).setCell ⟨gb128, 5, none⟩ (.bool false))) ?hg ?ho ?hn ?hr ?_; (case ho => rfl); (case hg => rfl); (case hn => rfl); (case hr => first | (go_simp; done) | (go_simp; rfl)); intro w906 hw; have n0_ : Aside0 (w906.heap[gb122]? = some (.cells #[.int .i64 a0_0, .int .i64 a0_1, .int .i64 a0_2, .int .i64 a0_3, .int .i64 a0_4, .bool a0_5] 25 (0, 0))) := ⟨(by rw [hw]; exact (by refine blk_far ?_ NB122_128.out _; refine blk_far ?_ NB122_128.out _; refine blk_far ?_ NB122_128.out _; refine blk_far ?_ NB122_128.out _; refine blk_far ?_ NB122_128.out _; refine blk_far ?_ NB122_128.out _; exact BK122.out))⟩; have n1_ : Aside0 (w906.heap[gb123]? = some (.cells #[.int .i64 0, .int .i64 0, .int .i64 0, .int .i64 0, .int .i64 0, .bool false] 25 (0, 0))) := ⟨(by rw [hw]; exact (by refine blk_far ?_ NB123_128.out _; refine blk_far ?_ NB123_128.out _; refine blk_far ?_ NB123_128.out _; refine blk_far ?_ NB123_128.out _; refine blk_far ?_ NB123_128.out _; refine blk_far ?_ NB123_128.out _; exact BK123.out))⟩; have n2_ : Aside0 (w906.heap[gb128]? = some (.cells #[.int .i64 a0_0, .int .i64 t126, .int .i64 a0_2, .int .i64 a2, .int .i64 0, .bool false] 25 (0, 0))) := ⟨(by rw [hw]; exact (by refine blk_put (cs := #[.int .i64 a0_0, .int .i64 t126, .int .i64 a0_2, .int .i64 a2, .int .i64 0, .bool false]) ?_ 5 _ rfl; refine blk_put (cs := #[.int .i64 a0_0, .int .i64 t126, .int .i64 a0_2, .int .i64 a2, .int .i64 0, .bool false]) ?_ 4 _ rfl; refine blk_put (cs := #[.int .i64 a0_0, .int .i64 t126, .int .i64 a0_2, .int .i64 0, .int .i64 0, .bool false]) ?_ 3 _ rfl; refine blk_put (cs := #[.int .i64 a0_0, .int .i64 t126, .int .i64 0, .int .i64 0, .int .i64 0, .bool false]) ?_ 2 _ rfl; refine blk_put (cs := #[.int .i64 a0_0, .int .i64 0, .int .i64 0, .int .i64 0, .int .i64 0, .bool false]) ?_ 1 _ rfl; refine blk_put (cs := #[.int .i64 0, .int .i64 0, .int .i64 0, .int .i64 0, .int .i64 0, .bool false]) ?_ 0 _ rfl; exact BK128.out))⟩; have n3_ : Aside0 (Below w.heap.size w w906) := ⟨(by rw [hw]; exact (be_ HB.out))⟩; clear hw BK122 BK123 BK128 HB; have BK122 := n0_; have BK123 := n1_; have BK128 := n2_; have HB := n3_; clear n0_ n1_ n2_ n3_; obtain ⟨hcz9060_0, hcz9060_1, hcz9060_2, hcz9060_3, hcz9060_4, hcz9060_5, hfz9060_0, hfz9060_1, hfz9060_2, hfz9060_3, hfz9060_4, hfz9060_5⟩ := cz6_ BK122.out; obtain ⟨hcz9061_0, hcz9061_1, hcz9061_2, hcz9061_3, hcz9061_4, hcz9061_5, hfz9061_0, hfz9061_1, hfz9061_2, hfz9061_3, hfz9061_4, hfz9061_5⟩ := cz6_ BK123.out; obtain ⟨hcz9062_0, hcz9062_1, hcz9062_2, hcz9062_3, hcz9062_4, hcz9062_5, hfz9062_0, hfz9062_1, hfz9062_2, hfz9062_3, hfz9062_4, hfz9062_5⟩ := cz6_ BK128.out) | ((with_reducible refine gate_store (t := 3) (p := 53) rfl ?_); refine store_event (t := 3) (p := 53) (v := ?vo_w907) (w1 := (w906.setCell ⟨gb128, 4, none⟩ (.int .i64 a3))) ?hg ?ho ?hn ?hr ?_; (case ho => rfl); (case hg => rfl); (case hn => rfl); (case hr => first | (go_simp; done) | (go_simp; rfl)); intro w907 hw; have n0_ : Aside0 (w907.heap[gb122]? = some (.cells #[.int .i64 a0_0, .int .i64 a0_1, .int .i64 a0_2, .int .i64 a0_3, .int .i64 a0_4, .bool a0_5] 25 (0, 0))) := ⟨(by rw [hw]; exact (by refine blk_far ?_ NB122_128.out _; exact BK122.out))⟩; have n1_ : Aside0 (w907.heap[gb123]? = some (.cells #[.int .i64 0, .int .i64 0, .int .i64 0, .int .i64 0, .int .i64 0, .bool false] 25 (0, 0))) := ⟨(by rw [hw]; exact (by refine blk_far ?_ NB123_128.out _; exact BK123.out))⟩; have n2_ : Aside0 (w907.heap[gb128]? = some (.cells #[.int .i64 a0_0, .int .i64 t126, .int .i64 a0_2, .int .i64 a2, .int .i64 a3, .bool false] 25 (0, 0))) := ⟨(by rw [hw]; exact (by refine blk_put (cs := #[.int .i64 a0_0, .int .i64 t126, .int .i64 a0_2, .int .i64 a2, .int .i64 0, .bool false]) ?_ 4 _ rfl; exact BK128.out))⟩; have n3_ : Aside0 (Below w.heap.size w w907) := ⟨(by rw [hw]; exact (be_ HB.out))⟩; clear hw BK122 BK123 BK128 HB; have BK122 := n0_; have BK123 := n1_; have BK128 := n2_; have HB := n3_; clear n0_ n1_ n2_ n3_; obtain ⟨hcz9070_0, hcz9070_1, hcz9070_2, hcz9070_3, hcz9070_4, hcz9070_5, hfz9070_0, hfz9070_1, hfz9070_2, hfz9070_3, hfz9070_4, hfz9070_5⟩ := cz6_ BK122.out; obtain ⟨hcz9071_0, hcz9071_1, hcz9071_2, hcz9071_3, hcz9071_4, hcz9071_5, hfz9071_0, hfz9071_1, hfz9071_2, hfz9071_3, hfz9071_4, hfz9071_5⟩ := cz6_ BK123.out; obtain ⟨hcz9072_0, hcz9072_1, hcz9072_2, hcz9072_3, hcz9072_4, hcz9072_5, hfz9072_0, hfz9072_1, hfz9072_2, hfz9072_3, hfz9072_4, hfz9072_5⟩ := cz6_ BK128.out))
         refine bodyPost_ret (results_ct rfl _ _ gb123 25 #[.int .i64 a0_0, .int .i64 t126, .int .i64 a0_2, .int .i64 a2, .int .i64 a3, .bool false] (0, 0) _ rfl (by refine bl_ ?_; refine blk_put (cs := #[.int .i64 a0_0, .int .i64 t126, .int .i64 a0_2, .int .i64 a2, .int .i64 a3, .bool false]) ?_ 5 _ rfl; refine bl_ ?_; refine blk_put (cs := #[.int .i64 a0_0, .int .i64 t126, .int .i64 a0_2, .int .i64 a2, .int .i64 0, .bool false]) ?_ 4 _ rfl; refine bl_ ?_; refine blk_put (cs := #[.int .i64 a0_0, .int .i64 t126, .int .i64 a0_2, .int .i64 0, .int .i64 0, .bool false]) ?_ 3 _ rfl; refine bl_ ?_; refine blk_put (cs := #[.int .i64 a0_0, .int .i64 t126, .int .i64 0, .int .i64 0, .int .i64 0, .bool false]) ?_ 2 _ rfl; refine bl_ ?_; refine blk_put (cs := #[.int .i64 a0_0, .int .i64 0, .int .i64 0, .int .i64 0, .int .i64 0, .bool false]) ?_ 1 _ rfl; refine bl_ ?_; refine blk_put (cs := #[.int .i64 0, .int .i64 0, .int .i64 0, .int .i64 0, .int .i64 0, .bool false]) ?_ 0 _ rfl; exact BK123.out) Try.underlying25 rfl (by kernel_rfl)) rfl ?_
         exact ⟨by first | rfl | (simp [errW_none, errW_some] <;> rfl) | (simp [*, errW_none, errW_some] <;> rfl), be_ HB.out⟩
        ·
         rw [if_neg c50] at H
         have c50b0 : (a1 == 2) = false := beq_eq_false_iff_ne.mpr c50
         have c50b1 : (a1 != 2) = true := bne_iff_ne.mpr c50
         simp only [Option.some.injEq, Prod.mk.injEq] at H
         obtain ⟨rfl, rfl, rfl, rfl, rfl, rfl, rfl⟩ := H
         have hnb58 := NB122_123.out
         have hnc58 := NB123_122.out
         obtain ⟨hcz59_0, hcz59_1, hcz59_2, hcz59_3, hcz59_4, hcz59_5, hfz59_0, hfz59_1, hfz59_2, hfz59_3, hfz59_4, hfz59_5⟩ := cz6_ BK122.out
         go_wp2_with (first | ((with_reducible refine gate_dst (N := 11) rfl ?_); refine box_event ?hg (N := 11) ?hd (cs := #[.int .i64 0, .int .i64 0, .int .i64 0, .int .i64 0, .int .i64 0, .bool false]) (t := 25) ?hr ?_; (case hd => rfl); (case hg => rfl); (case hr => first | (go_simp; done) | (go_simp; rfl)); intro gb128 hg w60 hbox hb; have n0_ := Aside0.mk (blk_below (bl_ BK122.out) hb); have n1_ := Aside0.mk (blk_below (bl_ BK123.out) hb); have n2_ := Aside0.mk (below_step (be_ HB.out) hb); have n3_ := Aside0.mk (hbox); have n4_ := Aside0.mk ((by rw [hg]; exact (below_size (be_ HB.out)) : w.heap.size ≤ gb128)); have n5_ := Aside0.mk ((by rw [hg]; exact (below_size (be_ HB.out)) : w.heap.size ≤ gb128)); have n6_ := Aside0.mk ((by rw [hg]; exact Nat.ne_of_lt (blk_lt (g := gb122) (o := .cells #[.int .i64 a0_0, .int .i64 a0_1, .int .i64 a0_2, .int .i64 a0_3, .int .i64 a0_4, .bool a0_5] 25 (0, 0)) (bl_ BK122.out)) : gb122 ≠ gb128)); have n7_ := Aside0.mk ((by rw [hg]; exact Nat.ne_of_gt (blk_lt (g := gb122) (o := .cells #[.int .i64 a0_0, .int .i64 a0_1, .int .i64 a0_2, .int .i64 a0_3, .int .i64 a0_4, .bool a0_5] 25 (0, 0)) (bl_ BK122.out)) : gb128 ≠ gb122)); have n8_ := Aside0.mk ((by rw [hg]; exact Nat.ne_of_lt (blk_lt (g := gb123) (o := .cells #[.int .i64 0, .int .i64 0, .int .i64 0, .int .i64 0, .int .i64 0, .bool false] 25 (0, 0)) (bl_ BK123.out)) : gb123 ≠ gb128)); have n9_ := Aside0.mk ((by rw [hg]; exact Nat.ne_of_gt (blk_lt (g := gb123) (o := .cells #[.int .i64 0, .int .i64 0, .int .i64 0, .int .i64 0, .int .i64 0, .bool false] 25 (0, 0)) (bl_ BK123.out)) : gb128 ≠ gb123)); clear BK122 BK123 HB; have BK122 := n0_; have BK123 := n1_; have HB := n2_; have BK128 := n3_; have GW128 := n4_; have GE128 := n5_; have NB122_128 := n6_; have NB128_122 := n7_; have NB123_128 := n8_; have NB128_123 := n9_; clear n0_ n1_ n2_ n3_ n4_ n5_ n6_ n7_ n8_ n9_; clear hb hbox hg; have hnb61 := NB128_122.out; have hnc61 := NB122_128.out; have hnb62 := NB128_123.out; have hnc62 := NB123_128.out; obtain ⟨hcz63_0, hcz63_1, hcz63_2, hcz63_3, hcz63_4, hcz63_5, hfz63_0, hfz63_1, hfz63_2, hfz63_3, hfz63_4, hfz63_5⟩ := cz6_ BK128.out; obtain ⟨hcz64_0, hcz64_1, hcz64_2, hcz64_3, hcz64_4, hcz64_5, hfz64_0, hfz64_1, hfz64_2, hfz64_3, hfz64_4, hfz64_5⟩ := cz6_ BK123.out) | ((with_reducible refine gate_store (t := 25) (p := 11) rfl ?_); refine store_event (t := 25) (p := 11) (v := ?vo_w908) (w1 := ((((((w60.setCell ⟨gb128, 0, none⟩ (.int .i64 a0_0)).setCell ⟨gb128, 1, none⟩ (.int .i64 t126)).setCell ⟨gb128, 2, none⟩ (.int .i64 a0_2)).setCell ⟨gb128, 3, none⟩ (.int .i64 a2)).setCell ⟨gb128, 4, none⟩ (.int .i64 0)).setCell ⟨gb128, 5, none⟩ (.bool false))) ?hg ?ho ?hn ?hr ?_; (case ho => rfl); (case hg => rfl); (case hn => rfl); (case hr => first | (go_simp; done) | (go_simp; rfl)); intro w908 hw; have n0_ : Aside0 (w908.heap[gb122]? = some (.cells #[.int .i64 a0_0, .int .i64 a0_1, .int .i64 a0_2, .int .i64 a0_3, .int .i64 a0_4, .bool a0_5] 25 (0, 0))) := ⟨(by rw [hw]; exact (by refine blk_far ?_ NB122_128.out _; refine blk_far ?_ NB122_128.out _; refine blk_far ?_ NB122_128.out _; refine blk_far ?_ NB122_128.out _; refine blk_far ?_ NB122_128.out _; refine blk_far ?_ NB122_128.out _; exact BK122.out))⟩; have n1_ : Aside0 (w908.heap[gb123]? = some (.cells #[.int .i64 0, .int .i64 0, .int .i64 0, .int .i64 0, .int .i64 0, .bool false] 25 (0, 0))) := ⟨(by rw [hw]; exact (by refine blk_far ?_ NB123_128.out _; refine blk_far ?_ NB123_128.out _; refine blk_far ?_ NB123_128.out _; refine blk_far ?_ NB123_128.out _; refine blk_far ?_ NB123_128.out _; refine blk_far ?_ NB123_128.out _; exact BK123.out))⟩; have n2_ : Aside0 (w908.heap[gb128]? = some (.cells #[.int .i64 a0_0, .int .i64 t126, .int .i64 a0_2, .int .i64 a2, .int .i64 0, .bool false] 25 (0, 0))) := ⟨(by rw [hw]; exact (by refine blk_put (cs := #[.int .i64 a0_0, .int .i64 t126, .int .i64 a0_2, .int .i64 a2, .int .i64 0, .bool false]) ?_ 5 _ rfl; refine blk_put (cs := #[.int .i64 a0_0, .int .i64 t126, .int .i64 a0_2, .int .i64 a2, .int .i64 0, .bool false]) ?_ 4 _ rfl; refine blk_put (cs := #[.int .i64 a0_0, .int .i64 t126, .int .i64 a0_2, .int .i64 0, .int .i64 0, .bool false]) ?_ 3 _ rfl; refine blk_put (cs := #[.int .i64 a0_0, .int .i64 t126, .int .i64 0, .int .i64 0, .int .i64 0, .bool false]) ?_ 2 _ rfl; refine blk_put (cs := #[.int .i64 a0_0, .int .i64 0, .int .i64 0, .int .i64 0, .int .i64 0, .bool false]) ?_ 1 _ rfl; refine blk_put (cs := #[.int .i64 0, .int .i64 0, .int .i64 0, .int .i64 0, .int .i64 0, .bool false]) ?_ 0 _ rfl; exact BK128.out))⟩; have n3_ : Aside0 (Below w.heap.size w w908) := ⟨(by rw [hw]; exact (be_ HB.out))⟩; clear hw BK122 BK123 BK128 HB; have BK122 := n0_; have BK123 := n1_; have BK128 := n2_; have HB := n3_; clear n0_ n1_ n2_ n3_; obtain ⟨hcz9080_0, hcz9080_1, hcz9080_2, hcz9080_3, hcz9080_4, hcz9080_5, hfz9080_0, hfz9080_1, hfz9080_2, hfz9080_3, hfz9080_4, hfz9080_5⟩ := cz6_ BK122.out; obtain ⟨hcz9081_0, hcz9081_1, hcz9081_2, hcz9081_3, hcz9081_4, hcz9081_5, hfz9081_0, hfz9081_1, hfz9081_2, hfz9081_3, hfz9081_4, hfz9081_5⟩ := cz6_ BK123.out; obtain ⟨hcz9082_0, hcz9082_1, hcz9082_2, hcz9082_3, hcz9082_4, hcz9082_5, hfz9082_0, hfz9082_1, hfz9082_2, hfz9082_3, hfz9082_4, hfz9082_5⟩ := cz6_ BK128.out))
         refine bodyPost_ret (results_ct rfl _ _ gb123 25 #[.int .i64 a0_0, .int .i64 t126, .int .i64 a0_2, .int .i64 a2, .int .i64 0, .bool false] (0, 0) _ rfl (by refine bl_ ?_; refine blk_put (cs := #[.int .i64 a0_0, .int .i64 t126, .int .i64 a0_2, .int .i64 a2, .int .i64 0, .bool false]) ?_ 5 _ rfl; refine bl_ ?_; refine blk_put (cs := #[.int .i64 a0_0, .int .i64 t126, .int .i64 a0_2, .int .i64 a2, .int .i64 0, .bool false]) ?_ 4 _ rfl; refine bl_ ?_; refine blk_put (cs := #[.int .i64 a0_0, .int .i64 t126, .int .i64 a0_2, .int .i64 0, .int .i64 0, .bool false]) ?_ 3 _ rfl; refine bl_ ?_; refine blk_put (cs := #[.int .i64 a0_0, .int .i64 t126, .int .i64 0, .int .i64 0, .int .i64 0, .bool false]) ?_ 2 _ rfl; refine bl_ ?_; refine blk_put (cs := #[.int .i64 a0_0, .int .i64 0, .int .i64 0, .int .i64 0, .int .i64 0, .bool false]) ?_ 1 _ rfl; refine bl_ ?_; refine blk_put (cs := #[.int .i64 0, .int .i64 0, .int .i64 0, .int .i64 0, .int .i64 0, .bool false]) ?_ 0 _ rfl; exact BK123.out) Try.underlying25 rfl (by kernel_rfl)) rfl ?_
         exact ⟨by first | rfl | (simp [errW_none, errW_some] <;> rfl) | (simp [*, errW_none, errW_some] <;> rfl), be_ HB.out⟩

end Go.Proofs.Ythafbkpoepblgad.MFnExactPlayConn
