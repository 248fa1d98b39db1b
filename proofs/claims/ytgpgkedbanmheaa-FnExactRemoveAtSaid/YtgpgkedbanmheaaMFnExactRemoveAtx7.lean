-- Written by a program of this session over the kit's print, with stand-ins for the functions that the print leaves; Lean checks it.
import Derived.Test.YtgpgkedbanmheaaMFnExactRemoveAtx0
import Derived.Test.YtgpgkedbanmheaaMFnExactRemoveAtx6
namespace Go.Proofs.Ytgpgkedbanmheaa.MFnExactRemoveAt
open Go.RowKit Go.Proofs.YtgpgkedbanmheaaW.PrintWords Go.Proofs.YtgpgkedbanmheaaW.PrintLast Go.Proofs.YtgpgkedbanmheaaW.PrintMore
attribute [local go_sem] max2_int min2_int max_two min_two max_three min_three max_four min_four   -- for this text's walks alone
set_option linter.unusedVariables false
set_option linter.unusedSimpArgs false

/-! ### spec_QueueOk: function 24 -/
mutual
def spec_QueueOk.j0 : Nat → Bool → List (S65) → Int → Int → Int → Int → Option (Bool)
  | 0, _, _, _, _, _, _ => none
  | k + 1, x20, x205000, x205001, x205002, x205003, x205004 => if x20 = true then (some false) else (if 60 ≤ 281474976710656 then (spec_QueueOk.l0 k (List.replicate 60 false) (([] : List Int)) 0 (-1) x205001 x205000 x205001 x205002 x205003 x205004) else (none))
def spec_QueueOk.l0 : Nat → List Bool → List Int → Int → Int → Int → List (S65) → Int → Int → Int → Int → Option (Bool)
  | 0, _, _, _, _, _, _, _, _, _, _ => none
  | k + 1, x3, x4, x5, x6, x7, x205000, x205001, x205002, x205003, x205004 => if x7 = (-1) then (if x5 = x205004 then (spec_QueueOk.j3 k x3 x5 (x205002 != x6) x205000 x205001 x205002 x205003 x205004) else (spec_QueueOk.j3 k x3 x5 true x205000 x205001 x205002 x205003 x205004)) else ((spec_l01In.f x7 0 59).bind fun t212 => (if t212 = true then (if 0 ≤ x7 then (if x7 < (x3.length : Int) then (spec_QueueOk.j2 k x3 x4 x5 x6 x7 (rdOf false x3 x7) x205000 x205001 x205002 x205003 x205004) else (none)) else (none)) else (spec_QueueOk.j2 k x3 x4 x5 x6 x7 true x205000 x205001 x205002 x205003 x205004)))
def spec_QueueOk.j3 : Nat → List Bool → Int → Bool → List (S65) → Int → Int → Int → Int → Option (Bool)
  | 0, _, _, _, _, _, _, _, _ => none
  | k + 1, x3, x5, x88, x205000, x205001, x205002, x205003, x205004 => if x88 = true then (some false) else (spec_QueueOk.l1 k x3 x5 x205003 x205000 x205001 x205002 x205003 x205004)
def spec_QueueOk.l1 : Nat → List Bool → Int → Int → List (S65) → Int → Int → Int → Int → Option (Bool)
  | 0, _, _, _, _, _, _, _, _ => none
  | k + 1, x3, x5, x9, x205000, x205001, x205002, x205003, x205004 => if x9 = (-1) then (some (x5 == 60)) else ((spec_l01In.f x9 0 59).bind fun t223 => (if t223 = true then (if 0 ≤ x9 then (if x9 < (x3.length : Int) then (spec_QueueOk.j5 k x3 x5 x9 (rdOf false x3 x9) x205000 x205001 x205002 x205003 x205004) else (none)) else (none)) else (spec_QueueOk.j5 k x3 x5 x9 true x205000 x205001 x205002 x205003 x205004)))
def spec_QueueOk.j5 : Nat → List Bool → Int → Int → Bool → List (S65) → Int → Int → Int → Int → Option (Bool)
  | 0, _, _, _, _, _, _, _, _, _ => none
  | k + 1, x3, x5, x9, x107, x205000, x205001, x205002, x205003, x205004 => if x107 = true then (some false) else (if 0 ≤ x9 then (if x9 < (x205000.length : Int) then (if (rd_T65 x205000 x9).f3 = true then (some false) else (if ((rd_T65 x205000 x9).f0) = 0 then (if ((rd_T65 x205000 x9).f1) = (-1) then (if x9 < (x3.length : Int) then (spec_QueueOk.l1 k (x3.set (x9 : Int).toNat true) (wrap64 (x5 + 1)) ((rd_T65 x205000 x9).f2) x205000 x205001 x205002 x205003 x205004) else (none)) else (some false)) else (some false))) else (none)) else (none))
def spec_QueueOk.j2 : Nat → List Bool → List Int → Int → Int → Int → Bool → List (S65) → Int → Int → Int → Int → Option (Bool)
  | 0, _, _, _, _, _, _, _, _, _, _, _ => none
  | k + 1, x3, x4, x5, x6, x7, x41, x205000, x205001, x205002, x205003, x205004 => if x41 = true then (some false) else (if 0 ≤ x7 then (if x7 < (x205000.length : Int) then (if ((rd_T65 x205000 x7).f3 = true) then (if ((rd_T65 x205000 x7).f1) = x6 then ((spec_l01In.f ((rd_T65 x205000 x7).f0) 1 1000000000).bind fun t216 => (if t216 = true then ((spec_l01Has.f k x4 ((rd_T65 x205000 x7).f0)).bind fun t217 => (if t217 = true then (some false) else (if x7 < (x3.length : Int) then (if x4.length < 17592186044416 then (spec_QueueOk.l0 k (x3.set (x7 : Int).toNat true) (x4 ++ [(rd_T65 x205000 x7).f0]) (wrap64 (x5 + 1)) x7 ((rd_T65 x205000 x7).f2) x205000 x205001 x205002 x205003 x205004) else (none)) else (none)))) else (some false))) else (some false)) else (some false)) else (none)) else (none))
end
def spec_QueueOk.f (k : Nat) (l0_0 : List (S65)) (a0_1 : Int) (a0_2 : Int) (a0_3 : Int) (a0_4 : Int) : Option (Bool) := if (l0_0.length : Int) = 60 then ((spec_l01In.f a0_4 0 60).bind fun t205 => (spec_QueueOk.j0 k (!t205) l0_0 a0_1 a0_2 a0_3 a0_4)) else (spec_QueueOk.j0 k true l0_0 a0_1 a0_2 a0_3 a0_4)
theorem spec_QueueOk.mono_l : ∀ k, (∀ y0 y1 y2 y3 y4 y5, LeO (spec_QueueOk.j0 k y0 y1 y2 y3 y4 y5) (spec_QueueOk.j0 (k + 1) y0 y1 y2 y3 y4 y5)) ∧ (∀ y0 y1 y2 y3 y4 y5 y6 y7 y8 y9, LeO (spec_QueueOk.l0 k y0 y1 y2 y3 y4 y5 y6 y7 y8 y9) (spec_QueueOk.l0 (k + 1) y0 y1 y2 y3 y4 y5 y6 y7 y8 y9)) ∧ (∀ y0 y1 y2 y3 y4 y5 y6 y7, LeO (spec_QueueOk.j3 k y0 y1 y2 y3 y4 y5 y6 y7) (spec_QueueOk.j3 (k + 1) y0 y1 y2 y3 y4 y5 y6 y7)) ∧ (∀ y0 y1 y2 y3 y4 y5 y6 y7, LeO (spec_QueueOk.l1 k y0 y1 y2 y3 y4 y5 y6 y7) (spec_QueueOk.l1 (k + 1) y0 y1 y2 y3 y4 y5 y6 y7)) ∧ (∀ y0 y1 y2 y3 y4 y5 y6 y7 y8, LeO (spec_QueueOk.j5 k y0 y1 y2 y3 y4 y5 y6 y7 y8) (spec_QueueOk.j5 (k + 1) y0 y1 y2 y3 y4 y5 y6 y7 y8)) ∧ (∀ y0 y1 y2 y3 y4 y5 y6 y7 y8 y9 y10, LeO (spec_QueueOk.j2 k y0 y1 y2 y3 y4 y5 y6 y7 y8 y9 y10) (spec_QueueOk.j2 (k + 1) y0 y1 y2 y3 y4 y5 y6 y7 y8 y9 y10))
  | 0 => ⟨fun _ _ _ _ _ _ r h => by simp [spec_QueueOk.j0] at h, fun _ _ _ _ _ _ _ _ _ _ r h => by simp [spec_QueueOk.l0] at h, fun _ _ _ _ _ _ _ _ r h => by simp [spec_QueueOk.j3] at h, fun _ _ _ _ _ _ _ _ r h => by simp [spec_QueueOk.l1] at h, fun _ _ _ _ _ _ _ _ _ r h => by simp [spec_QueueOk.j5] at h, fun _ _ _ _ _ _ _ _ _ _ _ r h => by simp [spec_QueueOk.j2] at h⟩
  | k + 1 => by
    obtain ⟨ih0, ih1, ih2, ih3, ih4, ih5⟩ := spec_QueueOk.mono_l k
    refine ⟨?_, ?_, ?_, ?_, ?_, ?_⟩
    · intro y0 y1 y2 y3 y4 y5
      unfold spec_QueueOk.j0
      repeat' first
      | (with_reducible exact ih0 _ _ _ _ _ _)
      | (with_reducible exact ih1 _ _ _ _ _ _ _ _ _ _)
      | (with_reducible exact ih2 _ _ _ _ _ _ _ _)
      | (with_reducible exact ih3 _ _ _ _ _ _ _ _)
      | (with_reducible exact ih4 _ _ _ _ _ _ _ _ _)
      | (with_reducible exact ih5 _ _ _ _ _ _ _ _ _ _ _)
      | (with_reducible exact spec_l01Has.mono _ _ _)
      | (with_reducible exact LeO.refl _)
      | (with_reducible exact LeO.none _)
      | (with_reducible refine LeO.ite ?_ ?_)
      | (with_reducible refine LeO.bind ?_ (fun _ => ?_))
      | exact ih0 _ _ _ _ _ _
      | exact ih1 _ _ _ _ _ _ _ _ _ _
      | exact ih2 _ _ _ _ _ _ _ _
      | exact ih3 _ _ _ _ _ _ _ _
      | exact ih4 _ _ _ _ _ _ _ _ _
      | exact ih5 _ _ _ _ _ _ _ _ _ _ _
      | exact spec_l01Has.mono _ _ _
      | exact LeO.none _
      | refine LeO.ite ?_ ?_
      | refine LeO.bind ?_ (fun _ => ?_)
    · intro y0 y1 y2 y3 y4 y5 y6 y7 y8 y9
      unfold spec_QueueOk.l0
      repeat' first
      | (with_reducible exact ih0 _ _ _ _ _ _)
      | (with_reducible exact ih1 _ _ _ _ _ _ _ _ _ _)
      | (with_reducible exact ih2 _ _ _ _ _ _ _ _)
      | (with_reducible exact ih3 _ _ _ _ _ _ _ _)
      | (with_reducible exact ih4 _ _ _ _ _ _ _ _ _)
      | (with_reducible exact ih5 _ _ _ _ _ _ _ _ _ _ _)
      | (with_reducible exact spec_l01Has.mono _ _ _)
      | (with_reducible exact LeO.refl _)
      | (with_reducible exact LeO.none _)
      | (with_reducible refine LeO.ite ?_ ?_)
      | (with_reducible refine LeO.bind ?_ (fun _ => ?_))
      | exact ih0 _ _ _ _ _ _
      | exact ih1 _ _ _ _ _ _ _ _ _ _
      | exact ih2 _ _ _ _ _ _ _ _
      | exact ih3 _ _ _ _ _ _ _ _
      | exact ih4 _ _ _ _ _ _ _ _ _
      | exact ih5 _ _ _ _ _ _ _ _ _ _ _
      | exact spec_l01Has.mono _ _ _
      | exact LeO.none _
      | refine LeO.ite ?_ ?_
      | refine LeO.bind ?_ (fun _ => ?_)
    · intro y0 y1 y2 y3 y4 y5 y6 y7
      unfold spec_QueueOk.j3
      repeat' first
      | (with_reducible exact ih0 _ _ _ _ _ _)
      | (with_reducible exact ih1 _ _ _ _ _ _ _ _ _ _)
      | (with_reducible exact ih2 _ _ _ _ _ _ _ _)
      | (with_reducible exact ih3 _ _ _ _ _ _ _ _)
      | (with_reducible exact ih4 _ _ _ _ _ _ _ _ _)
      | (with_reducible exact ih5 _ _ _ _ _ _ _ _ _ _ _)
      | (with_reducible exact spec_l01Has.mono _ _ _)
      | (with_reducible exact LeO.refl _)
      | (with_reducible exact LeO.none _)
      | (with_reducible refine LeO.ite ?_ ?_)
      | (with_reducible refine LeO.bind ?_ (fun _ => ?_))
      | exact ih0 _ _ _ _ _ _
      | exact ih1 _ _ _ _ _ _ _ _ _ _
      | exact ih2 _ _ _ _ _ _ _ _
      | exact ih3 _ _ _ _ _ _ _ _
      | exact ih4 _ _ _ _ _ _ _ _ _
      | exact ih5 _ _ _ _ _ _ _ _ _ _ _
      | exact spec_l01Has.mono _ _ _
      | exact LeO.none _
      | refine LeO.ite ?_ ?_
      | refine LeO.bind ?_ (fun _ => ?_)
    · intro y0 y1 y2 y3 y4 y5 y6 y7
      unfold spec_QueueOk.l1
      repeat' first
      | (with_reducible exact ih0 _ _ _ _ _ _)
      | (with_reducible exact ih1 _ _ _ _ _ _ _ _ _ _)
      | (with_reducible exact ih2 _ _ _ _ _ _ _ _)
      | (with_reducible exact ih3 _ _ _ _ _ _ _ _)
      | (with_reducible exact ih4 _ _ _ _ _ _ _ _ _)
      | (with_reducible exact ih5 _ _ _ _ _ _ _ _ _ _ _)
      | (with_reducible exact spec_l01Has.mono _ _ _)
      | (with_reducible exact LeO.refl _)
      | (with_reducible exact LeO.none _)
      | (with_reducible refine LeO.ite ?_ ?_)
      | (with_reducible refine LeO.bind ?_ (fun _ => ?_))
      | exact ih0 _ _ _ _ _ _
      | exact ih1 _ _ _ _ _ _ _ _ _ _
      | exact ih2 _ _ _ _ _ _ _ _
      | exact ih3 _ _ _ _ _ _ _ _
      | exact ih4 _ _ _ _ _ _ _ _ _
      | exact ih5 _ _ _ _ _ _ _ _ _ _ _
      | exact spec_l01Has.mono _ _ _
      | exact LeO.none _
      | refine LeO.ite ?_ ?_
      | refine LeO.bind ?_ (fun _ => ?_)
    · intro y0 y1 y2 y3 y4 y5 y6 y7 y8
      unfold spec_QueueOk.j5
      repeat' first
      | (with_reducible exact ih0 _ _ _ _ _ _)
      | (with_reducible exact ih1 _ _ _ _ _ _ _ _ _ _)
      | (with_reducible exact ih2 _ _ _ _ _ _ _ _)
      | (with_reducible exact ih3 _ _ _ _ _ _ _ _)
      | (with_reducible exact ih4 _ _ _ _ _ _ _ _ _)
      | (with_reducible exact ih5 _ _ _ _ _ _ _ _ _ _ _)
      | (with_reducible exact spec_l01Has.mono _ _ _)
      | (with_reducible exact LeO.refl _)
      | (with_reducible exact LeO.none _)
      | (with_reducible refine LeO.ite ?_ ?_)
      | (with_reducible refine LeO.bind ?_ (fun _ => ?_))
      | exact ih0 _ _ _ _ _ _
      | exact ih1 _ _ _ _ _ _ _ _ _ _
      | exact ih2 _ _ _ _ _ _ _ _
      | exact ih3 _ _ _ _ _ _ _ _
      | exact ih4 _ _ _ _ _ _ _ _ _
      | exact ih5 _ _ _ _ _ _ _ _ _ _ _
      | exact spec_l01Has.mono _ _ _
      | exact LeO.none _
      | refine LeO.ite ?_ ?_
      | refine LeO.bind ?_ (fun _ => ?_)
    · intro y0 y1 y2 y3 y4 y5 y6 y7 y8 y9 y10
      unfold spec_QueueOk.j2
      repeat' first
      | (with_reducible exact ih0 _ _ _ _ _ _)
      | (with_reducible exact ih1 _ _ _ _ _ _ _ _ _ _)
      | (with_reducible exact ih2 _ _ _ _ _ _ _ _)
      | (with_reducible exact ih3 _ _ _ _ _ _ _ _)
      | (with_reducible exact ih4 _ _ _ _ _ _ _ _ _)
      | (with_reducible exact ih5 _ _ _ _ _ _ _ _ _ _ _)
      | (with_reducible exact spec_l01Has.mono _ _ _)
      | (with_reducible exact LeO.refl _)
      | (with_reducible exact LeO.none _)
      | (with_reducible refine LeO.ite ?_ ?_)
      | (with_reducible refine LeO.bind ?_ (fun _ => ?_))
      | exact ih0 _ _ _ _ _ _
      | exact ih1 _ _ _ _ _ _ _ _ _ _
      | exact ih2 _ _ _ _ _ _ _ _
      | exact ih3 _ _ _ _ _ _ _ _
      | exact ih4 _ _ _ _ _ _ _ _ _
      | exact ih5 _ _ _ _ _ _ _ _ _ _ _
      | exact spec_l01Has.mono _ _ _
      | exact LeO.none _
      | refine LeO.ite ?_ ?_
      | refine LeO.bind ?_ (fun _ => ?_)
theorem spec_QueueOk.mono : ∀ a0 a1 a2 a3 a4 k, LeO (spec_QueueOk.f k a0 a1 a2 a3 a4) (spec_QueueOk.f (k + 1) a0 a1 a2 a3 a4) := by
  intro a0 a1 a2 a3 a4 k
  obtain ⟨ih0, ih1, ih2, ih3, ih4, ih5⟩ := spec_QueueOk.mono_l k
  unfold spec_QueueOk.f
  repeat' first
      | (with_reducible exact ih0 _ _ _ _ _ _)
      | (with_reducible exact ih1 _ _ _ _ _ _ _ _ _ _)
      | (with_reducible exact ih2 _ _ _ _ _ _ _ _)
      | (with_reducible exact ih3 _ _ _ _ _ _ _ _)
      | (with_reducible exact ih4 _ _ _ _ _ _ _ _ _)
      | (with_reducible exact ih5 _ _ _ _ _ _ _ _ _ _ _)
      | (with_reducible exact spec_l01Has.mono _ _ _)
      | (with_reducible exact LeO.refl _)
      | (with_reducible exact LeO.none _)
      | (with_reducible refine LeO.ite ?_ ?_)
      | (with_reducible refine LeO.bind ?_ (fun _ => ?_))
      | exact ih0 _ _ _ _ _ _
      | exact ih1 _ _ _ _ _ _ _ _ _ _
      | exact ih2 _ _ _ _ _ _ _ _
      | exact ih3 _ _ _ _ _ _ _ _
      | exact ih4 _ _ _ _ _ _ _ _ _
      | exact ih5 _ _ _ _ _ _ _ _ _ _ _
      | exact spec_l01Has.mono _ _ _
      | exact LeO.none _
      | refine LeO.ite ?_ ?_
      | refine LeO.bind ?_ (fun _ => ?_)
set_option maxHeartbeats 40000000 in
set_option maxRecDepth 100000 in
theorem spec_QueueOk.calls (k : Nat) (A0_0 : Option Addr) (c0_0 : Nat) (l0_0 : List (S65)) (a0_1 : Int) (a0_2 : Int) (a0_3 : Int) (a0_4 : Int) (r : Bool) (w : World) (hr0_0 : Kd.C k65 w A0_0 l0_0.length l0_0) (hc0_0 : l0_0.length ≤ c0_0) (h : spec_QueueOk.f k l0_0 a0_1 a0_2 a0_3 a0_4 = some r) :
    Calls Try.prog 24 #[.agg #[.slice A0_0 l0_0.length c0_0, .int .i64 a0_1, .int .i64 a0_2, .int .i64 a0_3, .int .i64 a0_4]] w fun e w' => e = .returned (.bool r) ∧ Below w.heap.size w w' := by
  have hu28 := Try.underlying28
  have hu65 := Try.underlying65
  have HR0_0 := Aside0.mk hr0_0
  have HC0_0 := Aside0.mk hc0_0
  clear hr0_0 hc0_0
  have HB := Aside0.mk (Below.refl w.heap.size w)
  have H : (if (l0_0.length : Int) = 60 then ((spec_l01In.f a0_4 0 60).bind fun t205 => (spec_QueueOk.j0 k (!t205) l0_0 a0_1 a0_2 a0_3 a0_4)) else (spec_QueueOk.j0 k true l0_0 a0_1 a0_2 a0_3 a0_4)) = some r := h
  clear h
  have HC2 := Aside0.mk H
  clear H
  go_enter Try.func24, Try.ntmps24
  go_upto_region 1 with (first | ((with_reducible refine gate_dst (N := 1) rfl ?_); refine box_event ?hg (N := 1) ?hd (cs := #[.slice A0_0 l0_0.length c0_0, .int .i64 a0_1, .int .i64 a0_2, .int .i64 a0_3, .int .i64 a0_4]) (t := 28) ?hr ?_; (case hd => rfl); (case hg => rfl); (case hr => first | (go_simp; done) | (go_simp; rfl)); intro gb204 hg w3 hbox hb; have n0_ := Aside0.mk (below_step (be_ HB.out) hb); have n1_ := Aside0.mk (hbox); have n2_ := Aside0.mk ((by rw [hg]; exact (below_size (be_ HB.out)) : w.heap.size ≤ gb204)); have n3_ := Aside0.mk ((by rw [hg]; exact (below_size (be_ HB.out)) : w.heap.size ≤ gb204)); clear HB; have HB := n0_; have BK204 := n1_; have GW204 := n2_; have GE204 := n3_; clear n0_ n1_ n2_ n3_; clear hb hbox hg))
  (try simp only [Act.put, List.setIfInBounds_toArray, List.set_cons_zero, List.set_cons_succ])
  go_cut [20] (fun v20 wc => ∃ (kq : Nat) (x20_1 : Bool), v20 = .bool x20_1 ∧ Aside0 (spec_QueueOk.j0 kq x20_1 l0_0 a0_1 a0_2 a0_3 a0_4 = some r) ∧ Aside0 (kq ≤ k) ∧ Aside0 (wc.heap[gb204]? = some (.cells #[(.slice A0_0 l0_0.length c0_0), .int .i64 a0_1, .int .i64 a0_2, .int .i64 a0_3, .int .i64 a0_4] 28 (0, 0))) ∧ Aside0 (Below w.heap.size w wc))
  case first =>
    have H := HC2.out
    clear HC2
    by_cases c4 : (l0_0.length : Int) = 60
    · rw [if_pos c4] at H
      have c4b0 : ((l0_0.length : Int) == 60) = true := beq_iff_eq.mpr c4
      have c4b1 : ((l0_0.length : Int) != 60) = false := bne_eq_false_iff_eq.mpr c4
      clear c4
      (first | rw [c4b0] | (simp only [i64_w, i32_w]; rw [c4b0]) | skip)
      replace H := Option.bind_eq_some_iff.mp H
      obtain ⟨t205, A50, H⟩ := H
      replace H : (spec_QueueOk.j0 k (!t205) l0_0 a0_1 a0_2 a0_3 a0_4) = some r := H
      have A5 := Aside0.mk A50
      clear A50
      have H' := Aside0.mk H
      clear H
      have hcz6_0 : w3.cell? ⟨gb204, 0, none⟩ = some (.slice A0_0 l0_0.length c0_0) := (blk_cell BK204.out 0).trans rfl
      have hcz6_1 : w3.cell? ⟨gb204, 1, none⟩ = some (.int .i64 a0_1) := (blk_cell BK204.out 1).trans rfl
      have hcz6_2 : w3.cell? ⟨gb204, 2, none⟩ = some (.int .i64 a0_2) := (blk_cell BK204.out 2).trans rfl
      have hcz6_3 : w3.cell? ⟨gb204, 3, none⟩ = some (.int .i64 a0_3) := (blk_cell BK204.out 3).trans rfl
      have hcz6_4 : w3.cell? ⟨gb204, 4, none⟩ = some (.int .i64 a0_4) := (blk_cell BK204.out 4).trans rfl
      have hfz6_0 := blk_frozen BK204.out 0
      have hfz6_1 := blk_frozen BK204.out 1
      have hfz6_2 := blk_frozen BK204.out 2
      have hfz6_3 := blk_frozen BK204.out 3
      have hfz6_4 := blk_frozen BK204.out 4
      go_wp2_with (first | (go_at_call 54; (with_reducible refine (spec_l01In.calls a0_4 0 60 t205 _ A5.out).mono ?_); rintro e w' ⟨rfl, ⟨nd, rfl⟩⟩))
      go_meet
      case rel => exact ⟨_, (!t205), (by first | rfl | (simp; done) | (simp [*]; done)), H', ⟨by first | omega | exact Nat.le_refl _⟩, ⟨by refine bl_ ?_; exact BK204.out⟩, ⟨be_ HB.out⟩⟩
    · rw [if_neg c4] at H
      have c4b0 : ((l0_0.length : Int) == 60) = false := beq_eq_false_iff_ne.mpr c4
      have c4b1 : ((l0_0.length : Int) != 60) = true := bne_iff_ne.mpr c4
      (first | rw [c4b0] | (simp only [i64_w, i32_w]; rw [c4b0]) | skip)
      have H' := Aside0.mk H
      clear H
      have hcz7_0 : w3.cell? ⟨gb204, 0, none⟩ = some (.slice A0_0 l0_0.length c0_0) := (blk_cell BK204.out 0).trans rfl
      have hcz7_1 : w3.cell? ⟨gb204, 1, none⟩ = some (.int .i64 a0_1) := (blk_cell BK204.out 1).trans rfl
      have hcz7_2 : w3.cell? ⟨gb204, 2, none⟩ = some (.int .i64 a0_2) := (blk_cell BK204.out 2).trans rfl
      have hcz7_3 : w3.cell? ⟨gb204, 3, none⟩ = some (.int .i64 a0_3) := (blk_cell BK204.out 3).trans rfl
      have hcz7_4 : w3.cell? ⟨gb204, 4, none⟩ = some (.int .i64 a0_4) := (blk_cell BK204.out 4).trans rfl
      have hfz7_0 := blk_frozen BK204.out 0
      have hfz7_1 := blk_frozen BK204.out 1
      have hfz7_2 := blk_frozen BK204.out 2
      have hfz7_3 := blk_frozen BK204.out 3
      have hfz7_4 := blk_frozen BK204.out 4
      go_wp2
      go_meet
      case rel => exact ⟨_, (true), (by first | rfl | (simp; done) | (simp [*]; done)), H', ⟨by first | omega | exact Nat.le_refl _⟩, ⟨by refine bl_ ?_; exact BK204.out⟩, ⟨be_ HB.out⟩⟩
  case rest =>
    clear HC2
    try clear c2
    try clear p2
    try clear c4
    try clear c4b0
    try clear c4b1
    try clear hcz6_0
    try clear hcz6_1
    try clear hcz6_2
    try clear hcz6_3
    try clear hcz6_4
    try clear hcz7_0
    try clear hcz7_1
    try clear hcz7_2
    try clear hcz7_3
    try clear hcz7_4
    try clear hfz6_0
    try clear hfz6_1
    try clear hfz6_2
    try clear hfz6_3
    try clear hfz6_4
    try clear hfz7_0
    try clear hfz7_1
    try clear hfz7_2
    try clear hfz7_3
    try clear hfz7_4
    obtain ⟨kq, x20_1, rfl, HA, HJ1, BK204, HB⟩ := hcut
    cases kq with
    | zero => exact absurd HA.out (by simp [spec_QueueOk.j0])
    | succ kj1 =>
      have H := HA.out
      clear HA
      simp only [spec_QueueOk.j0] at H
      by_cases c8 : x20_1 = true
      · subst c8
        have H1 : (some false) = some r := by rw [if_pos rfl] at H; exact H
        clear H
        have H := H1
        clear H1
        obtain rfl := Option.some.inj H
        go_wp2
        go_ret
        exact ⟨by first | rfl | (simp [errW_none, errW_some] <;> rfl) | (simp [*, errW_none, errW_some] <;> rfl), be_ HB.out⟩
      · replace c8 := Bool.eq_false_iff.mpr c8
        subst c8
        have H1 : (if 60 ≤ 281474976710656 then (spec_QueueOk.l0 kj1 (List.replicate 60 false) (([] : List Int)) 0 (-1) a0_1 l0_0 a0_1 a0_2 a0_3 a0_4) else (none)) = some r := by rw [if_neg (show ¬ (false = true) by decide)] at H; exact H
        clear H
        have H := H1
        clear H1
        by_cases c9 : 60 ≤ 281474976710656
        · rw [if_pos c9] at H
          have c9b0 := eq_true c9
          have c9b1 : decide (60 ≤ 281474976710656) = true := decide_eq_true c9
          clear c9
          obtain ⟨y206, hy206⟩ : ∃ y_ : List Bool, y_ = (List.replicate 60 false) := ⟨_, rfl⟩
          replace H : (spec_QueueOk.l0 kj1 y206 (([] : List Int)) 0 (-1) a0_1 l0_0 a0_1 a0_2 a0_3 a0_4) = some r := by first | (rw [hy206]; with_reducible exact H) | (have H2_ := (Option.bind_some _ _).symm.trans H; rw [hy206]; with_reducible exact H2_) | (have H2_ := (Option.bind_some _ _).symm.trans H; with_reducible exact H2_) | with_reducible exact H | (rw [hy206]; exact H) | exact H
          have Ny206 := Aside0.mk hy206
          clear hy206
          obtain ⟨y209, hy209⟩ : ∃ y_ : List Int, y_ = (([] : List Int)) := ⟨_, rfl⟩
          replace H : (spec_QueueOk.l0 kj1 y206 y209 0 (-1) a0_1 l0_0 a0_1 a0_2 a0_3 a0_4) = some r := by first | (rw [hy209]; with_reducible exact H) | (have H2_ := (Option.bind_some _ _).symm.trans H; rw [hy209]; with_reducible exact H2_) | (have H2_ := (Option.bind_some _ _).symm.trans H; with_reducible exact H2_) | with_reducible exact H | (rw [hy209]; exact H) | exact H
          have Ny209 := Aside0.mk hy209
          clear hy209
          have H' := Aside0.mk H
          clear H
          go_wp2_with (first | ((with_reducible refine gate_dst (N := 21) rfl ?_); refine Kd.R_make Kd.bool _ 4 rfl (N := 21) rfl 67 _ _ rfl 60 rfl rfl Try.underlying67 (.bool false) 1 info4 rfl (by decide) (by omega) false (ok := fun _ => True) (okp := fun _ => True) rfl (fun _ hk => hk) trivial (by omega) (by omega) (Below.refl _ _) (Nat.le_refl _) ?_; intro v207 w10 ho11 hb hg_ hnew_; clear hg_ hnew_; (first | rw [← Ny206.out] at ho11 | (simp only [Int.reduceToNat] at ho11; rw [← Ny206.out] at ho11)); have n0_ := Aside0.mk (Kd.R_lower ho11 (below_size (be_ HB.out))); have n1_ := Aside0.mk (blk_below (g := gb204) (o := .cells #[.slice A0_0 l0_0.length c0_0, .int .i64 a0_1, .int .i64 a0_2, .int .i64 a0_3, .int .i64 a0_4] 28 (0, 0)) (bl_ BK204.out) hb); have n2_ := Aside0.mk (below_step (be_ HB.out) hb); clear BK204 HB; have HO208 := n0_; have BK204 := n1_; have HB := n2_; clear n0_ n1_ n2_; clear hb ho11) | ((with_reducible refine gate_dst (N := 22) rfl ?_); refine Kd.R_lit (Kd.int .i64) _ 3 ?hg (N := 22) ?hd (xs := ([] : List Int)) (inner := []) (ok := fun _ => True) (okp := fun _ => True) ?hr ?hp (fun _ hk => hk) trivial (Below.refl _ _) (Nat.le_refl _) (by simp) ?_; (case hd => rfl); (case hg => rfl); (case hr => first | (go_simp; done) | (go_simp; rfl)); (case hp => exact (Reps.none _ _)); intro v210 w12 ho13 hb hg_ hnew_; clear hg_ hnew_; (first | rw [← Ny209.out] at ho13 | (simp only [Int.reduceToNat] at ho13; rw [← Ny209.out] at ho13)); have n0_ := Aside0.mk (Kd.R_below (ro_ HO208.out) hb); have n1_ := Aside0.mk (Kd.R_lower ho13 (below_size (be_ HB.out))); have n2_ := Aside0.mk (blk_below (g := gb204) (o := .cells #[.slice A0_0 l0_0.length c0_0, .int .i64 a0_1, .int .i64 a0_2, .int .i64 a0_3, .int .i64 a0_4] 28 (0, 0)) (bl_ BK204.out) hb); have n3_ := Aside0.mk (below_step (be_ HB.out) hb); clear HO208 BK204 HB; have HO208 := n0_; have HO211 := n1_; have BK204 := n2_; have HB := n3_; clear n0_ n1_ n2_ n3_; clear hb ho13; obtain ⟨hcz14_0, hcz14_1, hcz14_2, hcz14_3, hcz14_4, hfz14_0, hfz14_1, hfz14_2, hfz14_3, hfz14_4⟩ := cz5_ BK204.out))
          go_loopg [4, 5, 6, 7] kj1 (fun kq v4 v5 v6 v7 w' => ∃ (x3_2 : List Bool) (x4_2 : List Int) (x5_2 : Int) (x6_2 : Int) (x7_2 : Int), v5 = .int .i64 x5_2 ∧ v6 = .int .i64 x6_2 ∧ v7 = .int .i64 x7_2 ∧ Aside0 (spec_QueueOk.l0 kq x3_2 x4_2 x5_2 x6_2 x7_2 l0_0 a0_1 a0_2 a0_3 a0_4 = some r) ∧ Aside0 (kq ≤ kj1) ∧ Aside0 (Kd.R Kd.bool 4 w' w.heap.size (fun _ => True) v207 x3_2) ∧ Aside0 (Kd.R (Kd.int .i64) 3 w' w.heap.size (fun _ => True) v4 x4_2) ∧ Aside0 (w'.heap[gb204]? = some (.cells #[(.slice A0_0 l0_0.length c0_0), .int .i64 a0_1, .int .i64 a0_2, .int .i64 a0_3, .int .i64 a0_4] 28 (0, 0))) ∧ Aside0 (Below w.heap.size w w'))
          case atStart => exact ⟨(y206), (y209), (0), ((-1)), (a0_1), (by first | rfl | (simp; done) | (simp [*]; done)), (by first | rfl | (simp; done) | (simp [*]; done)), (by first | rfl | (simp; done) | (simp [*]; done)), H', ⟨Nat.le_refl _⟩, ⟨by (with_reducible repeat (first | apply Kd.R_alloc | apply Kd.R_drewN | apply Kd.R_drew)); exact HO208.out⟩, ⟨by (with_reducible repeat (first | apply Kd.R_alloc | apply Kd.R_drewN | apply Kd.R_drew)); exact HO211.out⟩, ⟨by refine bl_ ?_; exact BK204.out⟩, ⟨be_ HB.out⟩⟩
          case round =>
            clear H'
            try clear c2
            try clear p2
            try clear c4
            try clear c4b0
            try clear c4b1
            try clear c8
            try clear c9
            try clear c9b0
            try clear c9b1
            try clear hcz14_0
            try clear hcz14_1
            try clear hcz14_2
            try clear hcz14_3
            try clear hcz14_4
            try clear hcz6_0
            try clear hcz6_1
            try clear hcz6_2
            try clear hcz6_3
            try clear hcz6_4
            try clear hcz7_0
            try clear hcz7_1
            try clear hcz7_2
            try clear hcz7_3
            try clear hcz7_4
            try clear hfz14_0
            try clear hfz14_1
            try clear hfz14_2
            try clear hfz14_3
            try clear hfz14_4
            try clear hfz6_0
            try clear hfz6_1
            try clear hfz6_2
            try clear hfz6_3
            try clear hfz6_4
            try clear hfz7_0
            try clear hfz7_1
            try clear hfz7_2
            try clear hfz7_3
            try clear hfz7_4
            try clear p2
            obtain ⟨x3_2, x4_2, x5_2, x6_2, x7_2, rfl, rfl, rfl, HA, HK2, HO_3, HO_4, BK204, HB⟩ := hrel
            cases gk with
            | zero => exact absurd HA.out (by simp [spec_QueueOk.l0])
            | succ k2 =>
              have H := HA.out
              clear HA
              simp only [spec_QueueOk.l0] at H
              by_cases c15 : x7_2 = (-1)
              · rw [if_pos c15] at H
                have c15b0 : (x7_2 == (-1)) = true := beq_iff_eq.mpr c15
                have c15b1 : (x7_2 != (-1)) = false := bne_eq_false_iff_eq.mpr c15
                clear c15
                have HC16 := Aside0.mk H
                clear H
                go_upto_region 19 with (fail)
                go_cut [88] (fun v88 wc => ∃ (kq : Nat) (x88_15 : Bool), v88 = .bool x88_15 ∧ Aside0 (spec_QueueOk.j3 kq x3_2 x5_2 x88_15 l0_0 a0_1 a0_2 a0_3 a0_4 = some r) ∧ Aside0 (kq ≤ k2) ∧ Aside0 (Kd.R Kd.bool 4 wc w.heap.size (fun _ => True) v207 x3_2) ∧ Aside0 (wc.heap[gb204]? = some (.cells #[(.slice A0_0 l0_0.length c0_0), .int .i64 a0_1, .int .i64 a0_2, .int .i64 a0_3, .int .i64 a0_4] 28 (0, 0))) ∧ Aside0 (Below w.heap.size w wc))
                case first =>
                  have H := HC16.out
                  clear HC16
                  by_cases c17 : x5_2 = a0_4
                  · rw [if_pos c17] at H
                    have c17b0 : (x5_2 == a0_4) = true := beq_iff_eq.mpr c17
                    have c17b1 : (x5_2 != a0_4) = false := bne_eq_false_iff_eq.mpr c17
                    clear c17
                    (first | rw [c17b0] | (simp only [i64_w, i32_w]; rw [c17b0]) | skip)
                    have H' := Aside0.mk H
                    clear H
                    have hcz18_0 : wr.cell? ⟨gb204, 0, none⟩ = some (.slice A0_0 l0_0.length c0_0) := (blk_cell BK204.out 0).trans rfl
                    have hcz18_1 : wr.cell? ⟨gb204, 1, none⟩ = some (.int .i64 a0_1) := (blk_cell BK204.out 1).trans rfl
                    have hcz18_2 : wr.cell? ⟨gb204, 2, none⟩ = some (.int .i64 a0_2) := (blk_cell BK204.out 2).trans rfl
                    have hcz18_3 : wr.cell? ⟨gb204, 3, none⟩ = some (.int .i64 a0_3) := (blk_cell BK204.out 3).trans rfl
                    have hcz18_4 : wr.cell? ⟨gb204, 4, none⟩ = some (.int .i64 a0_4) := (blk_cell BK204.out 4).trans rfl
                    have hfz18_0 := blk_frozen BK204.out 0
                    have hfz18_1 := blk_frozen BK204.out 1
                    have hfz18_2 := blk_frozen BK204.out 2
                    have hfz18_3 := blk_frozen BK204.out 3
                    have hfz18_4 := blk_frozen BK204.out 4
                    go_wp2
                    go_meet
                    case rel => exact ⟨_, ((a0_2 != x6_2)), (by first | rfl | (simp; done) | (simp [*]; done)), H', ⟨by have := HJ1.out; have := HK2.out; first | omega | exact Nat.le_refl _⟩, ⟨by (with_reducible repeat (first | apply Kd.R_alloc | apply Kd.R_drewN | apply Kd.R_drew)); exact HO_3.out⟩, ⟨by refine bl_ ?_; exact BK204.out⟩, ⟨be_ HB.out⟩⟩
                  · rw [if_neg c17] at H
                    have c17b0 : (x5_2 == a0_4) = false := beq_eq_false_iff_ne.mpr c17
                    have c17b1 : (x5_2 != a0_4) = true := bne_iff_ne.mpr c17
                    (first | rw [c17b0] | (simp only [i64_w, i32_w]; rw [c17b0]) | skip)
                    have H' := Aside0.mk H
                    clear H
                    have hcz19_0 : wr.cell? ⟨gb204, 0, none⟩ = some (.slice A0_0 l0_0.length c0_0) := (blk_cell BK204.out 0).trans rfl
                    have hcz19_1 : wr.cell? ⟨gb204, 1, none⟩ = some (.int .i64 a0_1) := (blk_cell BK204.out 1).trans rfl
                    have hcz19_2 : wr.cell? ⟨gb204, 2, none⟩ = some (.int .i64 a0_2) := (blk_cell BK204.out 2).trans rfl
                    have hcz19_3 : wr.cell? ⟨gb204, 3, none⟩ = some (.int .i64 a0_3) := (blk_cell BK204.out 3).trans rfl
                    have hcz19_4 : wr.cell? ⟨gb204, 4, none⟩ = some (.int .i64 a0_4) := (blk_cell BK204.out 4).trans rfl
                    have hfz19_0 := blk_frozen BK204.out 0
                    have hfz19_1 := blk_frozen BK204.out 1
                    have hfz19_2 := blk_frozen BK204.out 2
                    have hfz19_3 := blk_frozen BK204.out 3
                    have hfz19_4 := blk_frozen BK204.out 4
                    go_wp2
                    go_meet
                    case rel => exact ⟨_, (true), (by first | rfl | (simp; done) | (simp [*]; done)), H', ⟨by have := HJ1.out; have := HK2.out; first | omega | exact Nat.le_refl _⟩, ⟨by (with_reducible repeat (first | apply Kd.R_alloc | apply Kd.R_drewN | apply Kd.R_drew)); exact HO_3.out⟩, ⟨by refine bl_ ?_; exact BK204.out⟩, ⟨be_ HB.out⟩⟩
                case rest =>
                  clear HC16
                  try clear c1
                  try clear c2
                  try clear p2
                  try clear c4
                  try clear c4b0
                  try clear c4b1
                  try clear c8
                  try clear c9
                  try clear c9b0
                  try clear c9b1
                  try clear c15
                  try clear c15b0
                  try clear c15b1
                  try clear c17
                  try clear c17b0
                  try clear c17b1
                  try clear hcz14_0
                  try clear hcz14_1
                  try clear hcz14_2
                  try clear hcz14_3
                  try clear hcz14_4
                  try clear hcz18_0
                  try clear hcz18_1
                  try clear hcz18_2
                  try clear hcz18_3
                  try clear hcz18_4
                  try clear hcz19_0
                  try clear hcz19_1
                  try clear hcz19_2
                  try clear hcz19_3
                  try clear hcz19_4
                  try clear hcz6_0
                  try clear hcz6_1
                  try clear hcz6_2
                  try clear hcz6_3
                  try clear hcz6_4
                  try clear hcz7_0
                  try clear hcz7_1
                  try clear hcz7_2
                  try clear hcz7_3
                  try clear hcz7_4
                  try clear hfz14_0
                  try clear hfz14_1
                  try clear hfz14_2
                  try clear hfz14_3
                  try clear hfz14_4
                  try clear hfz18_0
                  try clear hfz18_1
                  try clear hfz18_2
                  try clear hfz18_3
                  try clear hfz18_4
                  try clear hfz19_0
                  try clear hfz19_1
                  try clear hfz19_2
                  try clear hfz19_3
                  try clear hfz19_4
                  try clear hfz6_0
                  try clear hfz6_1
                  try clear hfz6_2
                  try clear hfz6_3
                  try clear hfz6_4
                  try clear hfz7_0
                  try clear hfz7_1
                  try clear hfz7_2
                  try clear hfz7_3
                  try clear hfz7_4
                  try clear p2
                  obtain ⟨kq, x88_15, rfl, HA, HJ15, HO_3, BK204, HB⟩ := hcut
                  cases kq with
                  | zero => exact absurd HA.out (by simp [spec_QueueOk.j3])
                  | succ kj15 =>
                    have H := HA.out
                    clear HA
                    simp only [spec_QueueOk.j3] at H
                    by_cases c20 : x88_15 = true
                    · subst c20
                      have H1 : (some false) = some r := by rw [if_pos rfl] at H; exact H
                      clear H
                      have H := H1
                      clear H1
                      obtain rfl := Option.some.inj H
                      go_wp2
                      go_ret
                      exact ⟨by first | rfl | (simp [errW_none, errW_some] <;> rfl) | (simp [*, errW_none, errW_some] <;> rfl), be_ HB.out⟩
                    · replace c20 := Bool.eq_false_iff.mpr c20
                      subst c20
                      have H1 : (spec_QueueOk.l1 kj15 x3_2 x5_2 a0_3 l0_0 a0_1 a0_2 a0_3 a0_4) = some r := by rw [if_neg (show ¬ (false = true) by decide)] at H; exact H
                      clear H
                      have H := H1
                      clear H1
                      have H' := Aside0.mk H
                      clear H
                      have hcz21_0 : wc.cell? ⟨gb204, 0, none⟩ = some (.slice A0_0 l0_0.length c0_0) := (blk_cell BK204.out 0).trans rfl
                      have hcz21_1 : wc.cell? ⟨gb204, 1, none⟩ = some (.int .i64 a0_1) := (blk_cell BK204.out 1).trans rfl
                      have hcz21_2 : wc.cell? ⟨gb204, 2, none⟩ = some (.int .i64 a0_2) := (blk_cell BK204.out 2).trans rfl
                      have hcz21_3 : wc.cell? ⟨gb204, 3, none⟩ = some (.int .i64 a0_3) := (blk_cell BK204.out 3).trans rfl
                      have hcz21_4 : wc.cell? ⟨gb204, 4, none⟩ = some (.int .i64 a0_4) := (blk_cell BK204.out 4).trans rfl
                      have hfz21_0 := blk_frozen BK204.out 0
                      have hfz21_1 := blk_frozen BK204.out 1
                      have hfz21_2 := blk_frozen BK204.out 2
                      have hfz21_3 := blk_frozen BK204.out 3
                      have hfz21_4 := blk_frozen BK204.out 4
                      go_wp2
                      go_loopg [5, 9] kj15 (fun kq v5 v9 w' => ∃ (x3_4 : List Bool) (x5_4 : Int) (x9_4 : Int), v5 = .int .i64 x5_4 ∧ v9 = .int .i64 x9_4 ∧ Aside0 (spec_QueueOk.l1 kq x3_4 x5_4 x9_4 l0_0 a0_1 a0_2 a0_3 a0_4 = some r) ∧ Aside0 (kq ≤ kj15) ∧ Aside0 (Kd.R Kd.bool 4 w' w.heap.size (fun _ => True) v207 x3_4) ∧ Aside0 (w'.heap[gb204]? = some (.cells #[(.slice A0_0 l0_0.length c0_0), .int .i64 a0_1, .int .i64 a0_2, .int .i64 a0_3, .int .i64 a0_4] 28 (0, 0))) ∧ Aside0 (Below w.heap.size w w'))
                      case atStart => exact ⟨(x3_2), (x5_2), (a0_3), (by first | rfl | (simp; done) | (simp [*]; done)), (by first | rfl | (simp; done) | (simp [*]; done)), H', ⟨Nat.le_refl _⟩, ⟨by (with_reducible repeat (first | apply Kd.R_alloc | apply Kd.R_drewN | apply Kd.R_drew)); exact HO_3.out⟩, ⟨by refine bl_ ?_; exact BK204.out⟩, ⟨be_ HB.out⟩⟩
                      case round =>
                        clear H'
                        try clear c1
                        try clear c2
                        try clear p2
                        try clear c4
                        try clear c4b0
                        try clear c4b1
                        try clear c8
                        try clear c9
                        try clear c9b0
                        try clear c9b1
                        try clear c15
                        try clear c15b0
                        try clear c15b1
                        try clear c17
                        try clear c17b0
                        try clear c17b1
                        try clear c20
                        try clear hcz14_0
                        try clear hcz14_1
                        try clear hcz14_2
                        try clear hcz14_3
                        try clear hcz14_4
                        try clear hcz18_0
                        try clear hcz18_1
                        try clear hcz18_2
                        try clear hcz18_3
                        try clear hcz18_4
                        try clear hcz19_0
                        try clear hcz19_1
                        try clear hcz19_2
                        try clear hcz19_3
                        try clear hcz19_4
                        try clear hcz21_0
                        try clear hcz21_1
                        try clear hcz21_2
                        try clear hcz21_3
                        try clear hcz21_4
                        try clear hcz6_0
                        try clear hcz6_1
                        try clear hcz6_2
                        try clear hcz6_3
                        try clear hcz6_4
                        try clear hcz7_0
                        try clear hcz7_1
                        try clear hcz7_2
                        try clear hcz7_3
                        try clear hcz7_4
                        try clear hfz14_0
                        try clear hfz14_1
                        try clear hfz14_2
                        try clear hfz14_3
                        try clear hfz14_4
                        try clear hfz18_0
                        try clear hfz18_1
                        try clear hfz18_2
                        try clear hfz18_3
                        try clear hfz18_4
                        try clear hfz19_0
                        try clear hfz19_1
                        try clear hfz19_2
                        try clear hfz19_3
                        try clear hfz19_4
                        try clear hfz21_0
                        try clear hfz21_1
                        try clear hfz21_2
                        try clear hfz21_3
                        try clear hfz21_4
                        try clear hfz6_0
                        try clear hfz6_1
                        try clear hfz6_2
                        try clear hfz6_3
                        try clear hfz6_4
                        try clear hfz7_0
                        try clear hfz7_1
                        try clear hfz7_2
                        try clear hfz7_3
                        try clear hfz7_4
                        try clear p2
                        obtain ⟨x3_4, x5_4, x9_4, rfl, rfl, HA, HK4, HO_3, BK204, HB⟩ := hrel
                        cases gk with
                        | zero => exact absurd HA.out (by simp [spec_QueueOk.l1])
                        | succ k4 =>
                          have H := HA.out
                          clear HA
                          simp only [spec_QueueOk.l1] at H
                          by_cases c22 : x9_4 = (-1)
                          · rw [if_pos c22] at H
                            have c22b0 : (x9_4 == (-1)) = true := beq_iff_eq.mpr c22
                            have c22b1 : (x9_4 != (-1)) = false := bne_eq_false_iff_eq.mpr c22
                            clear c22
                            obtain rfl := Option.some.inj H
                            go_wp2
                            go_ret
                            exact ⟨by first | rfl | (simp [errW_none, errW_some] <;> rfl) | (simp [*, errW_none, errW_some] <;> rfl), be_ HB.out⟩
                          · rw [if_neg c22] at H
                            have c22b0 : (x9_4 == (-1)) = false := beq_eq_false_iff_ne.mpr c22
                            have c22b1 : (x9_4 != (-1)) = true := bne_iff_ne.mpr c22
                            have HC23 := Aside0.mk H
                            clear H
                            go_upto_region 24 with (fail)
                            go_cut [107] (fun v107 wc => ∃ (kq : Nat) (x107_22 : Bool), v107 = .bool x107_22 ∧ Aside0 (spec_QueueOk.j5 kq x3_4 x5_4 x9_4 x107_22 l0_0 a0_1 a0_2 a0_3 a0_4 = some r) ∧ Aside0 (kq ≤ k4) ∧ Aside0 (Kd.R Kd.bool 4 wc w.heap.size (fun _ => True) v207 x3_4) ∧ Aside0 (wc.heap[gb204]? = some (.cells #[(.slice A0_0 l0_0.length c0_0), .int .i64 a0_1, .int .i64 a0_2, .int .i64 a0_3, .int .i64 a0_4] 28 (0, 0))) ∧ Aside0 (Below w.heap.size w wc))
                            case first =>
                              have H := HC23.out
                              clear HC23
                              replace H := Option.bind_eq_some_iff.mp H
                              obtain ⟨t223, A240, H⟩ := H
                              replace H : (if t223 = true then (if 0 ≤ x9_4 then (if x9_4 < (x3_4.length : Int) then (spec_QueueOk.j5 k4 x3_4 x5_4 x9_4 (rdOf false x3_4 x9_4) l0_0 a0_1 a0_2 a0_3 a0_4) else (none)) else (none)) else (spec_QueueOk.j5 k4 x3_4 x5_4 x9_4 true l0_0 a0_1 a0_2 a0_3 a0_4)) = some r := H
                              have A24 := Aside0.mk A240
                              clear A240
                              by_cases c25 : t223 = true
                              · subst c25
                                have H1 : (if 0 ≤ x9_4 then (if x9_4 < (x3_4.length : Int) then (spec_QueueOk.j5 k4 x3_4 x5_4 x9_4 (rdOf false x3_4 x9_4) l0_0 a0_1 a0_2 a0_3 a0_4) else (none)) else (none)) = some r := by rw [if_pos rfl] at H; exact H
                                clear H
                                have H := H1
                                clear H1
                                by_cases c26 : 0 ≤ x9_4
                                · rw [if_pos c26] at H
                                  have c26b0 : decide (0 ≤ x9_4) = true := decide_eq_true c26
                                  clear c26
                                  (first | rw [c26b0] | (simp only [i64_w, i32_w]; rw [c26b0]) | skip)
                                  by_cases c27 : x9_4 < (x3_4.length : Int)
                                  · rw [if_pos c27] at H
                                    have c27b0 : decide (x9_4 < (x3_4.length : Int)) = true := decide_eq_true c27
                                    clear c27
                                    have H' := Aside0.mk H
                                    clear H
                                    go_wp2_with (first | ((with_reducible refine gate_callee (f := 54) rfl ?_); refine goesL_ (some 100) rfl rfl Try.func54 (by kernel_rfl) rfl #[.int .i64 x9_4, .int .i64 0, .int .i64 59] rfl (by (try simp only [List.map_toArray, List.map_cons, List.map_nil]); first | done | rfl | (simp only [List.length_drop, List.length_take]; rfl)) ?_; (with_reducible refine (spec_l01In.calls x9_4 0 59 true _ A24.out).mono ?_); rintro e w' ⟨rfl, ⟨nd, rfl⟩⟩; refine ⟨_, rfl, ?_⟩; obtain ⟨Ao28, co28, eo28⟩ := Kd.R_slice HO_3.out; subst eo28; have p224 : 0 ≤ (x9_4 : Int) := of_decide_eq_true (by first | (with_reducible assumption) | assumption); have q224 : x9_4 < (x3_4.length : Int) := of_decide_eq_true (by first | (with_reducible assumption) | assumption); obtain ⟨ad224, e224, hx224_0⟩ := Kd.at_bool (Kd.R_reads' HO_3.out).2.2 x9_4 p224 q224; cases e224; replace p224 := eq_true p224; replace q224 := eq_true q224))
                                    go_meet
                                    case rel => exact ⟨_, (rdOf false x3_4 x9_4), (by first | rfl | (simp; done) | (simp [*]; done)), H', ⟨by have := HJ1.out; have := HK2.out; have := HJ15.out; have := HK4.out; first | omega | exact Nat.le_refl _⟩, ⟨by (with_reducible repeat (first | apply Kd.R_alloc | apply Kd.R_drewN | apply Kd.R_drew)); exact HO_3.out⟩, ⟨by refine bl_ ?_; exact BK204.out⟩, ⟨be_ HB.out⟩⟩
                                  · rw [if_neg c27] at H
                                    exact absurd H (by simp)
                                · rw [if_neg c26] at H
                                  exact absurd H (by simp)
                              · replace c25 := Bool.eq_false_iff.mpr c25
                                subst c25
                                have H1 : (spec_QueueOk.j5 k4 x3_4 x5_4 x9_4 true l0_0 a0_1 a0_2 a0_3 a0_4) = some r := by rw [if_neg (show ¬ (false = true) by decide)] at H; exact H
                                clear H
                                have H := H1
                                clear H1
                                have H' := Aside0.mk H
                                clear H
                                go_wp2_with (first | ((with_reducible refine gate_callee (f := 54) rfl ?_); refine goesL_ (some 100) rfl rfl Try.func54 (by kernel_rfl) rfl #[.int .i64 x9_4, .int .i64 0, .int .i64 59] rfl (by (try simp only [List.map_toArray, List.map_cons, List.map_nil]); first | done | rfl | (simp only [List.length_drop, List.length_take]; rfl)) ?_; (with_reducible refine (spec_l01In.calls x9_4 0 59 false _ A24.out).mono ?_); rintro e w' ⟨rfl, ⟨nd, rfl⟩⟩; refine ⟨_, rfl, ?_⟩))
                                go_meet
                                case rel => exact ⟨_, (true), (by first | rfl | (simp; done) | (simp [*]; done)), H', ⟨by have := HJ1.out; have := HK2.out; have := HJ15.out; have := HK4.out; first | omega | exact Nat.le_refl _⟩, ⟨by (with_reducible repeat (first | apply Kd.R_alloc | apply Kd.R_drewN | apply Kd.R_drew)); exact HO_3.out⟩, ⟨by refine bl_ ?_; exact BK204.out⟩, ⟨be_ HB.out⟩⟩
                            case rest =>
                              clear HC23
                              try clear c1
                              try clear c2
                              try clear p2
                              try clear q2
                              try clear hx2
                              try clear c4
                              try clear c4b0
                              try clear c4b1
                              try clear c5
                              try clear c8
                              try clear c9
                              try clear c9b0
                              try clear c9b1
                              try clear c15
                              try clear c15b0
                              try clear c15b1
                              try clear c17
                              try clear c17b0
                              try clear c17b1
                              try clear c20
                              try clear c22
                              try clear c22b0
                              try clear c22b1
                              try clear p22
                              try clear q22
                              try clear hx22
                              try clear c24
                              try clear c25
                              try clear c26
                              try clear c26b0
                              try clear c27
                              try clear c27b0
                              try clear hcz14_0
                              try clear hcz14_1
                              try clear hcz14_2
                              try clear hcz14_3
                              try clear hcz14_4
                              try clear hcz18_0
                              try clear hcz18_1
                              try clear hcz18_2
                              try clear hcz18_3
                              try clear hcz18_4
                              try clear hcz19_0
                              try clear hcz19_1
                              try clear hcz19_2
                              try clear hcz19_3
                              try clear hcz19_4
                              try clear hcz21_0
                              try clear hcz21_1
                              try clear hcz21_2
                              try clear hcz21_3
                              try clear hcz21_4
                              try clear hcz6_0
                              try clear hcz6_1
                              try clear hcz6_2
                              try clear hcz6_3
                              try clear hcz6_4
                              try clear hcz7_0
                              try clear hcz7_1
                              try clear hcz7_2
                              try clear hcz7_3
                              try clear hcz7_4
                              try clear hfz14_0
                              try clear hfz14_1
                              try clear hfz14_2
                              try clear hfz14_3
                              try clear hfz14_4
                              try clear hfz18_0
                              try clear hfz18_1
                              try clear hfz18_2
                              try clear hfz18_3
                              try clear hfz18_4
                              try clear hfz19_0
                              try clear hfz19_1
                              try clear hfz19_2
                              try clear hfz19_3
                              try clear hfz19_4
                              try clear hfz21_0
                              try clear hfz21_1
                              try clear hfz21_2
                              try clear hfz21_3
                              try clear hfz21_4
                              try clear hfz6_0
                              try clear hfz6_1
                              try clear hfz6_2
                              try clear hfz6_3
                              try clear hfz6_4
                              try clear hfz7_0
                              try clear hfz7_1
                              try clear hfz7_2
                              try clear hfz7_3
                              try clear hfz7_4
                              try clear hx224_0
                              try clear p2
                              try clear p224
                              try clear q224
                              obtain ⟨kq, x107_22, rfl, HA, HJ22, HO_3, BK204, HB⟩ := hcut
                              cases kq with
                              | zero => exact absurd HA.out (by simp [spec_QueueOk.j5])
                              | succ kj22 =>
                                have H := HA.out
                                clear HA
                                simp only [spec_QueueOk.j5] at H
                                by_cases c29 : x107_22 = true
                                · subst c29
                                  have H1 : (some false) = some r := by rw [if_pos rfl] at H; exact H
                                  clear H
                                  have H := H1
                                  clear H1
                                  obtain rfl := Option.some.inj H
                                  go_wp2
                                  go_ret
                                  exact ⟨by first | rfl | (simp [errW_none, errW_some] <;> rfl) | (simp [*, errW_none, errW_some] <;> rfl), be_ HB.out⟩
                                · replace c29 := Bool.eq_false_iff.mpr c29
                                  subst c29
                                  have H1 : (if 0 ≤ x9_4 then (if x9_4 < (l0_0.length : Int) then (if (rd_T65 l0_0 x9_4).f3 = true then (some false) else (if ((rd_T65 l0_0 x9_4).f0) = 0 then (if ((rd_T65 l0_0 x9_4).f1) = (-1) then (if x9_4 < (x3_4.length : Int) then (spec_QueueOk.l1 kj22 (x3_4.set (x9_4 : Int).toNat true) (wrap64 (x5_4 + 1)) ((rd_T65 l0_0 x9_4).f2) l0_0 a0_1 a0_2 a0_3 a0_4) else (none)) else (some false)) else (some false))) else (none)) else (none)) = some r := by rw [if_neg (show ¬ (false = true) by decide)] at H; exact H
                                  clear H
                                  have H := H1
                                  clear H1
                                  by_cases c30 : 0 ≤ x9_4
                                  · rw [if_pos c30] at H
                                    have c30b0 : decide (0 ≤ x9_4) = true := decide_eq_true c30
                                    clear c30
                                    by_cases c31 : x9_4 < (l0_0.length : Int)
                                    · rw [if_pos c31] at H
                                      have c31b0 : decide (x9_4 < (l0_0.length : Int)) = true := decide_eq_true c31
                                      clear c31
                                      obtain ⟨bq32, hbq32⟩ : ∃ b_ : Bool, b_ = ((rd_T65 l0_0 x9_4).f3) := ⟨_, rfl⟩
                                      replace H : (if bq32 = true then (some false) else (if ((rd_T65 l0_0 x9_4).f0) = 0 then (if ((rd_T65 l0_0 x9_4).f1) = (-1) then (if x9_4 < (x3_4.length : Int) then (spec_QueueOk.l1 kj22 (x3_4.set (x9_4 : Int).toNat true) (wrap64 (x5_4 + 1)) ((rd_T65 l0_0 x9_4).f2) l0_0 a0_1 a0_2 a0_3 a0_4) else (none)) else (some false)) else (some false))) = some r := by rw [← hbq32] at H; exact H
                                      have Nbq32 := Aside0.mk hbq32
                                      clear hbq32
                                      by_cases c33 : bq32 = true
                                      · subst c33
                                        have H1 : (some false) = some r := by rw [if_pos rfl] at H; exact H
                                        clear H
                                        have H := H1
                                        clear H1
                                        obtain rfl := Option.some.inj H
                                        have hcz34_0 : wc.cell? ⟨gb204, 0, none⟩ = some (.slice A0_0 l0_0.length c0_0) := (blk_cell BK204.out 0).trans rfl
                                        have hcz34_1 : wc.cell? ⟨gb204, 1, none⟩ = some (.int .i64 a0_1) := (blk_cell BK204.out 1).trans rfl
                                        have hcz34_2 : wc.cell? ⟨gb204, 2, none⟩ = some (.int .i64 a0_2) := (blk_cell BK204.out 2).trans rfl
                                        have hcz34_3 : wc.cell? ⟨gb204, 3, none⟩ = some (.int .i64 a0_3) := (blk_cell BK204.out 3).trans rfl
                                        have hcz34_4 : wc.cell? ⟨gb204, 4, none⟩ = some (.int .i64 a0_4) := (blk_cell BK204.out 4).trans rfl
                                        have hfz34_0 := blk_frozen BK204.out 0
                                        have hfz34_1 := blk_frozen BK204.out 1
                                        have hfz34_2 := blk_frozen BK204.out 2
                                        have hfz34_3 := blk_frozen BK204.out 3
                                        have hfz34_4 := blk_frozen BK204.out 4
                                        have p225 : 0 ≤ (x9_4 : Int) := of_decide_eq_true (by first | (with_reducible assumption) | assumption)
                                        have q225 : x9_4 < (l0_0.length : Int) := of_decide_eq_true (by first | (with_reducible assumption) | assumption)
                                        obtain ⟨ad225, e225, hx225_0, hx225_1, hx225_2, hx225_3⟩ := at_T65 HR0_0.out x9_4 p225 q225
                                        (try rw [← Nbq32.out] at hx225_3)
                                        cases e225
                                        replace hx225_0 := (HB.out.cell (World.block_lt_of_cell? w _ hx225_0)).trans hx225_0
                                        replace hx225_1 := (HB.out.cell (World.block_lt_of_cell? w _ hx225_1)).trans hx225_1
                                        replace hx225_2 := (HB.out.cell (World.block_lt_of_cell? w _ hx225_2)).trans hx225_2
                                        replace hx225_3 := (HB.out.cell (World.block_lt_of_cell? w _ hx225_3)).trans hx225_3
                                        replace p225 := eq_true p225
                                        replace q225 := eq_true q225
                                        go_wp2_with (first | ((with_reducible refine gate_dst (N := 10) rfl ?_); refine box_event ?hg (N := 10) ?hd (cs := #[.int .i64 0, .int .i64 0, .int .i64 0, .bool false]) (t := 65) ?hr ?_; (case hd => rfl); (case hg => rfl); (case hr => first | (go_simp; done) | (go_simp; rfl)); intro gb226 hg w35 hbox hb; have n0_ := Aside0.mk (Kd.R_below (ro_ HO_3.out) hb); have n1_ := Aside0.mk (blk_below (g := gb204) (o := .cells #[.slice (some ad225) l0_0.length c0_0, .int .i64 a0_1, .int .i64 a0_2, .int .i64 a0_3, .int .i64 a0_4] 28 (0, 0)) (bl_ BK204.out) hb); have n2_ := Aside0.mk (below_step (be_ HB.out) hb); have n3_ := Aside0.mk (hbox); have n4_ := Aside0.mk ((by rw [hg]; exact (below_size (be_ HB.out)) : w.heap.size ≤ gb226)); have n5_ := Aside0.mk ((by rw [hg]; exact (below_size (be_ HB.out)) : w.heap.size ≤ gb226)); have n6_ := Aside0.mk ((by rw [hg]; exact Nat.ne_of_lt (blk_lt (g := gb204) (o := .cells #[.slice (some ad225) l0_0.length c0_0, .int .i64 a0_1, .int .i64 a0_2, .int .i64 a0_3, .int .i64 a0_4] 28 (0, 0)) (bl_ BK204.out)) : gb204 ≠ gb226)); have n7_ := Aside0.mk ((by rw [hg]; exact Nat.ne_of_gt (blk_lt (g := gb204) (o := .cells #[.slice (some ad225) l0_0.length c0_0, .int .i64 a0_1, .int .i64 a0_2, .int .i64 a0_3, .int .i64 a0_4] 28 (0, 0)) (bl_ BK204.out)) : gb226 ≠ gb204)); clear HO_3 BK204 HB; have HO_3 := n0_; have BK204 := n1_; have HB := n2_; have BK226 := n3_; have GW226 := n4_; have GE226 := n5_; have NB204_226 := n6_; have NB226_204 := n7_; clear n0_ n1_ n2_ n3_ n4_ n5_ n6_ n7_; clear hb hbox hg; have hnb36 := NB226_204.out; have hnc36 := NB204_226.out; obtain ⟨hcz37_0, hcz37_1, hcz37_2, hcz37_3, hfz37_0, hfz37_1, hfz37_2, hfz37_3⟩ := cz4_ BK226.out))
                                        go_ret
                                        exact ⟨by first | rfl | (simp [errW_none, errW_some] <;> rfl) | (simp [*, errW_none, errW_some] <;> rfl), be_ HB.out⟩
                                      · replace c33 := Bool.eq_false_iff.mpr c33
                                        subst c33
                                        have H1 : (if ((rd_T65 l0_0 x9_4).f0) = 0 then (if ((rd_T65 l0_0 x9_4).f1) = (-1) then (if x9_4 < (x3_4.length : Int) then (spec_QueueOk.l1 kj22 (x3_4.set (x9_4 : Int).toNat true) (wrap64 (x5_4 + 1)) ((rd_T65 l0_0 x9_4).f2) l0_0 a0_1 a0_2 a0_3 a0_4) else (none)) else (some false)) else (some false)) = some r := by rw [if_neg (show ¬ (false = true) by decide)] at H; exact H
                                        clear H
                                        have H := H1
                                        clear H1
                                        by_cases c38 : ((rd_T65 l0_0 x9_4).f0) = 0
                                        · rw [if_pos c38] at H
                                          have c38b0 : (((rd_T65 l0_0 x9_4).f0) == 0) = true := beq_iff_eq.mpr c38
                                          have c38b1 : (((rd_T65 l0_0 x9_4).f0) != 0) = false := bne_eq_false_iff_eq.mpr c38
                                          clear c38
                                          by_cases c39 : ((rd_T65 l0_0 x9_4).f1) = (-1)
                                          · rw [if_pos c39] at H
                                            have c39b0 : (((rd_T65 l0_0 x9_4).f1) == (-1)) = true := beq_iff_eq.mpr c39
                                            have c39b1 : (((rd_T65 l0_0 x9_4).f1) != (-1)) = false := bne_eq_false_iff_eq.mpr c39
                                            clear c39
                                            by_cases c40 : x9_4 < (x3_4.length : Int)
                                            · rw [if_pos c40] at H
                                              have c40b0 : decide (x9_4 < (x3_4.length : Int)) = true := decide_eq_true c40
                                              clear c40
                                              obtain ⟨y227, hy227⟩ : ∃ y_ : List Bool, y_ = (x3_4.set (x9_4 : Int).toNat true) := ⟨_, rfl⟩
                                              replace H : (spec_QueueOk.l1 kj22 y227 (wrap64 (x5_4 + 1)) ((rd_T65 l0_0 x9_4).f2) l0_0 a0_1 a0_2 a0_3 a0_4) = some r := by first | (rw [hy227]; with_reducible exact H) | (have H2_ := (Option.bind_some _ _).symm.trans H; rw [hy227]; with_reducible exact H2_) | (have H2_ := (Option.bind_some _ _).symm.trans H; with_reducible exact H2_) | with_reducible exact H | (rw [hy227]; exact H) | exact H
                                              have Ny227 := Aside0.mk hy227
                                              clear hy227
                                              have H' := Aside0.mk H
                                              clear H
                                              have hcz42_0 : wc.cell? ⟨gb204, 0, none⟩ = some (.slice A0_0 l0_0.length c0_0) := (blk_cell BK204.out 0).trans rfl
                                              have hcz42_1 : wc.cell? ⟨gb204, 1, none⟩ = some (.int .i64 a0_1) := (blk_cell BK204.out 1).trans rfl
                                              have hcz42_2 : wc.cell? ⟨gb204, 2, none⟩ = some (.int .i64 a0_2) := (blk_cell BK204.out 2).trans rfl
                                              have hcz42_3 : wc.cell? ⟨gb204, 3, none⟩ = some (.int .i64 a0_3) := (blk_cell BK204.out 3).trans rfl
                                              have hcz42_4 : wc.cell? ⟨gb204, 4, none⟩ = some (.int .i64 a0_4) := (blk_cell BK204.out 4).trans rfl
                                              have hfz42_0 := blk_frozen BK204.out 0
                                              have hfz42_1 := blk_frozen BK204.out 1
                                              have hfz42_2 := blk_frozen BK204.out 2
                                              have hfz42_3 := blk_frozen BK204.out 3
                                              have hfz42_4 := blk_frozen BK204.out 4
                                              have p225 : 0 ≤ (x9_4 : Int) := of_decide_eq_true (by first | (with_reducible assumption) | assumption)
                                              have q225 : x9_4 < (l0_0.length : Int) := of_decide_eq_true (by first | (with_reducible assumption) | assumption)
                                              obtain ⟨ad225, e225, hx225_0, hx225_1, hx225_2, hx225_3⟩ := at_T65 HR0_0.out x9_4 p225 q225
                                              (try rw [← Nbq32.out] at hx225_3)
                                              cases e225
                                              replace hx225_0 := (HB.out.cell (World.block_lt_of_cell? w _ hx225_0)).trans hx225_0
                                              replace hx225_1 := (HB.out.cell (World.block_lt_of_cell? w _ hx225_1)).trans hx225_1
                                              replace hx225_2 := (HB.out.cell (World.block_lt_of_cell? w _ hx225_2)).trans hx225_2
                                              replace hx225_3 := (HB.out.cell (World.block_lt_of_cell? w _ hx225_3)).trans hx225_3
                                              replace p225 := eq_true p225
                                              replace q225 := eq_true q225
                                              go_wp2_with (first | ((with_reducible refine gate_dst (N := 10) rfl ?_); refine box_event ?hg (N := 10) ?hd (cs := #[.int .i64 0, .int .i64 0, .int .i64 0, .bool false]) (t := 65) ?hr ?_; (case hd => rfl); (case hg => rfl); (case hr => first | (go_simp; done) | (go_simp; rfl)); intro gb226 hg w43 hbox hb; have n0_ := Aside0.mk (Kd.R_below (ro_ HO_3.out) hb); have n1_ := Aside0.mk (blk_below (g := gb204) (o := .cells #[.slice (some ad225) l0_0.length c0_0, .int .i64 a0_1, .int .i64 a0_2, .int .i64 a0_3, .int .i64 a0_4] 28 (0, 0)) (bl_ BK204.out) hb); have n2_ := Aside0.mk (below_step (be_ HB.out) hb); have n3_ := Aside0.mk (hbox); have n4_ := Aside0.mk ((by rw [hg]; exact (below_size (be_ HB.out)) : w.heap.size ≤ gb226)); have n5_ := Aside0.mk ((by rw [hg]; exact (below_size (be_ HB.out)) : w.heap.size ≤ gb226)); have n6_ := Aside0.mk ((by rw [hg]; exact Nat.ne_of_lt (blk_lt (g := gb204) (o := .cells #[.slice (some ad225) l0_0.length c0_0, .int .i64 a0_1, .int .i64 a0_2, .int .i64 a0_3, .int .i64 a0_4] 28 (0, 0)) (bl_ BK204.out)) : gb204 ≠ gb226)); have n7_ := Aside0.mk ((by rw [hg]; exact Nat.ne_of_gt (blk_lt (g := gb204) (o := .cells #[.slice (some ad225) l0_0.length c0_0, .int .i64 a0_1, .int .i64 a0_2, .int .i64 a0_3, .int .i64 a0_4] 28 (0, 0)) (bl_ BK204.out)) : gb226 ≠ gb204)); clear HO_3 BK204 HB; have HO_3 := n0_; have BK204 := n1_; have HB := n2_; have BK226 := n3_; have GW226 := n4_; have GE226 := n5_; have NB204_226 := n6_; have NB226_204 := n7_; clear n0_ n1_ n2_ n3_ n4_ n5_ n6_ n7_; clear hb hbox hg; have hnb44 := NB226_204.out; have hnc44 := NB204_226.out; obtain ⟨hcz45_0, hcz45_1, hcz45_2, hcz45_3, hfz45_0, hfz45_1, hfz45_2, hfz45_3⟩ := cz4_ BK226.out) | ((with_reducible refine gate_store (t := 65) (p := 10) rfl ?_); refine store_event (t := 65) (p := 10) (v := ?vo_w46) (w1 := ((((w43.setCell ⟨gb226, 0, none⟩ (.int .i64 ((rd_T65 l0_0 x9_4).f0))).setCell ⟨gb226, 1, none⟩ (.int .i64 ((rd_T65 l0_0 x9_4).f1))).setCell ⟨gb226, 2, none⟩ (.int .i64 ((rd_T65 l0_0 x9_4).f2))).setCell ⟨gb226, 3, none⟩ (.bool false))) ?hg ?ho ?hn ?hr ?_; (case ho => rfl); (case hg => rfl); (case hn => rfl); (case hr => first | (go_simp; done) | (go_simp; rfl)); intro w46 hw; have n0_ : Aside0 (Kd.R Kd.bool 4 w46 w.heap.size (fun _ => True) v207 x3_4) := ⟨(by rw [hw]; exact (by (with_reducible repeat (first | apply Kd.R_alloc | apply Kd.R_drewN | apply Kd.R_drew)); exact Kd.R_mono (Kd.R_far (p := ⟨gb226, 3, none⟩) (Kd.R_far (p := ⟨gb226, 2, none⟩) (Kd.R_far (p := ⟨gb226, 1, none⟩) (Kd.R_far (p := ⟨gb226, 0, none⟩) (Kd.R_types HO_3.out BK226.out (by decide)) (fun _ hk => hk.2) (.int .i64 ((rd_T65 l0_0 x9_4).f0))) (fun _ hk => hk.2) (.int .i64 ((rd_T65 l0_0 x9_4).f1))) (fun _ hk => hk.2) (.int .i64 ((rd_T65 l0_0 x9_4).f2))) (fun _ hk => hk.2) (.bool false)) (fun _ hk => trivial)))⟩; have n1_ : Aside0 (w46.heap[gb204]? = some (.cells #[.slice (some ad225) l0_0.length c0_0, .int .i64 a0_1, .int .i64 a0_2, .int .i64 a0_3, .int .i64 a0_4] 28 (0, 0))) := ⟨(by rw [hw]; exact (by refine bl_ ?_; refine blk_far ?_ NB204_226.out _; refine bl_ ?_; refine blk_far ?_ NB204_226.out _; refine bl_ ?_; refine blk_far ?_ NB204_226.out _; refine bl_ ?_; refine blk_far ?_ NB204_226.out _; refine bl_ ?_; exact BK204.out))⟩; have n2_ : Aside0 (w46.heap[gb226]? = some (.cells #[.int .i64 ((rd_T65 l0_0 x9_4).f0), .int .i64 ((rd_T65 l0_0 x9_4).f1), .int .i64 ((rd_T65 l0_0 x9_4).f2), .bool false] 65 (0, 0))) := ⟨(by rw [hw]; exact (by refine bl_ ?_; refine blk_put (cs := #[.int .i64 ((rd_T65 l0_0 x9_4).f0), .int .i64 ((rd_T65 l0_0 x9_4).f1), .int .i64 ((rd_T65 l0_0 x9_4).f2), .bool false]) ?_ 3 _ rfl; refine bl_ ?_; refine blk_put (cs := #[.int .i64 ((rd_T65 l0_0 x9_4).f0), .int .i64 ((rd_T65 l0_0 x9_4).f1), .int .i64 0, .bool false]) ?_ 2 _ rfl; refine bl_ ?_; refine blk_put (cs := #[.int .i64 ((rd_T65 l0_0 x9_4).f0), .int .i64 0, .int .i64 0, .bool false]) ?_ 1 _ rfl; refine bl_ ?_; refine blk_put (cs := #[.int .i64 0, .int .i64 0, .int .i64 0, .bool false]) ?_ 0 _ rfl; refine bl_ ?_; exact BK226.out))⟩; have n3_ : Aside0 (Below w.heap.size w w46) := ⟨(by rw [hw]; exact (be_ HB.out))⟩; clear hw HO_3 BK204 BK226 HB; have HO_3 := n0_; have BK204 := n1_; have BK226 := n2_; have HB := n3_; clear n0_ n1_ n2_ n3_; obtain ⟨hcz47_0, hcz47_1, hcz47_2, hcz47_3, hfz47_0, hfz47_1, hfz47_2, hfz47_3⟩ := cz4_ BK226.out; have p41 : 0 ≤ (x9_4 : Int) := of_decide_eq_true (by first | (with_reducible assumption) | assumption); have q41 : (x9_4 : Int) < ((x3_4.length : Int) : Int) := of_decide_eq_true (by first | (with_reducible assumption) | assumption); obtain ⟨go41, co41, eo41, gb41, gl41, cl41, HG41⟩ := Kd.R_form HO_3.out (by omega); (first | cases eo41 | (injection eo41 with ea_ en_ ec_; (first | subst ea_ | (injection ea_ with ea_; subst ea_)); subst ec_; clear en_)); have GB41 := Aside0.mk gb41; have GG41 := Aside0.mk HG41; clear gb41 gl41 HG41; obtain ⟨hx41_0, hf41_0⟩ := Kd.R_celln false HO_3.out (x9_4 : Int) p41 q41; replace p41 := eq_true p41; replace q41 := eq_true q41; obtain ⟨hy48_, hz48_⟩ := Kd.R_celln false HO_3.out (x9_4 : Int) (of_decide_eq_true (by first | (with_reducible assumption) | assumption)) (of_decide_eq_true (by first | (with_reducible assumption) | assumption)); have HP48 := Kd.R_putg HO_3.out (x9_4 : Int) true) | ((with_reducible refine gate_store (t := 4) (p := 127) rfl ?_); refine store_event (t := 4) (p := 127) (v := ?vo_w49) (w1 := (w46.setCell ⟨go41, (x9_4 : Int).toNat, none⟩ (.bool true))) ?hg ?ho ?hn ?hr ?_; (case ho => rfl); (case hg => rfl); (case hn => rfl); (case hr => first | (go_simp; done) | (go_simp; rfl)); intro w49 hw; have hg : w46.grownBy w49 (some go41) := (by rw [hw]; exact HP48.2); have hp_ : Kd.R Kd.bool 4 w49 w.heap.size (fun _ => True) (.slice (some ⟨go41, 0, none⟩) x3_4.length co41) y227 := (by rw [hw, Ny227.out]; exact HP48.1); clear HP48; have n0_ := Aside0.mk (hp_); have n1_ := Aside0.mk (blk_grown (g := gb204) (o := .cells #[.slice (some ad225) l0_0.length c0_0, .int .i64 a0_1, .int .i64 a0_2, .int .i64 a0_3, .int .i64 a0_4] 28 (0, 0)) (bl_ BK204.out) hg (Kd.R_ne HO_3.out BK204.out (by decide))); have n2_ := Aside0.mk (blk_grown (g := gb226) (o := .cells #[.int .i64 ((rd_T65 l0_0 x9_4).f0), .int .i64 ((rd_T65 l0_0 x9_4).f1), .int .i64 ((rd_T65 l0_0 x9_4).f2), .bool false] 65 (0, 0)) (bl_ BK226.out) hg (Kd.R_ne HO_3.out BK226.out (by decide))); have n3_ := Aside0.mk ((by rw [hw]; exact below_set (HB.out) GB41.out : Below w.heap.size w w49)); clear HO_3 BK204 BK226 HB; have HO_3 := n0_; have BK204 := n1_; have BK226 := n2_; have HB := n3_; clear n0_ n1_ n2_ n3_; clear hg hw hp_; obtain ⟨hcz50_0, hcz50_1, hcz50_2, hcz50_3, hcz50_4, hfz50_0, hfz50_1, hfz50_2, hfz50_3, hfz50_4⟩ := cz5_ BK204.out; have p228 : 0 ≤ (x9_4 : Int) := of_decide_eq_true (by first | (with_reducible assumption) | assumption); have q228 : x9_4 < (l0_0.length : Int) := of_decide_eq_true (by first | (with_reducible assumption) | assumption); obtain ⟨ad228, e228, hx228_0, hx228_1, hx228_2, hx228_3⟩ := at_T65 HR0_0.out x9_4 p228 q228; (try rw [← Nbq32.out] at hx228_3); obtain rfl : ad225 = ad228 := (by injection e228); replace hx228_0 := (HB.out.cell (World.block_lt_of_cell? w _ hx228_0)).trans hx228_0; replace hx228_1 := (HB.out.cell (World.block_lt_of_cell? w _ hx228_1)).trans hx228_1; replace hx228_2 := (HB.out.cell (World.block_lt_of_cell? w _ hx228_2)).trans hx228_2; replace hx228_3 := (HB.out.cell (World.block_lt_of_cell? w _ hx228_3)).trans hx228_3; replace p228 := eq_true p228; replace q228 := eq_true q228))
                                              go_roundg kj22
                                              case measure => have := HJ1.out; have := HK2.out; have := HJ15.out; have := HK4.out; have := HJ22.out; omega
                                              case rel => exact ⟨(y227), (wrap64 (x5_4 + 1)), ((rd_T65 l0_0 x9_4).f2), (by first | rfl | (simp; done) | (simp [*]; done)), (by first | rfl | (simp; done) | (simp [*]; done)), H', ⟨by have := HJ1.out; have := HK2.out; have := HJ15.out; have := HK4.out; have := HJ22.out; omega⟩, ⟨by (with_reducible repeat (first | apply Kd.R_alloc | apply Kd.R_drewN | apply Kd.R_drew)); exact HO_3.out⟩, ⟨by refine bl_ ?_; exact BK204.out⟩, ⟨be_ HB.out⟩⟩
                                            · rw [if_neg c40] at H
                                              exact absurd H (by simp)
                                          · rw [if_neg c39] at H
                                            have c39b0 : (((rd_T65 l0_0 x9_4).f1) == (-1)) = false := beq_eq_false_iff_ne.mpr c39
                                            have c39b1 : (((rd_T65 l0_0 x9_4).f1) != (-1)) = true := bne_iff_ne.mpr c39
                                            obtain rfl := Option.some.inj H
                                            have hcz51_0 : wc.cell? ⟨gb204, 0, none⟩ = some (.slice A0_0 l0_0.length c0_0) := (blk_cell BK204.out 0).trans rfl
                                            have hcz51_1 : wc.cell? ⟨gb204, 1, none⟩ = some (.int .i64 a0_1) := (blk_cell BK204.out 1).trans rfl
                                            have hcz51_2 : wc.cell? ⟨gb204, 2, none⟩ = some (.int .i64 a0_2) := (blk_cell BK204.out 2).trans rfl
                                            have hcz51_3 : wc.cell? ⟨gb204, 3, none⟩ = some (.int .i64 a0_3) := (blk_cell BK204.out 3).trans rfl
                                            have hcz51_4 : wc.cell? ⟨gb204, 4, none⟩ = some (.int .i64 a0_4) := (blk_cell BK204.out 4).trans rfl
                                            have hfz51_0 := blk_frozen BK204.out 0
                                            have hfz51_1 := blk_frozen BK204.out 1
                                            have hfz51_2 := blk_frozen BK204.out 2
                                            have hfz51_3 := blk_frozen BK204.out 3
                                            have hfz51_4 := blk_frozen BK204.out 4
                                            have p225 : 0 ≤ (x9_4 : Int) := of_decide_eq_true (by first | (with_reducible assumption) | assumption)
                                            have q225 : x9_4 < (l0_0.length : Int) := of_decide_eq_true (by first | (with_reducible assumption) | assumption)
                                            obtain ⟨ad225, e225, hx225_0, hx225_1, hx225_2, hx225_3⟩ := at_T65 HR0_0.out x9_4 p225 q225
                                            (try rw [← Nbq32.out] at hx225_3)
                                            cases e225
                                            replace hx225_0 := (HB.out.cell (World.block_lt_of_cell? w _ hx225_0)).trans hx225_0
                                            replace hx225_1 := (HB.out.cell (World.block_lt_of_cell? w _ hx225_1)).trans hx225_1
                                            replace hx225_2 := (HB.out.cell (World.block_lt_of_cell? w _ hx225_2)).trans hx225_2
                                            replace hx225_3 := (HB.out.cell (World.block_lt_of_cell? w _ hx225_3)).trans hx225_3
                                            replace p225 := eq_true p225
                                            replace q225 := eq_true q225
                                            go_wp2_with (first | ((with_reducible refine gate_dst (N := 10) rfl ?_); refine box_event ?hg (N := 10) ?hd (cs := #[.int .i64 0, .int .i64 0, .int .i64 0, .bool false]) (t := 65) ?hr ?_; (case hd => rfl); (case hg => rfl); (case hr => first | (go_simp; done) | (go_simp; rfl)); intro gb226 hg w52 hbox hb; have n0_ := Aside0.mk (Kd.R_below (ro_ HO_3.out) hb); have n1_ := Aside0.mk (blk_below (g := gb204) (o := .cells #[.slice (some ad225) l0_0.length c0_0, .int .i64 a0_1, .int .i64 a0_2, .int .i64 a0_3, .int .i64 a0_4] 28 (0, 0)) (bl_ BK204.out) hb); have n2_ := Aside0.mk (below_step (be_ HB.out) hb); have n3_ := Aside0.mk (hbox); have n4_ := Aside0.mk ((by rw [hg]; exact (below_size (be_ HB.out)) : w.heap.size ≤ gb226)); have n5_ := Aside0.mk ((by rw [hg]; exact (below_size (be_ HB.out)) : w.heap.size ≤ gb226)); have n6_ := Aside0.mk ((by rw [hg]; exact Nat.ne_of_lt (blk_lt (g := gb204) (o := .cells #[.slice (some ad225) l0_0.length c0_0, .int .i64 a0_1, .int .i64 a0_2, .int .i64 a0_3, .int .i64 a0_4] 28 (0, 0)) (bl_ BK204.out)) : gb204 ≠ gb226)); have n7_ := Aside0.mk ((by rw [hg]; exact Nat.ne_of_gt (blk_lt (g := gb204) (o := .cells #[.slice (some ad225) l0_0.length c0_0, .int .i64 a0_1, .int .i64 a0_2, .int .i64 a0_3, .int .i64 a0_4] 28 (0, 0)) (bl_ BK204.out)) : gb226 ≠ gb204)); clear HO_3 BK204 HB; have HO_3 := n0_; have BK204 := n1_; have HB := n2_; have BK226 := n3_; have GW226 := n4_; have GE226 := n5_; have NB204_226 := n6_; have NB226_204 := n7_; clear n0_ n1_ n2_ n3_ n4_ n5_ n6_ n7_; clear hb hbox hg; have hnb53 := NB226_204.out; have hnc53 := NB204_226.out; obtain ⟨hcz54_0, hcz54_1, hcz54_2, hcz54_3, hfz54_0, hfz54_1, hfz54_2, hfz54_3⟩ := cz4_ BK226.out))
                                            go_ret
                                            exact ⟨by first | rfl | (simp [errW_none, errW_some] <;> rfl) | (simp [*, errW_none, errW_some] <;> rfl), be_ HB.out⟩
                                        · rw [if_neg c38] at H
                                          have c38b0 : (((rd_T65 l0_0 x9_4).f0) == 0) = false := beq_eq_false_iff_ne.mpr c38
                                          have c38b1 : (((rd_T65 l0_0 x9_4).f0) != 0) = true := bne_iff_ne.mpr c38
                                          obtain rfl := Option.some.inj H
                                          have hcz55_0 : wc.cell? ⟨gb204, 0, none⟩ = some (.slice A0_0 l0_0.length c0_0) := (blk_cell BK204.out 0).trans rfl
                                          have hcz55_1 : wc.cell? ⟨gb204, 1, none⟩ = some (.int .i64 a0_1) := (blk_cell BK204.out 1).trans rfl
                                          have hcz55_2 : wc.cell? ⟨gb204, 2, none⟩ = some (.int .i64 a0_2) := (blk_cell BK204.out 2).trans rfl
                                          have hcz55_3 : wc.cell? ⟨gb204, 3, none⟩ = some (.int .i64 a0_3) := (blk_cell BK204.out 3).trans rfl
                                          have hcz55_4 : wc.cell? ⟨gb204, 4, none⟩ = some (.int .i64 a0_4) := (blk_cell BK204.out 4).trans rfl
                                          have hfz55_0 := blk_frozen BK204.out 0
                                          have hfz55_1 := blk_frozen BK204.out 1
                                          have hfz55_2 := blk_frozen BK204.out 2
                                          have hfz55_3 := blk_frozen BK204.out 3
                                          have hfz55_4 := blk_frozen BK204.out 4
                                          have p225 : 0 ≤ (x9_4 : Int) := of_decide_eq_true (by first | (with_reducible assumption) | assumption)
                                          have q225 : x9_4 < (l0_0.length : Int) := of_decide_eq_true (by first | (with_reducible assumption) | assumption)
                                          obtain ⟨ad225, e225, hx225_0, hx225_1, hx225_2, hx225_3⟩ := at_T65 HR0_0.out x9_4 p225 q225
                                          (try rw [← Nbq32.out] at hx225_3)
                                          cases e225
                                          replace hx225_0 := (HB.out.cell (World.block_lt_of_cell? w _ hx225_0)).trans hx225_0
                                          replace hx225_1 := (HB.out.cell (World.block_lt_of_cell? w _ hx225_1)).trans hx225_1
                                          replace hx225_2 := (HB.out.cell (World.block_lt_of_cell? w _ hx225_2)).trans hx225_2
                                          replace hx225_3 := (HB.out.cell (World.block_lt_of_cell? w _ hx225_3)).trans hx225_3
                                          replace p225 := eq_true p225
                                          replace q225 := eq_true q225
                                          go_wp2_with (first | ((with_reducible refine gate_dst (N := 10) rfl ?_); refine box_event ?hg (N := 10) ?hd (cs := #[.int .i64 0, .int .i64 0, .int .i64 0, .bool false]) (t := 65) ?hr ?_; (case hd => rfl); (case hg => rfl); (case hr => first | (go_simp; done) | (go_simp; rfl)); intro gb226 hg w56 hbox hb; have n0_ := Aside0.mk (Kd.R_below (ro_ HO_3.out) hb); have n1_ := Aside0.mk (blk_below (g := gb204) (o := .cells #[.slice (some ad225) l0_0.length c0_0, .int .i64 a0_1, .int .i64 a0_2, .int .i64 a0_3, .int .i64 a0_4] 28 (0, 0)) (bl_ BK204.out) hb); have n2_ := Aside0.mk (below_step (be_ HB.out) hb); have n3_ := Aside0.mk (hbox); have n4_ := Aside0.mk ((by rw [hg]; exact (below_size (be_ HB.out)) : w.heap.size ≤ gb226)); have n5_ := Aside0.mk ((by rw [hg]; exact (below_size (be_ HB.out)) : w.heap.size ≤ gb226)); have n6_ := Aside0.mk ((by rw [hg]; exact Nat.ne_of_lt (blk_lt (g := gb204) (o := .cells #[.slice (some ad225) l0_0.length c0_0, .int .i64 a0_1, .int .i64 a0_2, .int .i64 a0_3, .int .i64 a0_4] 28 (0, 0)) (bl_ BK204.out)) : gb204 ≠ gb226)); have n7_ := Aside0.mk ((by rw [hg]; exact Nat.ne_of_gt (blk_lt (g := gb204) (o := .cells #[.slice (some ad225) l0_0.length c0_0, .int .i64 a0_1, .int .i64 a0_2, .int .i64 a0_3, .int .i64 a0_4] 28 (0, 0)) (bl_ BK204.out)) : gb226 ≠ gb204)); clear HO_3 BK204 HB; have HO_3 := n0_; have BK204 := n1_; have HB := n2_; have BK226 := n3_; have GW226 := n4_; have GE226 := n5_; have NB204_226 := n6_; have NB226_204 := n7_; clear n0_ n1_ n2_ n3_ n4_ n5_ n6_ n7_; clear hb hbox hg; have hnb57 := NB226_204.out; have hnc57 := NB204_226.out; obtain ⟨hcz58_0, hcz58_1, hcz58_2, hcz58_3, hfz58_0, hfz58_1, hfz58_2, hfz58_3⟩ := cz4_ BK226.out))
                                          go_ret
                                          exact ⟨by first | rfl | (simp [errW_none, errW_some] <;> rfl) | (simp [*, errW_none, errW_some] <;> rfl), be_ HB.out⟩
                                    · rw [if_neg c31] at H
                                      exact absurd H (by simp)
                                  · rw [if_neg c30] at H
                                    exact absurd H (by simp)
              · rw [if_neg c15] at H
                have c15b0 : (x7_2 == (-1)) = false := beq_eq_false_iff_ne.mpr c15
                have c15b1 : (x7_2 != (-1)) = true := bne_iff_ne.mpr c15
                have HC59 := Aside0.mk H
                clear H
                go_upto_region 10 with (fail)
                go_cut [41] (fun v41 wc => ∃ (kq : Nat) (x41_58 : Bool), v41 = .bool x41_58 ∧ Aside0 (spec_QueueOk.j2 kq x3_2 x4_2 x5_2 x6_2 x7_2 x41_58 l0_0 a0_1 a0_2 a0_3 a0_4 = some r) ∧ Aside0 (kq ≤ k2) ∧ Aside0 (Kd.R Kd.bool 4 wc w.heap.size (fun _ => True) v207 x3_2) ∧ Aside0 (Kd.R (Kd.int .i64) 3 wc w.heap.size (fun _ => True) u4 x4_2) ∧ Aside0 (wc.heap[gb204]? = some (.cells #[(.slice A0_0 l0_0.length c0_0), .int .i64 a0_1, .int .i64 a0_2, .int .i64 a0_3, .int .i64 a0_4] 28 (0, 0))) ∧ Aside0 (Below w.heap.size w wc))
                case first =>
                  have H := HC59.out
                  clear HC59
                  replace H := Option.bind_eq_some_iff.mp H
                  obtain ⟨t212, A600, H⟩ := H
                  replace H : (if t212 = true then (if 0 ≤ x7_2 then (if x7_2 < (x3_2.length : Int) then (spec_QueueOk.j2 k2 x3_2 x4_2 x5_2 x6_2 x7_2 (rdOf false x3_2 x7_2) l0_0 a0_1 a0_2 a0_3 a0_4) else (none)) else (none)) else (spec_QueueOk.j2 k2 x3_2 x4_2 x5_2 x6_2 x7_2 true l0_0 a0_1 a0_2 a0_3 a0_4)) = some r := H
                  have A60 := Aside0.mk A600
                  clear A600
                  by_cases c61 : t212 = true
                  · subst c61
                    have H1 : (if 0 ≤ x7_2 then (if x7_2 < (x3_2.length : Int) then (spec_QueueOk.j2 k2 x3_2 x4_2 x5_2 x6_2 x7_2 (rdOf false x3_2 x7_2) l0_0 a0_1 a0_2 a0_3 a0_4) else (none)) else (none)) = some r := by rw [if_pos rfl] at H; exact H
                    clear H
                    have H := H1
                    clear H1
                    by_cases c62 : 0 ≤ x7_2
                    · rw [if_pos c62] at H
                      have c62b0 : decide (0 ≤ x7_2) = true := decide_eq_true c62
                      clear c62
                      (first | rw [c62b0] | (simp only [i64_w, i32_w]; rw [c62b0]) | skip)
                      by_cases c63 : x7_2 < (x3_2.length : Int)
                      · rw [if_pos c63] at H
                        have c63b0 : decide (x7_2 < (x3_2.length : Int)) = true := decide_eq_true c63
                        clear c63
                        have H' := Aside0.mk H
                        clear H
                        go_wp2_with (first | ((with_reducible refine gate_callee (f := 54) rfl ?_); refine goesL_ (some 34) rfl rfl Try.func54 (by kernel_rfl) rfl #[.int .i64 x7_2, .int .i64 0, .int .i64 59] rfl (by (try simp only [List.map_toArray, List.map_cons, List.map_nil]); first | done | rfl | (simp only [List.length_drop, List.length_take]; rfl)) ?_; (with_reducible refine (spec_l01In.calls x7_2 0 59 true _ A60.out).mono ?_); rintro e w' ⟨rfl, ⟨nd, rfl⟩⟩; refine ⟨_, rfl, ?_⟩; obtain ⟨Ao64, co64, eo64⟩ := Kd.R_slice HO_3.out; subst eo64; have p213 : 0 ≤ (x7_2 : Int) := of_decide_eq_true (by first | (with_reducible assumption) | assumption); have q213 : x7_2 < (x3_2.length : Int) := of_decide_eq_true (by first | (with_reducible assumption) | assumption); obtain ⟨ad213, e213, hx213_0⟩ := Kd.at_bool (Kd.R_reads' HO_3.out).2.2 x7_2 p213 q213; cases e213; replace p213 := eq_true p213; replace q213 := eq_true q213))
                        go_meet
                        case rel => exact ⟨_, (rdOf false x3_2 x7_2), (by first | rfl | (simp; done) | (simp [*]; done)), H', ⟨by have := HJ1.out; have := HK2.out; first | omega | exact Nat.le_refl _⟩, ⟨by (with_reducible repeat (first | apply Kd.R_alloc | apply Kd.R_drewN | apply Kd.R_drew)); exact HO_3.out⟩, ⟨by (with_reducible repeat (first | apply Kd.R_alloc | apply Kd.R_drewN | apply Kd.R_drew)); exact HO_4.out⟩, ⟨by refine bl_ ?_; exact BK204.out⟩, ⟨be_ HB.out⟩⟩
                      · rw [if_neg c63] at H
                        exact absurd H (by simp)
                    · rw [if_neg c62] at H
                      exact absurd H (by simp)
                  · replace c61 := Bool.eq_false_iff.mpr c61
                    subst c61
                    have H1 : (spec_QueueOk.j2 k2 x3_2 x4_2 x5_2 x6_2 x7_2 true l0_0 a0_1 a0_2 a0_3 a0_4) = some r := by rw [if_neg (show ¬ (false = true) by decide)] at H; exact H
                    clear H
                    have H := H1
                    clear H1
                    have H' := Aside0.mk H
                    clear H
                    go_wp2_with (first | ((with_reducible refine gate_callee (f := 54) rfl ?_); refine goesL_ (some 34) rfl rfl Try.func54 (by kernel_rfl) rfl #[.int .i64 x7_2, .int .i64 0, .int .i64 59] rfl (by (try simp only [List.map_toArray, List.map_cons, List.map_nil]); first | done | rfl | (simp only [List.length_drop, List.length_take]; rfl)) ?_; (with_reducible refine (spec_l01In.calls x7_2 0 59 false _ A60.out).mono ?_); rintro e w' ⟨rfl, ⟨nd, rfl⟩⟩; refine ⟨_, rfl, ?_⟩))
                    go_meet
                    case rel => exact ⟨_, (true), (by first | rfl | (simp; done) | (simp [*]; done)), H', ⟨by have := HJ1.out; have := HK2.out; first | omega | exact Nat.le_refl _⟩, ⟨by (with_reducible repeat (first | apply Kd.R_alloc | apply Kd.R_drewN | apply Kd.R_drew)); exact HO_3.out⟩, ⟨by (with_reducible repeat (first | apply Kd.R_alloc | apply Kd.R_drewN | apply Kd.R_drew)); exact HO_4.out⟩, ⟨by refine bl_ ?_; exact BK204.out⟩, ⟨be_ HB.out⟩⟩
                case rest =>
                  clear HC59
                  try clear c1
                  try clear c2
                  try clear p2
                  try clear q2
                  try clear hx2
                  try clear c3
                  try clear q3
                  try clear c4
                  try clear c4b0
                  try clear c4b1
                  try clear p4
                  try clear q4
                  try clear hx4
                  try clear hf4
                  try clear c5
                  try clear c6
                  try clear p6
                  try clear c8
                  try clear c9
                  try clear c9b0
                  try clear c9b1
                  try clear c15
                  try clear c15b0
                  try clear c15b1
                  try clear c17
                  try clear c17b0
                  try clear c17b1
                  try clear c20
                  try clear p21
                  try clear q21
                  try clear hx21
                  try clear c22
                  try clear c22b0
                  try clear c22b1
                  try clear p22
                  try clear q22
                  try clear hx22
                  try clear c24
                  try clear c25
                  try clear c26
                  try clear c26b0
                  try clear c27
                  try clear c27b0
                  try clear c29
                  try clear c30
                  try clear c30b0
                  try clear c31
                  try clear c31b0
                  try clear q32
                  try clear c33
                  try clear c36
                  try clear c38
                  try clear c38b0
                  try clear c38b1
                  try clear c39
                  try clear c39b0
                  try clear c39b1
                  try clear c40
                  try clear c40b0
                  try clear p41
                  try clear q41
                  try clear hx41
                  try clear hf41
                  try clear c44
                  try clear c53
                  try clear c54
                  try clear c57
                  try clear c61
                  try clear c62
                  try clear c62b0
                  try clear c63
                  try clear c63b0
                  try clear p64
                  try clear hcz14_0
                  try clear hcz14_1
                  try clear hcz14_2
                  try clear hcz14_3
                  try clear hcz14_4
                  try clear hcz18_0
                  try clear hcz18_1
                  try clear hcz18_2
                  try clear hcz18_3
                  try clear hcz18_4
                  try clear hcz19_0
                  try clear hcz19_1
                  try clear hcz19_2
                  try clear hcz19_3
                  try clear hcz19_4
                  try clear hcz21_0
                  try clear hcz21_1
                  try clear hcz21_2
                  try clear hcz21_3
                  try clear hcz21_4
                  try clear hcz34_0
                  try clear hcz34_1
                  try clear hcz34_2
                  try clear hcz34_3
                  try clear hcz34_4
                  try clear hcz37_0
                  try clear hcz37_1
                  try clear hcz37_2
                  try clear hcz37_3
                  try clear hcz42_0
                  try clear hcz42_1
                  try clear hcz42_2
                  try clear hcz42_3
                  try clear hcz42_4
                  try clear hcz45_0
                  try clear hcz45_1
                  try clear hcz45_2
                  try clear hcz45_3
                  try clear hcz47_0
                  try clear hcz47_1
                  try clear hcz47_2
                  try clear hcz47_3
                  try clear hcz50_0
                  try clear hcz50_1
                  try clear hcz50_2
                  try clear hcz50_3
                  try clear hcz50_4
                  try clear hcz51_0
                  try clear hcz51_1
                  try clear hcz51_2
                  try clear hcz51_3
                  try clear hcz51_4
                  try clear hcz54_0
                  try clear hcz54_1
                  try clear hcz54_2
                  try clear hcz54_3
                  try clear hcz55_0
                  try clear hcz55_1
                  try clear hcz55_2
                  try clear hcz55_3
                  try clear hcz55_4
                  try clear hcz58_0
                  try clear hcz58_1
                  try clear hcz58_2
                  try clear hcz58_3
                  try clear hcz6_0
                  try clear hcz6_1
                  try clear hcz6_2
                  try clear hcz6_3
                  try clear hcz6_4
                  try clear hcz7_0
                  try clear hcz7_1
                  try clear hcz7_2
                  try clear hcz7_3
                  try clear hcz7_4
                  try clear hfz14_0
                  try clear hfz14_1
                  try clear hfz14_2
                  try clear hfz14_3
                  try clear hfz14_4
                  try clear hfz18_0
                  try clear hfz18_1
                  try clear hfz18_2
                  try clear hfz18_3
                  try clear hfz18_4
                  try clear hfz19_0
                  try clear hfz19_1
                  try clear hfz19_2
                  try clear hfz19_3
                  try clear hfz19_4
                  try clear hfz21_0
                  try clear hfz21_1
                  try clear hfz21_2
                  try clear hfz21_3
                  try clear hfz21_4
                  try clear hfz34_0
                  try clear hfz34_1
                  try clear hfz34_2
                  try clear hfz34_3
                  try clear hfz34_4
                  try clear hfz37_0
                  try clear hfz37_1
                  try clear hfz37_2
                  try clear hfz37_3
                  try clear hfz42_0
                  try clear hfz42_1
                  try clear hfz42_2
                  try clear hfz42_3
                  try clear hfz42_4
                  try clear hfz45_0
                  try clear hfz45_1
                  try clear hfz45_2
                  try clear hfz45_3
                  try clear hfz47_0
                  try clear hfz47_1
                  try clear hfz47_2
                  try clear hfz47_3
                  try clear hfz50_0
                  try clear hfz50_1
                  try clear hfz50_2
                  try clear hfz50_3
                  try clear hfz50_4
                  try clear hfz51_0
                  try clear hfz51_1
                  try clear hfz51_2
                  try clear hfz51_3
                  try clear hfz51_4
                  try clear hfz54_0
                  try clear hfz54_1
                  try clear hfz54_2
                  try clear hfz54_3
                  try clear hfz55_0
                  try clear hfz55_1
                  try clear hfz55_2
                  try clear hfz55_3
                  try clear hfz55_4
                  try clear hfz58_0
                  try clear hfz58_1
                  try clear hfz58_2
                  try clear hfz58_3
                  try clear hfz6_0
                  try clear hfz6_1
                  try clear hfz6_2
                  try clear hfz6_3
                  try clear hfz6_4
                  try clear hfz7_0
                  try clear hfz7_1
                  try clear hfz7_2
                  try clear hfz7_3
                  try clear hfz7_4
                  try clear hx213_0
                  try clear hx224_0
                  try clear hx225_0
                  try clear hx225_1
                  try clear hx225_2
                  try clear hx225_3
                  try clear hx228_0
                  try clear hx228_1
                  try clear hx228_2
                  try clear hx228_3
                  try clear hx41_0
                  try clear p2
                  try clear p213
                  try clear p22
                  try clear p224
                  try clear p225
                  try clear p228
                  try clear p41
                  try clear q2
                  try clear q213
                  try clear q22
                  try clear q224
                  try clear q225
                  try clear q228
                  try clear q41
                  obtain ⟨kq, x41_58, rfl, HA, HJ58, HO_3, HO_4, BK204, HB⟩ := hcut
                  cases kq with
                  | zero => exact absurd HA.out (by simp [spec_QueueOk.j2])
                  | succ kj58 =>
                    have H := HA.out
                    clear HA
                    simp only [spec_QueueOk.j2] at H
                    by_cases c65 : x41_58 = true
                    · subst c65
                      have H1 : (some false) = some r := by rw [if_pos rfl] at H; exact H
                      clear H
                      have H := H1
                      clear H1
                      obtain rfl := Option.some.inj H
                      go_wp2
                      go_ret
                      exact ⟨by first | rfl | (simp [errW_none, errW_some] <;> rfl) | (simp [*, errW_none, errW_some] <;> rfl), be_ HB.out⟩
                    · replace c65 := Bool.eq_false_iff.mpr c65
                      subst c65
                      have H1 : (if 0 ≤ x7_2 then (if x7_2 < (l0_0.length : Int) then (if ((rd_T65 l0_0 x7_2).f3 = true) then (if ((rd_T65 l0_0 x7_2).f1) = x6_2 then ((spec_l01In.f ((rd_T65 l0_0 x7_2).f0) 1 1000000000).bind fun t216 => (if t216 = true then ((spec_l01Has.f kj58 x4_2 ((rd_T65 l0_0 x7_2).f0)).bind fun t217 => (if t217 = true then (some false) else (if x7_2 < (x3_2.length : Int) then (if x4_2.length < 17592186044416 then (spec_QueueOk.l0 kj58 (x3_2.set (x7_2 : Int).toNat true) (x4_2 ++ [(rd_T65 l0_0 x7_2).f0]) (wrap64 (x5_2 + 1)) x7_2 ((rd_T65 l0_0 x7_2).f2) l0_0 a0_1 a0_2 a0_3 a0_4) else (none)) else (none)))) else (some false))) else (some false)) else (some false)) else (none)) else (none)) = some r := by rw [if_neg (show ¬ (false = true) by decide)] at H; exact H
                      clear H
                      have H := H1
                      clear H1
                      by_cases c66 : 0 ≤ x7_2
                      · rw [if_pos c66] at H
                        have c66b0 : decide (0 ≤ x7_2) = true := decide_eq_true c66
                        clear c66
                        by_cases c67 : x7_2 < (l0_0.length : Int)
                        · rw [if_pos c67] at H
                          have c67b0 : decide (x7_2 < (l0_0.length : Int)) = true := decide_eq_true c67
                          clear c67
                          obtain ⟨bq68, hbq68⟩ : ∃ b_ : Bool, b_ = ((rd_T65 l0_0 x7_2).f3) := ⟨_, rfl⟩
                          replace H : (if (bq68 = true) then (if ((rd_T65 l0_0 x7_2).f1) = x6_2 then ((spec_l01In.f ((rd_T65 l0_0 x7_2).f0) 1 1000000000).bind fun t216 => (if t216 = true then ((spec_l01Has.f kj58 x4_2 ((rd_T65 l0_0 x7_2).f0)).bind fun t217 => (if t217 = true then (some false) else (if x7_2 < (x3_2.length : Int) then (if x4_2.length < 17592186044416 then (spec_QueueOk.l0 kj58 (x3_2.set (x7_2 : Int).toNat true) (x4_2 ++ [(rd_T65 l0_0 x7_2).f0]) (wrap64 (x5_2 + 1)) x7_2 ((rd_T65 l0_0 x7_2).f2) l0_0 a0_1 a0_2 a0_3 a0_4) else (none)) else (none)))) else (some false))) else (some false)) else (some false)) = some r := by rw [← hbq68] at H; exact H
                          have Nbq68 := Aside0.mk hbq68
                          clear hbq68
                          by_cases c69 : (bq68 = true)
                          · subst c69
                            have H1 : (if ((rd_T65 l0_0 x7_2).f1) = x6_2 then ((spec_l01In.f ((rd_T65 l0_0 x7_2).f0) 1 1000000000).bind fun t216 => (if t216 = true then ((spec_l01Has.f kj58 x4_2 ((rd_T65 l0_0 x7_2).f0)).bind fun t217 => (if t217 = true then (some false) else (if x7_2 < (x3_2.length : Int) then (if x4_2.length < 17592186044416 then (spec_QueueOk.l0 kj58 (x3_2.set (x7_2 : Int).toNat true) (x4_2 ++ [(rd_T65 l0_0 x7_2).f0]) (wrap64 (x5_2 + 1)) x7_2 ((rd_T65 l0_0 x7_2).f2) l0_0 a0_1 a0_2 a0_3 a0_4) else (none)) else (none)))) else (some false))) else (some false)) = some r := by rw [if_pos rfl] at H; exact H
                            clear H
                            have H := H1
                            clear H1
                            by_cases c70 : ((rd_T65 l0_0 x7_2).f1) = x6_2
                            · rw [if_pos c70] at H
                              have c70b0 : (((rd_T65 l0_0 x7_2).f1) == x6_2) = true := beq_iff_eq.mpr c70
                              have c70b1 : (((rd_T65 l0_0 x7_2).f1) != x6_2) = false := bne_eq_false_iff_eq.mpr c70
                              clear c70
                              replace H := Option.bind_eq_some_iff.mp H
                              obtain ⟨t216, A710, H⟩ := H
                              replace H : (if t216 = true then ((spec_l01Has.f kj58 x4_2 ((rd_T65 l0_0 x7_2).f0)).bind fun t217 => (if t217 = true then (some false) else (if x7_2 < (x3_2.length : Int) then (if x4_2.length < 17592186044416 then (spec_QueueOk.l0 kj58 (x3_2.set (x7_2 : Int).toNat true) (x4_2 ++ [(rd_T65 l0_0 x7_2).f0]) (wrap64 (x5_2 + 1)) x7_2 ((rd_T65 l0_0 x7_2).f2) l0_0 a0_1 a0_2 a0_3 a0_4) else (none)) else (none)))) else (some false)) = some r := H
                              have A71 := Aside0.mk A710
                              clear A710
                              by_cases c72 : t216 = true
                              · subst c72
                                have H1 : ((spec_l01Has.f kj58 x4_2 ((rd_T65 l0_0 x7_2).f0)).bind fun t217 => (if t217 = true then (some false) else (if x7_2 < (x3_2.length : Int) then (if x4_2.length < 17592186044416 then (spec_QueueOk.l0 kj58 (x3_2.set (x7_2 : Int).toNat true) (x4_2 ++ [(rd_T65 l0_0 x7_2).f0]) (wrap64 (x5_2 + 1)) x7_2 ((rd_T65 l0_0 x7_2).f2) l0_0 a0_1 a0_2 a0_3 a0_4) else (none)) else (none)))) = some r := by rw [if_pos rfl] at H; exact H
                                clear H
                                have H := H1
                                clear H1
                                replace H := Option.bind_eq_some_iff.mp H
                                obtain ⟨t217, A730, H⟩ := H
                                replace H : (if t217 = true then (some false) else (if x7_2 < (x3_2.length : Int) then (if x4_2.length < 17592186044416 then (spec_QueueOk.l0 kj58 (x3_2.set (x7_2 : Int).toNat true) (x4_2 ++ [(rd_T65 l0_0 x7_2).f0]) (wrap64 (x5_2 + 1)) x7_2 ((rd_T65 l0_0 x7_2).f2) l0_0 a0_1 a0_2 a0_3 a0_4) else (none)) else (none))) = some r := H
                                have A73 := Aside0.mk A730
                                clear A730
                                by_cases c74 : t217 = true
                                · subst c74
                                  have H1 : (some false) = some r := by rw [if_pos rfl] at H; exact H
                                  clear H
                                  have H := H1
                                  clear H1
                                  obtain rfl := Option.some.inj H
                                  have hcz75_0 : wc.cell? ⟨gb204, 0, none⟩ = some (.slice A0_0 l0_0.length c0_0) := (blk_cell BK204.out 0).trans rfl
                                  have hcz75_1 : wc.cell? ⟨gb204, 1, none⟩ = some (.int .i64 a0_1) := (blk_cell BK204.out 1).trans rfl
                                  have hcz75_2 : wc.cell? ⟨gb204, 2, none⟩ = some (.int .i64 a0_2) := (blk_cell BK204.out 2).trans rfl
                                  have hcz75_3 : wc.cell? ⟨gb204, 3, none⟩ = some (.int .i64 a0_3) := (blk_cell BK204.out 3).trans rfl
                                  have hcz75_4 : wc.cell? ⟨gb204, 4, none⟩ = some (.int .i64 a0_4) := (blk_cell BK204.out 4).trans rfl
                                  have hfz75_0 := blk_frozen BK204.out 0
                                  have hfz75_1 := blk_frozen BK204.out 1
                                  have hfz75_2 := blk_frozen BK204.out 2
                                  have hfz75_3 := blk_frozen BK204.out 3
                                  have hfz75_4 := blk_frozen BK204.out 4
                                  have p214 : 0 ≤ (x7_2 : Int) := of_decide_eq_true (by first | (with_reducible assumption) | assumption)
                                  have q214 : x7_2 < (l0_0.length : Int) := of_decide_eq_true (by first | (with_reducible assumption) | assumption)
                                  obtain ⟨ad214, e214, hx214_0, hx214_1, hx214_2, hx214_3⟩ := at_T65 HR0_0.out x7_2 p214 q214
                                  (try rw [← Nbq68.out] at hx214_3)
                                  cases e214
                                  replace hx214_0 := (HB.out.cell (World.block_lt_of_cell? w _ hx214_0)).trans hx214_0
                                  replace hx214_1 := (HB.out.cell (World.block_lt_of_cell? w _ hx214_1)).trans hx214_1
                                  replace hx214_2 := (HB.out.cell (World.block_lt_of_cell? w _ hx214_2)).trans hx214_2
                                  replace hx214_3 := (HB.out.cell (World.block_lt_of_cell? w _ hx214_3)).trans hx214_3
                                  replace p214 := eq_true p214
                                  replace q214 := eq_true q214
                                  go_wp2_with (first | ((with_reducible refine gate_dst (N := 8) rfl ?_); refine box_event ?hg (N := 8) ?hd (cs := #[.int .i64 0, .int .i64 0, .int .i64 0, .bool false]) (t := 65) ?hr ?_; (case hd => rfl); (case hg => rfl); (case hr => first | (go_simp; done) | (go_simp; rfl)); intro gb215 hg w76 hbox hb; have n0_ := Aside0.mk (Kd.R_below (ro_ HO_3.out) hb); have n1_ := Aside0.mk (Kd.R_below (ro_ HO_4.out) hb); have n2_ := Aside0.mk (blk_below (g := gb204) (o := .cells #[.slice (some ad214) l0_0.length c0_0, .int .i64 a0_1, .int .i64 a0_2, .int .i64 a0_3, .int .i64 a0_4] 28 (0, 0)) (bl_ BK204.out) hb); have n3_ := Aside0.mk (below_step (be_ HB.out) hb); have n4_ := Aside0.mk (hbox); have n5_ := Aside0.mk ((by rw [hg]; exact (below_size (be_ HB.out)) : w.heap.size ≤ gb215)); have n6_ := Aside0.mk ((by rw [hg]; exact (below_size (be_ HB.out)) : w.heap.size ≤ gb215)); have n7_ := Aside0.mk ((by rw [hg]; exact Nat.ne_of_lt (blk_lt (g := gb204) (o := .cells #[.slice (some ad214) l0_0.length c0_0, .int .i64 a0_1, .int .i64 a0_2, .int .i64 a0_3, .int .i64 a0_4] 28 (0, 0)) (bl_ BK204.out)) : gb204 ≠ gb215)); have n8_ := Aside0.mk ((by rw [hg]; exact Nat.ne_of_gt (blk_lt (g := gb204) (o := .cells #[.slice (some ad214) l0_0.length c0_0, .int .i64 a0_1, .int .i64 a0_2, .int .i64 a0_3, .int .i64 a0_4] 28 (0, 0)) (bl_ BK204.out)) : gb215 ≠ gb204)); clear HO_3 HO_4 BK204 HB; have HO_3 := n0_; have HO_4 := n1_; have BK204 := n2_; have HB := n3_; have BK215 := n4_; have GW215 := n5_; have GE215 := n6_; have NB204_215 := n7_; have NB215_204 := n8_; clear n0_ n1_ n2_ n3_ n4_ n5_ n6_ n7_ n8_; clear hb hbox hg; have hnb77 := NB215_204.out; have hnc77 := NB204_215.out; obtain ⟨hcz78_0, hcz78_1, hcz78_2, hcz78_3, hfz78_0, hfz78_1, hfz78_2, hfz78_3⟩ := cz4_ BK215.out) | (go_at_call 54; (with_reducible refine (spec_l01In.calls ((rd_T65 l0_0 x7_2).f0) 1 1000000000 true _ A71.out).mono ?_); rintro e w' ⟨rfl, ⟨nd, rfl⟩⟩; obtain ⟨Ao79, co79, eo79⟩ := Kd.R_slice HO_4.out; subst eo79) | (go_at_call 56; (with_reducible refine (spec_l01Has.calls kj58 _ _ x4_2 ((rd_T65 l0_0 x7_2).f0) true _ ?side1 ?side2 A73.out).mono ?_); (case side1 => refine (Kd.R_reads' (e := 3) (base := w.heap.size) (ok := fun k_ => True) (n := x4_2.length) (c := co79) ?_).2.2; exact (by (with_reducible repeat (first | apply Kd.R_alloc | apply Kd.R_drewN | apply Kd.R_drew)); exact (Kd.R_mono (Kd.R_far (p := ⟨gb215, 3, none⟩) (Kd.R_far (p := ⟨gb215, 2, none⟩) (Kd.R_far (p := ⟨gb215, 1, none⟩) (Kd.R_far (p := ⟨gb215, 0, none⟩) (Kd.R_types HO_4.out BK215.out (by decide)) (fun _ hk => hk.2) (.int .i64 ((rd_T65 l0_0 x7_2).f0))) (fun _ hk => hk.2) (.int .i64 ((rd_T65 l0_0 x7_2).f1))) (fun _ hk => hk.2) (.int .i64 ((rd_T65 l0_0 x7_2).f2))) (fun _ hk => hk.2) (.bool true)) (fun _ h_ => h_.1)))); (case side2 => exact (Kd.R_reads' HO_4.out).2.1); rintro e w' ⟨rfl, ⟨nd, rfl⟩⟩))
                                  go_ret
                                  exact ⟨by first | rfl | (simp [errW_none, errW_some] <;> rfl) | (simp [*, errW_none, errW_some] <;> rfl), be_ HB.out⟩
                                · replace c74 := Bool.eq_false_iff.mpr c74
                                  subst c74
                                  have H1 : (if x7_2 < (x3_2.length : Int) then (if x4_2.length < 17592186044416 then (spec_QueueOk.l0 kj58 (x3_2.set (x7_2 : Int).toNat true) (x4_2 ++ [(rd_T65 l0_0 x7_2).f0]) (wrap64 (x5_2 + 1)) x7_2 ((rd_T65 l0_0 x7_2).f2) l0_0 a0_1 a0_2 a0_3 a0_4) else (none)) else (none)) = some r := by rw [if_neg (show ¬ (false = true) by decide)] at H; exact H
                                  clear H
                                  have H := H1
                                  clear H1
                                  by_cases c80 : x7_2 < (x3_2.length : Int)
                                  · rw [if_pos c80] at H
                                    have c80b0 : decide (x7_2 < (x3_2.length : Int)) = true := decide_eq_true c80
                                    clear c80
                                    obtain ⟨y218, hy218⟩ : ∃ y_ : List Bool, y_ = (x3_2.set (x7_2 : Int).toNat true) := ⟨_, rfl⟩
                                    replace H : (if x4_2.length < 17592186044416 then (spec_QueueOk.l0 kj58 y218 (x4_2 ++ [(rd_T65 l0_0 x7_2).f0]) (wrap64 (x5_2 + 1)) x7_2 ((rd_T65 l0_0 x7_2).f2) l0_0 a0_1 a0_2 a0_3 a0_4) else (none)) = some r := by first | (rw [hy218]; with_reducible exact H) | (have H2_ := (Option.bind_some _ _).symm.trans H; rw [hy218]; with_reducible exact H2_) | (have H2_ := (Option.bind_some _ _).symm.trans H; with_reducible exact H2_) | with_reducible exact H | (rw [hy218]; exact H) | exact H
                                    have Ny218 := Aside0.mk hy218
                                    clear hy218
                                    by_cases c82 : x4_2.length < 17592186044416
                                    · rw [if_pos c82] at H
                                      have LMc82 := Aside0.mk c82
                                      clear c82
                                      obtain ⟨y219, hy219⟩ : ∃ y_ : List Int, y_ = (x4_2 ++ [(rd_T65 l0_0 x7_2).f0]) := ⟨_, rfl⟩
                                      replace H : (spec_QueueOk.l0 kj58 y218 y219 (wrap64 (x5_2 + 1)) x7_2 ((rd_T65 l0_0 x7_2).f2) l0_0 a0_1 a0_2 a0_3 a0_4) = some r := by first | (rw [hy219]; with_reducible exact H) | (have H2_ := (Option.bind_some _ _).symm.trans H; rw [hy219]; with_reducible exact H2_) | (have H2_ := (Option.bind_some _ _).symm.trans H; with_reducible exact H2_) | with_reducible exact H | (rw [hy219]; exact H) | exact H
                                      have Ny219 := Aside0.mk hy219
                                      clear hy219
                                      have H' := Aside0.mk H
                                      clear H
                                      have hcz83_0 : wc.cell? ⟨gb204, 0, none⟩ = some (.slice A0_0 l0_0.length c0_0) := (blk_cell BK204.out 0).trans rfl
                                      have hcz83_1 : wc.cell? ⟨gb204, 1, none⟩ = some (.int .i64 a0_1) := (blk_cell BK204.out 1).trans rfl
                                      have hcz83_2 : wc.cell? ⟨gb204, 2, none⟩ = some (.int .i64 a0_2) := (blk_cell BK204.out 2).trans rfl
                                      have hcz83_3 : wc.cell? ⟨gb204, 3, none⟩ = some (.int .i64 a0_3) := (blk_cell BK204.out 3).trans rfl
                                      have hcz83_4 : wc.cell? ⟨gb204, 4, none⟩ = some (.int .i64 a0_4) := (blk_cell BK204.out 4).trans rfl
                                      have hfz83_0 := blk_frozen BK204.out 0
                                      have hfz83_1 := blk_frozen BK204.out 1
                                      have hfz83_2 := blk_frozen BK204.out 2
                                      have hfz83_3 := blk_frozen BK204.out 3
                                      have hfz83_4 := blk_frozen BK204.out 4
                                      have p214 : 0 ≤ (x7_2 : Int) := of_decide_eq_true (by first | (with_reducible assumption) | assumption)
                                      have q214 : x7_2 < (l0_0.length : Int) := of_decide_eq_true (by first | (with_reducible assumption) | assumption)
                                      obtain ⟨ad214, e214, hx214_0, hx214_1, hx214_2, hx214_3⟩ := at_T65 HR0_0.out x7_2 p214 q214
                                      (try rw [← Nbq68.out] at hx214_3)
                                      cases e214
                                      replace hx214_0 := (HB.out.cell (World.block_lt_of_cell? w _ hx214_0)).trans hx214_0
                                      replace hx214_1 := (HB.out.cell (World.block_lt_of_cell? w _ hx214_1)).trans hx214_1
                                      replace hx214_2 := (HB.out.cell (World.block_lt_of_cell? w _ hx214_2)).trans hx214_2
                                      replace hx214_3 := (HB.out.cell (World.block_lt_of_cell? w _ hx214_3)).trans hx214_3
                                      replace p214 := eq_true p214
                                      replace q214 := eq_true q214
                                      go_wp2_with (first | ((with_reducible refine gate_dst (N := 8) rfl ?_); refine box_event ?hg (N := 8) ?hd (cs := #[.int .i64 0, .int .i64 0, .int .i64 0, .bool false]) (t := 65) ?hr ?_; (case hd => rfl); (case hg => rfl); (case hr => first | (go_simp; done) | (go_simp; rfl)); intro gb215 hg w84 hbox hb; have n0_ := Aside0.mk (Kd.R_below (ro_ HO_3.out) hb); have n1_ := Aside0.mk (Kd.R_below (ro_ HO_4.out) hb); have n2_ := Aside0.mk (blk_below (g := gb204) (o := .cells #[.slice (some ad214) l0_0.length c0_0, .int .i64 a0_1, .int .i64 a0_2, .int .i64 a0_3, .int .i64 a0_4] 28 (0, 0)) (bl_ BK204.out) hb); have n3_ := Aside0.mk (below_step (be_ HB.out) hb); have n4_ := Aside0.mk (hbox); have n5_ := Aside0.mk ((by rw [hg]; exact (below_size (be_ HB.out)) : w.heap.size ≤ gb215)); have n6_ := Aside0.mk ((by rw [hg]; exact (below_size (be_ HB.out)) : w.heap.size ≤ gb215)); have n7_ := Aside0.mk ((by rw [hg]; exact Nat.ne_of_lt (blk_lt (g := gb204) (o := .cells #[.slice (some ad214) l0_0.length c0_0, .int .i64 a0_1, .int .i64 a0_2, .int .i64 a0_3, .int .i64 a0_4] 28 (0, 0)) (bl_ BK204.out)) : gb204 ≠ gb215)); have n8_ := Aside0.mk ((by rw [hg]; exact Nat.ne_of_gt (blk_lt (g := gb204) (o := .cells #[.slice (some ad214) l0_0.length c0_0, .int .i64 a0_1, .int .i64 a0_2, .int .i64 a0_3, .int .i64 a0_4] 28 (0, 0)) (bl_ BK204.out)) : gb215 ≠ gb204)); clear HO_3 HO_4 BK204 HB; have HO_3 := n0_; have HO_4 := n1_; have BK204 := n2_; have HB := n3_; have BK215 := n4_; have GW215 := n5_; have GE215 := n6_; have NB204_215 := n7_; have NB215_204 := n8_; clear n0_ n1_ n2_ n3_ n4_ n5_ n6_ n7_ n8_; clear hb hbox hg; have hnb85 := NB215_204.out; have hnc85 := NB204_215.out; obtain ⟨hcz86_0, hcz86_1, hcz86_2, hcz86_3, hfz86_0, hfz86_1, hfz86_2, hfz86_3⟩ := cz4_ BK215.out) | ((with_reducible refine gate_store (t := 65) (p := 8) rfl ?_); refine store_event (t := 65) (p := 8) (v := ?vo_w87) (w1 := ((((w84.setCell ⟨gb215, 0, none⟩ (.int .i64 ((rd_T65 l0_0 x7_2).f0))).setCell ⟨gb215, 1, none⟩ (.int .i64 ((rd_T65 l0_0 x7_2).f1))).setCell ⟨gb215, 2, none⟩ (.int .i64 ((rd_T65 l0_0 x7_2).f2))).setCell ⟨gb215, 3, none⟩ (.bool true))) ?hg ?ho ?hn ?hr ?_; (case ho => rfl); (case hg => rfl); (case hn => rfl); (case hr => first | (go_simp; done) | (go_simp; rfl)); intro w87 hw; have n0_ : Aside0 (Kd.R Kd.bool 4 w87 w.heap.size (fun _ => True) v207 x3_2) := ⟨(by rw [hw]; exact (by (with_reducible repeat (first | apply Kd.R_alloc | apply Kd.R_drewN | apply Kd.R_drew)); exact Kd.R_mono (Kd.R_far (p := ⟨gb215, 3, none⟩) (Kd.R_far (p := ⟨gb215, 2, none⟩) (Kd.R_far (p := ⟨gb215, 1, none⟩) (Kd.R_far (p := ⟨gb215, 0, none⟩) (Kd.R_types HO_3.out BK215.out (by decide)) (fun _ hk => hk.2) (.int .i64 ((rd_T65 l0_0 x7_2).f0))) (fun _ hk => hk.2) (.int .i64 ((rd_T65 l0_0 x7_2).f1))) (fun _ hk => hk.2) (.int .i64 ((rd_T65 l0_0 x7_2).f2))) (fun _ hk => hk.2) (.bool true)) (fun _ hk => trivial)))⟩; have n1_ : Aside0 (Kd.R (Kd.int .i64) 3 w87 w.heap.size (fun _ => True) u4 x4_2) := ⟨(by rw [hw]; exact (by (with_reducible repeat (first | apply Kd.R_alloc | apply Kd.R_drewN | apply Kd.R_drew)); exact Kd.R_mono (Kd.R_far (p := ⟨gb215, 3, none⟩) (Kd.R_far (p := ⟨gb215, 2, none⟩) (Kd.R_far (p := ⟨gb215, 1, none⟩) (Kd.R_far (p := ⟨gb215, 0, none⟩) (Kd.R_types HO_4.out BK215.out (by decide)) (fun _ hk => hk.2) (.int .i64 ((rd_T65 l0_0 x7_2).f0))) (fun _ hk => hk.2) (.int .i64 ((rd_T65 l0_0 x7_2).f1))) (fun _ hk => hk.2) (.int .i64 ((rd_T65 l0_0 x7_2).f2))) (fun _ hk => hk.2) (.bool true)) (fun _ hk => trivial)))⟩; have n2_ : Aside0 (w87.heap[gb204]? = some (.cells #[.slice (some ad214) l0_0.length c0_0, .int .i64 a0_1, .int .i64 a0_2, .int .i64 a0_3, .int .i64 a0_4] 28 (0, 0))) := ⟨(by rw [hw]; exact (by refine bl_ ?_; refine blk_far ?_ NB204_215.out _; refine bl_ ?_; refine blk_far ?_ NB204_215.out _; refine bl_ ?_; refine blk_far ?_ NB204_215.out _; refine bl_ ?_; refine blk_far ?_ NB204_215.out _; refine bl_ ?_; exact BK204.out))⟩; have n3_ : Aside0 (w87.heap[gb215]? = some (.cells #[.int .i64 ((rd_T65 l0_0 x7_2).f0), .int .i64 ((rd_T65 l0_0 x7_2).f1), .int .i64 ((rd_T65 l0_0 x7_2).f2), .bool true] 65 (0, 0))) := ⟨(by rw [hw]; exact (by refine bl_ ?_; refine blk_put (cs := #[.int .i64 ((rd_T65 l0_0 x7_2).f0), .int .i64 ((rd_T65 l0_0 x7_2).f1), .int .i64 ((rd_T65 l0_0 x7_2).f2), .bool false]) ?_ 3 _ rfl; refine bl_ ?_; refine blk_put (cs := #[.int .i64 ((rd_T65 l0_0 x7_2).f0), .int .i64 ((rd_T65 l0_0 x7_2).f1), .int .i64 0, .bool false]) ?_ 2 _ rfl; refine bl_ ?_; refine blk_put (cs := #[.int .i64 ((rd_T65 l0_0 x7_2).f0), .int .i64 0, .int .i64 0, .bool false]) ?_ 1 _ rfl; refine bl_ ?_; refine blk_put (cs := #[.int .i64 0, .int .i64 0, .int .i64 0, .bool false]) ?_ 0 _ rfl; refine bl_ ?_; exact BK215.out))⟩; have n4_ : Aside0 (Below w.heap.size w w87) := ⟨(by rw [hw]; exact (be_ HB.out))⟩; clear hw HO_3 HO_4 BK204 BK215 HB; have HO_3 := n0_; have HO_4 := n1_; have BK204 := n2_; have BK215 := n3_; have HB := n4_; clear n0_ n1_ n2_ n3_ n4_; obtain ⟨hcz88_0, hcz88_1, hcz88_2, hcz88_3, hfz88_0, hfz88_1, hfz88_2, hfz88_3⟩ := cz4_ BK215.out) | (go_at_call 54; (with_reducible refine (spec_l01In.calls ((rd_T65 l0_0 x7_2).f0) 1 1000000000 true _ A71.out).mono ?_); rintro e w' ⟨rfl, ⟨nd, rfl⟩⟩; (try (rw [drewN_self w87]; generalize hq_ : World.drewN w87 _ = w87; have n0_ : Aside0 (Kd.R Kd.bool 4 w87 w.heap.size (fun _ => True) v207 x3_2) := ⟨by rw [← hq_]; exact (ro_ HO_3.out)⟩; have n1_ : Aside0 (Kd.R (Kd.int .i64) 3 w87 w.heap.size (fun _ => True) u4 x4_2) := ⟨by rw [← hq_]; exact (ro_ HO_4.out)⟩; have n2_ : Aside0 (w87.heap[gb204]? = some (.cells #[.slice (some ad214) l0_0.length c0_0, .int .i64 a0_1, .int .i64 a0_2, .int .i64 a0_3, .int .i64 a0_4] 28 (0, 0))) := ⟨by rw [← hq_]; exact (bl_ BK204.out)⟩; have n3_ : Aside0 (w87.heap[gb215]? = some (.cells #[.int .i64 ((rd_T65 l0_0 x7_2).f0), .int .i64 ((rd_T65 l0_0 x7_2).f1), .int .i64 ((rd_T65 l0_0 x7_2).f2), .bool true] 65 (0, 0))) := ⟨by rw [← hq_]; exact (bl_ BK215.out)⟩; have n4_ : Aside0 (Below w.heap.size w w87) := ⟨by rw [← hq_]; exact (be_ HB.out)⟩; clear HO_3 HO_4 BK204 BK215 HB hq_; have HO_3 := n0_; have HO_4 := n1_; have BK204 := n2_; have BK215 := n3_; have HB := n4_; clear n0_ n1_ n2_ n3_ n4_; have hcz88_0 : w87.cell? ⟨gb215, 0, none⟩ = some (.int .i64 ((rd_T65 l0_0 x7_2).f0)) := (blk_cell BK215.out 0).trans rfl; have hcz88_1 : w87.cell? ⟨gb215, 1, none⟩ = some (.int .i64 ((rd_T65 l0_0 x7_2).f1)) := (blk_cell BK215.out 1).trans rfl; have hcz88_2 : w87.cell? ⟨gb215, 2, none⟩ = some (.int .i64 ((rd_T65 l0_0 x7_2).f2)) := (blk_cell BK215.out 2).trans rfl; have hcz88_3 : w87.cell? ⟨gb215, 3, none⟩ = some (.bool true) := (blk_cell BK215.out 3).trans rfl)); obtain ⟨Ao89, co89, eo89⟩ := Kd.R_slice HO_4.out; subst eo89) | (go_at_call 56; (with_reducible refine (spec_l01Has.calls kj58 _ _ x4_2 ((rd_T65 l0_0 x7_2).f0) false _ ?side1 ?side2 A73.out).mono ?_); (case side1 => repeat (first | exact (Kd.R_reads' HO_4.out).2.2 | (with_reducible refine Kd.C_alloc ?_ _) | (with_reducible refine Kd.C_drewN ?_ _) | (with_reducible refine Kd.C_drew ?_))); (case side2 => exact (Kd.R_reads' HO_4.out).2.1); rintro e w' ⟨rfl, ⟨nd, rfl⟩⟩; (try (rw [drewN_self w87]; generalize hq_ : World.drewN w87 _ = w87; have n0_ : Aside0 (Kd.R Kd.bool 4 w87 w.heap.size (fun _ => True) v207 x3_2) := ⟨by rw [← hq_]; exact (ro_ HO_3.out)⟩; have n1_ : Aside0 (Kd.R (Kd.int .i64) 3 w87 w.heap.size (fun _ => True) (.slice Ao89 x4_2.length co89) x4_2) := ⟨by rw [← hq_]; exact (ro_ HO_4.out)⟩; have n2_ : Aside0 (w87.heap[gb204]? = some (.cells #[.slice (some ad214) l0_0.length c0_0, .int .i64 a0_1, .int .i64 a0_2, .int .i64 a0_3, .int .i64 a0_4] 28 (0, 0))) := ⟨by rw [← hq_]; exact (bl_ BK204.out)⟩; have n3_ : Aside0 (w87.heap[gb215]? = some (.cells #[.int .i64 ((rd_T65 l0_0 x7_2).f0), .int .i64 ((rd_T65 l0_0 x7_2).f1), .int .i64 ((rd_T65 l0_0 x7_2).f2), .bool true] 65 (0, 0))) := ⟨by rw [← hq_]; exact (bl_ BK215.out)⟩; have n4_ : Aside0 (Below w.heap.size w w87) := ⟨by rw [← hq_]; exact (be_ HB.out)⟩; clear HO_3 HO_4 BK204 BK215 HB hq_; have HO_3 := n0_; have HO_4 := n1_; have BK204 := n2_; have BK215 := n3_; have HB := n4_; clear n0_ n1_ n2_ n3_ n4_; have hcz88_0 : w87.cell? ⟨gb215, 0, none⟩ = some (.int .i64 ((rd_T65 l0_0 x7_2).f0)) := (blk_cell BK215.out 0).trans rfl; have hcz88_1 : w87.cell? ⟨gb215, 1, none⟩ = some (.int .i64 ((rd_T65 l0_0 x7_2).f1)) := (blk_cell BK215.out 1).trans rfl; have hcz88_2 : w87.cell? ⟨gb215, 2, none⟩ = some (.int .i64 ((rd_T65 l0_0 x7_2).f2)) := (blk_cell BK215.out 2).trans rfl; have hcz88_3 : w87.cell? ⟨gb215, 3, none⟩ = some (.bool true) := (blk_cell BK215.out 3).trans rfl)); have p81 : 0 ≤ (x7_2 : Int) := of_decide_eq_true (by first | (with_reducible assumption) | assumption); have q81 : (x7_2 : Int) < ((x3_2.length : Int) : Int) := of_decide_eq_true (by first | (with_reducible assumption) | assumption); obtain ⟨go81, co81, eo81, gb81, gl81, cl81, HG81⟩ := Kd.R_form HO_3.out (by omega); (first | cases eo81 | (injection eo81 with ea_ en_ ec_; (first | subst ea_ | (injection ea_ with ea_; subst ea_)); subst ec_; clear en_)); have GB81 := Aside0.mk gb81; have GG81 := Aside0.mk HG81; clear gb81 gl81 HG81; obtain ⟨hx81_0, hf81_0⟩ := Kd.R_celln false HO_3.out (x7_2 : Int) p81 q81; replace p81 := eq_true p81; replace q81 := eq_true q81; obtain ⟨hy90_, hz90_⟩ := Kd.R_celln false HO_3.out (x7_2 : Int) (of_decide_eq_true (by first | (with_reducible assumption) | assumption)) (of_decide_eq_true (by first | (with_reducible assumption) | assumption)); have HP90 := Kd.R_putg HO_3.out (x7_2 : Int) true) | ((with_reducible refine gate_store (t := 4) (p := 70) rfl ?_); refine store_event (t := 4) (p := 70) (v := ?vo_w91) (w1 := (w87.setCell ⟨go81, (x7_2 : Int).toNat, none⟩ (.bool true))) ?hg ?ho ?hn ?hr ?_; (case ho => rfl); (case hg => rfl); (case hn => rfl); (case hr => first | (go_simp; done) | (go_simp; rfl)); intro w91 hw; have hg : w87.grownBy w91 (some go81) := (by rw [hw]; exact HP90.2); have hp_ : Kd.R Kd.bool 4 w91 w.heap.size (fun _ => True) (.slice (some ⟨go81, 0, none⟩) x3_2.length co81) y218 := (by rw [hw, Ny218.out]; exact HP90.1); clear HP90; have n0_ := Aside0.mk (hp_); have n1_ := Aside0.mk (Kd.R_over' (v := (.slice (some ⟨go81, 0, none⟩) x3_2.length co81)) (ro_ HO_4.out) (Kd.R_typed HO_3.out) (by decide) hg); have n2_ := Aside0.mk (blk_grown (g := gb204) (o := .cells #[.slice (some ad214) l0_0.length c0_0, .int .i64 a0_1, .int .i64 a0_2, .int .i64 a0_3, .int .i64 a0_4] 28 (0, 0)) (bl_ BK204.out) hg (Kd.R_ne HO_3.out BK204.out (by decide))); have n3_ := Aside0.mk (blk_grown (g := gb215) (o := .cells #[.int .i64 ((rd_T65 l0_0 x7_2).f0), .int .i64 ((rd_T65 l0_0 x7_2).f1), .int .i64 ((rd_T65 l0_0 x7_2).f2), .bool true] 65 (0, 0)) (bl_ BK215.out) hg (Kd.R_ne HO_3.out BK215.out (by decide))); have n4_ := Aside0.mk ((by rw [hw]; exact below_set (HB.out) GB81.out : Below w.heap.size w w91)); clear HO_3 HO_4 BK204 BK215 HB; have HO_3 := n0_; have HO_4 := n1_; have BK204 := n2_; have BK215 := n3_; have HB := n4_; clear n0_ n1_ n2_ n3_ n4_; clear hg hw hp_; obtain ⟨hcz92_0, hcz92_1, hcz92_2, hcz92_3, hfz92_0, hfz92_1, hfz92_2, hfz92_3⟩ := cz4_ BK215.out) | ((with_reducible refine gate_builtin (b := .append) (xs := #[.tmp 71, .tmp 74]) rfl ?_); at_builtin; refine Kd.R_append (Kd.int .i64) (w0 := w) w.heap.size rfl (.tmp 71) (.tmp 74) 50 3 (.int .i64 0) 8 rfl Try.underlying50 info3 rfl (by decide) (by omega) (.slice Ao89 x4_2.length co89) x4_2 ((rd_T65 l0_0 x7_2).f0) [.int .i64 ((rd_T65 l0_0 x7_2).f0)] (fun _ => True) (fun _ => False) rfl rfl ?aP (fun _ hk => hk.elim) ?aF ?aO ?aB ?aS ?aL ?_; (case aP => exact rfl); (case aB => exact (be_ HB.out)); (case aF => exact (fun _ _ => trivial)); (case aO => exact (ro_ HO_4.out)); (case aS => exact (below_size (be_ HB.out))); (case aL => have := LMc82.out; omega); intro v220 w93 ho hb hg hat; rw [← Ny219.out] at ho; have n0_ := Aside0.mk (Kd.R_over' (ro_ HO_3.out) (Kd.R_typed (ro_ HO_4.out)) (by decide) hg); have n1_ := Aside0.mk (blk_grown (g := gb204) (o := .cells #[.slice (some ad214) l0_0.length c0_0, .int .i64 a0_1, .int .i64 a0_2, .int .i64 a0_3, .int .i64 a0_4] 28 (0, 0)) (bl_ BK204.out) hg (Kd.R_ne HO_4.out BK204.out (by decide))); have n2_ := Aside0.mk (blk_grown (g := gb215) (o := .cells #[.int .i64 ((rd_T65 l0_0 x7_2).f0), .int .i64 ((rd_T65 l0_0 x7_2).f1), .int .i64 ((rd_T65 l0_0 x7_2).f2), .bool true] 65 (0, 0)) (bl_ BK215.out) hg (Kd.R_ne HO_4.out BK215.out (by decide))); have n3_ := Aside0.mk (hb); have n4_ := Aside0.mk (ho); clear HO_3 BK204 BK215 HB HO_4; have HO_3 := n0_; have BK204 := n1_; have BK215 := n2_; have HB := n3_; have HO221 := n4_; clear n0_ n1_ n2_ n3_ n4_; clear ho hb hg hat; obtain ⟨hcz94_0, hcz94_1, hcz94_2, hcz94_3, hcz94_4, hfz94_0, hfz94_1, hfz94_2, hfz94_3, hfz94_4⟩ := cz5_ BK204.out; have p222 : 0 ≤ (x7_2 : Int) := of_decide_eq_true (by first | (with_reducible assumption) | assumption); have q222 : x7_2 < (l0_0.length : Int) := of_decide_eq_true (by first | (with_reducible assumption) | assumption); obtain ⟨ad222, e222, hx222_0, hx222_1, hx222_2, hx222_3⟩ := at_T65 HR0_0.out x7_2 p222 q222; (try rw [← Nbq68.out] at hx222_3); obtain rfl : ad214 = ad222 := (by injection e222); replace hx222_0 := (HB.out.cell (World.block_lt_of_cell? w _ hx222_0)).trans hx222_0; replace hx222_1 := (HB.out.cell (World.block_lt_of_cell? w _ hx222_1)).trans hx222_1; replace hx222_2 := (HB.out.cell (World.block_lt_of_cell? w _ hx222_2)).trans hx222_2; replace hx222_3 := (HB.out.cell (World.block_lt_of_cell? w _ hx222_3)).trans hx222_3; replace p222 := eq_true p222; replace q222 := eq_true q222))
                                      go_roundg kj58
                                      case measure => have := HJ1.out; have := HK2.out; have := HJ58.out; omega
                                      case rel => exact ⟨(y218), (y219), (wrap64 (x5_2 + 1)), (x7_2), ((rd_T65 l0_0 x7_2).f2), (by first | rfl | (simp; done) | (simp [*]; done)), (by first | rfl | (simp; done) | (simp [*]; done)), (by first | rfl | (simp; done) | (simp [*]; done)), H', ⟨by have := HJ1.out; have := HK2.out; have := HJ58.out; omega⟩, ⟨by (with_reducible repeat (first | apply Kd.R_alloc | apply Kd.R_drewN | apply Kd.R_drew)); exact HO_3.out⟩, ⟨by (with_reducible repeat (first | apply Kd.R_alloc | apply Kd.R_drewN | apply Kd.R_drew)); exact HO221.out⟩, ⟨by refine bl_ ?_; exact BK204.out⟩, ⟨be_ HB.out⟩⟩
                                    · rw [if_neg c82] at H
                                      exact absurd H (by simp)
                                  · rw [if_neg c80] at H
                                    exact absurd H (by simp)
                              · replace c72 := Bool.eq_false_iff.mpr c72
                                subst c72
                                have H1 : (some false) = some r := by rw [if_neg (show ¬ (false = true) by decide)] at H; exact H
                                clear H
                                have H := H1
                                clear H1
                                obtain rfl := Option.some.inj H
                                have hcz95_0 : wc.cell? ⟨gb204, 0, none⟩ = some (.slice A0_0 l0_0.length c0_0) := (blk_cell BK204.out 0).trans rfl
                                have hcz95_1 : wc.cell? ⟨gb204, 1, none⟩ = some (.int .i64 a0_1) := (blk_cell BK204.out 1).trans rfl
                                have hcz95_2 : wc.cell? ⟨gb204, 2, none⟩ = some (.int .i64 a0_2) := (blk_cell BK204.out 2).trans rfl
                                have hcz95_3 : wc.cell? ⟨gb204, 3, none⟩ = some (.int .i64 a0_3) := (blk_cell BK204.out 3).trans rfl
                                have hcz95_4 : wc.cell? ⟨gb204, 4, none⟩ = some (.int .i64 a0_4) := (blk_cell BK204.out 4).trans rfl
                                have hfz95_0 := blk_frozen BK204.out 0
                                have hfz95_1 := blk_frozen BK204.out 1
                                have hfz95_2 := blk_frozen BK204.out 2
                                have hfz95_3 := blk_frozen BK204.out 3
                                have hfz95_4 := blk_frozen BK204.out 4
                                have p214 : 0 ≤ (x7_2 : Int) := of_decide_eq_true (by first | (with_reducible assumption) | assumption)
                                have q214 : x7_2 < (l0_0.length : Int) := of_decide_eq_true (by first | (with_reducible assumption) | assumption)
                                obtain ⟨ad214, e214, hx214_0, hx214_1, hx214_2, hx214_3⟩ := at_T65 HR0_0.out x7_2 p214 q214
                                (try rw [← Nbq68.out] at hx214_3)
                                cases e214
                                replace hx214_0 := (HB.out.cell (World.block_lt_of_cell? w _ hx214_0)).trans hx214_0
                                replace hx214_1 := (HB.out.cell (World.block_lt_of_cell? w _ hx214_1)).trans hx214_1
                                replace hx214_2 := (HB.out.cell (World.block_lt_of_cell? w _ hx214_2)).trans hx214_2
                                replace hx214_3 := (HB.out.cell (World.block_lt_of_cell? w _ hx214_3)).trans hx214_3
                                replace p214 := eq_true p214
                                replace q214 := eq_true q214
                                go_wp2_with (first | ((with_reducible refine gate_dst (N := 8) rfl ?_); refine box_event ?hg (N := 8) ?hd (cs := #[.int .i64 0, .int .i64 0, .int .i64 0, .bool false]) (t := 65) ?hr ?_; (case hd => rfl); (case hg => rfl); (case hr => first | (go_simp; done) | (go_simp; rfl)); intro gb215 hg w96 hbox hb; have n0_ := Aside0.mk (Kd.R_below (ro_ HO_3.out) hb); have n1_ := Aside0.mk (Kd.R_below (ro_ HO_4.out) hb); have n2_ := Aside0.mk (blk_below (g := gb204) (o := .cells #[.slice (some ad214) l0_0.length c0_0, .int .i64 a0_1, .int .i64 a0_2, .int .i64 a0_3, .int .i64 a0_4] 28 (0, 0)) (bl_ BK204.out) hb); have n3_ := Aside0.mk (below_step (be_ HB.out) hb); have n4_ := Aside0.mk (hbox); have n5_ := Aside0.mk ((by rw [hg]; exact (below_size (be_ HB.out)) : w.heap.size ≤ gb215)); have n6_ := Aside0.mk ((by rw [hg]; exact (below_size (be_ HB.out)) : w.heap.size ≤ gb215)); have n7_ := Aside0.mk ((by rw [hg]; exact Nat.ne_of_lt (blk_lt (g := gb204) (o := .cells #[.slice (some ad214) l0_0.length c0_0, .int .i64 a0_1, .int .i64 a0_2, .int .i64 a0_3, .int .i64 a0_4] 28 (0, 0)) (bl_ BK204.out)) : gb204 ≠ gb215)); have n8_ := Aside0.mk ((by rw [hg]; exact Nat.ne_of_gt (blk_lt (g := gb204) (o := .cells #[.slice (some ad214) l0_0.length c0_0, .int .i64 a0_1, .int .i64 a0_2, .int .i64 a0_3, .int .i64 a0_4] 28 (0, 0)) (bl_ BK204.out)) : gb215 ≠ gb204)); clear HO_3 HO_4 BK204 HB; have HO_3 := n0_; have HO_4 := n1_; have BK204 := n2_; have HB := n3_; have BK215 := n4_; have GW215 := n5_; have GE215 := n6_; have NB204_215 := n7_; have NB215_204 := n8_; clear n0_ n1_ n2_ n3_ n4_ n5_ n6_ n7_ n8_; clear hb hbox hg; have hnb97 := NB215_204.out; have hnc97 := NB204_215.out; obtain ⟨hcz98_0, hcz98_1, hcz98_2, hcz98_3, hfz98_0, hfz98_1, hfz98_2, hfz98_3⟩ := cz4_ BK215.out) | (go_at_call 54; (with_reducible refine (spec_l01In.calls ((rd_T65 l0_0 x7_2).f0) 1 1000000000 false _ A71.out).mono ?_); rintro e w' ⟨rfl, ⟨nd, rfl⟩⟩))
                                go_ret
                                exact ⟨by first | rfl | (simp [errW_none, errW_some] <;> rfl) | (simp [*, errW_none, errW_some] <;> rfl), be_ HB.out⟩
                            · rw [if_neg c70] at H
                              have c70b0 : (((rd_T65 l0_0 x7_2).f1) == x6_2) = false := beq_eq_false_iff_ne.mpr c70
                              have c70b1 : (((rd_T65 l0_0 x7_2).f1) != x6_2) = true := bne_iff_ne.mpr c70
                              obtain rfl := Option.some.inj H
                              have hcz99_0 : wc.cell? ⟨gb204, 0, none⟩ = some (.slice A0_0 l0_0.length c0_0) := (blk_cell BK204.out 0).trans rfl
                              have hcz99_1 : wc.cell? ⟨gb204, 1, none⟩ = some (.int .i64 a0_1) := (blk_cell BK204.out 1).trans rfl
                              have hcz99_2 : wc.cell? ⟨gb204, 2, none⟩ = some (.int .i64 a0_2) := (blk_cell BK204.out 2).trans rfl
                              have hcz99_3 : wc.cell? ⟨gb204, 3, none⟩ = some (.int .i64 a0_3) := (blk_cell BK204.out 3).trans rfl
                              have hcz99_4 : wc.cell? ⟨gb204, 4, none⟩ = some (.int .i64 a0_4) := (blk_cell BK204.out 4).trans rfl
                              have hfz99_0 := blk_frozen BK204.out 0
                              have hfz99_1 := blk_frozen BK204.out 1
                              have hfz99_2 := blk_frozen BK204.out 2
                              have hfz99_3 := blk_frozen BK204.out 3
                              have hfz99_4 := blk_frozen BK204.out 4
                              have p214 : 0 ≤ (x7_2 : Int) := of_decide_eq_true (by first | (with_reducible assumption) | assumption)
                              have q214 : x7_2 < (l0_0.length : Int) := of_decide_eq_true (by first | (with_reducible assumption) | assumption)
                              obtain ⟨ad214, e214, hx214_0, hx214_1, hx214_2, hx214_3⟩ := at_T65 HR0_0.out x7_2 p214 q214
                              (try rw [← Nbq68.out] at hx214_3)
                              cases e214
                              replace hx214_0 := (HB.out.cell (World.block_lt_of_cell? w _ hx214_0)).trans hx214_0
                              replace hx214_1 := (HB.out.cell (World.block_lt_of_cell? w _ hx214_1)).trans hx214_1
                              replace hx214_2 := (HB.out.cell (World.block_lt_of_cell? w _ hx214_2)).trans hx214_2
                              replace hx214_3 := (HB.out.cell (World.block_lt_of_cell? w _ hx214_3)).trans hx214_3
                              replace p214 := eq_true p214
                              replace q214 := eq_true q214
                              go_wp2_with (first | ((with_reducible refine gate_dst (N := 8) rfl ?_); refine box_event ?hg (N := 8) ?hd (cs := #[.int .i64 0, .int .i64 0, .int .i64 0, .bool false]) (t := 65) ?hr ?_; (case hd => rfl); (case hg => rfl); (case hr => first | (go_simp; done) | (go_simp; rfl)); intro gb215 hg w100 hbox hb; have n0_ := Aside0.mk (Kd.R_below (ro_ HO_3.out) hb); have n1_ := Aside0.mk (Kd.R_below (ro_ HO_4.out) hb); have n2_ := Aside0.mk (blk_below (g := gb204) (o := .cells #[.slice (some ad214) l0_0.length c0_0, .int .i64 a0_1, .int .i64 a0_2, .int .i64 a0_3, .int .i64 a0_4] 28 (0, 0)) (bl_ BK204.out) hb); have n3_ := Aside0.mk (below_step (be_ HB.out) hb); have n4_ := Aside0.mk (hbox); have n5_ := Aside0.mk ((by rw [hg]; exact (below_size (be_ HB.out)) : w.heap.size ≤ gb215)); have n6_ := Aside0.mk ((by rw [hg]; exact (below_size (be_ HB.out)) : w.heap.size ≤ gb215)); have n7_ := Aside0.mk ((by rw [hg]; exact Nat.ne_of_lt (blk_lt (g := gb204) (o := .cells #[.slice (some ad214) l0_0.length c0_0, .int .i64 a0_1, .int .i64 a0_2, .int .i64 a0_3, .int .i64 a0_4] 28 (0, 0)) (bl_ BK204.out)) : gb204 ≠ gb215)); have n8_ := Aside0.mk ((by rw [hg]; exact Nat.ne_of_gt (blk_lt (g := gb204) (o := .cells #[.slice (some ad214) l0_0.length c0_0, .int .i64 a0_1, .int .i64 a0_2, .int .i64 a0_3, .int .i64 a0_4] 28 (0, 0)) (bl_ BK204.out)) : gb215 ≠ gb204)); clear HO_3 HO_4 BK204 HB; have HO_3 := n0_; have HO_4 := n1_; have BK204 := n2_; have HB := n3_; have BK215 := n4_; have GW215 := n5_; have GE215 := n6_; have NB204_215 := n7_; have NB215_204 := n8_; clear n0_ n1_ n2_ n3_ n4_ n5_ n6_ n7_ n8_; clear hb hbox hg; have hnb101 := NB215_204.out; have hnc101 := NB204_215.out; obtain ⟨hcz102_0, hcz102_1, hcz102_2, hcz102_3, hfz102_0, hfz102_1, hfz102_2, hfz102_3⟩ := cz4_ BK215.out))
                              go_ret
                              exact ⟨by first | rfl | (simp [errW_none, errW_some] <;> rfl) | (simp [*, errW_none, errW_some] <;> rfl), be_ HB.out⟩
                          · replace c69 := Bool.eq_false_iff.mpr c69
                            subst c69
                            have H1 : (some false) = some r := by rw [if_neg (show ¬ (false = true) by decide)] at H; exact H
                            clear H
                            have H := H1
                            clear H1
                            obtain rfl := Option.some.inj H
                            have hcz103_0 : wc.cell? ⟨gb204, 0, none⟩ = some (.slice A0_0 l0_0.length c0_0) := (blk_cell BK204.out 0).trans rfl
                            have hcz103_1 : wc.cell? ⟨gb204, 1, none⟩ = some (.int .i64 a0_1) := (blk_cell BK204.out 1).trans rfl
                            have hcz103_2 : wc.cell? ⟨gb204, 2, none⟩ = some (.int .i64 a0_2) := (blk_cell BK204.out 2).trans rfl
                            have hcz103_3 : wc.cell? ⟨gb204, 3, none⟩ = some (.int .i64 a0_3) := (blk_cell BK204.out 3).trans rfl
                            have hcz103_4 : wc.cell? ⟨gb204, 4, none⟩ = some (.int .i64 a0_4) := (blk_cell BK204.out 4).trans rfl
                            have hfz103_0 := blk_frozen BK204.out 0
                            have hfz103_1 := blk_frozen BK204.out 1
                            have hfz103_2 := blk_frozen BK204.out 2
                            have hfz103_3 := blk_frozen BK204.out 3
                            have hfz103_4 := blk_frozen BK204.out 4
                            have p214 : 0 ≤ (x7_2 : Int) := of_decide_eq_true (by first | (with_reducible assumption) | assumption)
                            have q214 : x7_2 < (l0_0.length : Int) := of_decide_eq_true (by first | (with_reducible assumption) | assumption)
                            obtain ⟨ad214, e214, hx214_0, hx214_1, hx214_2, hx214_3⟩ := at_T65 HR0_0.out x7_2 p214 q214
                            (try rw [← Nbq68.out] at hx214_3)
                            cases e214
                            replace hx214_0 := (HB.out.cell (World.block_lt_of_cell? w _ hx214_0)).trans hx214_0
                            replace hx214_1 := (HB.out.cell (World.block_lt_of_cell? w _ hx214_1)).trans hx214_1
                            replace hx214_2 := (HB.out.cell (World.block_lt_of_cell? w _ hx214_2)).trans hx214_2
                            replace hx214_3 := (HB.out.cell (World.block_lt_of_cell? w _ hx214_3)).trans hx214_3
                            replace p214 := eq_true p214
                            replace q214 := eq_true q214
                            go_wp2_with (first | ((with_reducible refine gate_dst (N := 8) rfl ?_); refine box_event ?hg (N := 8) ?hd (cs := #[.int .i64 0, .int .i64 0, .int .i64 0, .bool false]) (t := 65) ?hr ?_; (case hd => rfl); (case hg => rfl); (case hr => first | (go_simp; done) | (go_simp; rfl)); intro gb215 hg w104 hbox hb; have n0_ := Aside0.mk (Kd.R_below (ro_ HO_3.out) hb); have n1_ := Aside0.mk (Kd.R_below (ro_ HO_4.out) hb); have n2_ := Aside0.mk (blk_below (g := gb204) (o := .cells #[.slice (some ad214) l0_0.length c0_0, .int .i64 a0_1, .int .i64 a0_2, .int .i64 a0_3, .int .i64 a0_4] 28 (0, 0)) (bl_ BK204.out) hb); have n3_ := Aside0.mk (below_step (be_ HB.out) hb); have n4_ := Aside0.mk (hbox); have n5_ := Aside0.mk ((by rw [hg]; exact (below_size (be_ HB.out)) : w.heap.size ≤ gb215)); have n6_ := Aside0.mk ((by rw [hg]; exact (below_size (be_ HB.out)) : w.heap.size ≤ gb215)); have n7_ := Aside0.mk ((by rw [hg]; exact Nat.ne_of_lt (blk_lt (g := gb204) (o := .cells #[.slice (some ad214) l0_0.length c0_0, .int .i64 a0_1, .int .i64 a0_2, .int .i64 a0_3, .int .i64 a0_4] 28 (0, 0)) (bl_ BK204.out)) : gb204 ≠ gb215)); have n8_ := Aside0.mk ((by rw [hg]; exact Nat.ne_of_gt (blk_lt (g := gb204) (o := .cells #[.slice (some ad214) l0_0.length c0_0, .int .i64 a0_1, .int .i64 a0_2, .int .i64 a0_3, .int .i64 a0_4] 28 (0, 0)) (bl_ BK204.out)) : gb215 ≠ gb204)); clear HO_3 HO_4 BK204 HB; have HO_3 := n0_; have HO_4 := n1_; have BK204 := n2_; have HB := n3_; have BK215 := n4_; have GW215 := n5_; have GE215 := n6_; have NB204_215 := n7_; have NB215_204 := n8_; clear n0_ n1_ n2_ n3_ n4_ n5_ n6_ n7_ n8_; clear hb hbox hg; have hnb105 := NB215_204.out; have hnc105 := NB204_215.out; obtain ⟨hcz106_0, hcz106_1, hcz106_2, hcz106_3, hfz106_0, hfz106_1, hfz106_2, hfz106_3⟩ := cz4_ BK215.out))
                            go_ret
                            exact ⟨by first | rfl | (simp [errW_none, errW_some] <;> rfl) | (simp [*, errW_none, errW_some] <;> rfl), be_ HB.out⟩
                        · rw [if_neg c67] at H
                          exact absurd H (by simp)
                      · rw [if_neg c66] at H
                        exact absurd H (by simp)
        · rw [if_neg c9] at H
          exact absurd H (by simp)

end Go.Proofs.Ytgpgkedbanmheaa.MFnExactRemoveAt
