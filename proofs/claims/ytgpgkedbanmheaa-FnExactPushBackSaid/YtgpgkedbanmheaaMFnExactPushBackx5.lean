-- Written by a program of this session over the kit's print, with stand-ins for the functions that the print leaves; Lean checks it.
import Derived.Test.YtgpgkedbanmheaaMFnExactPushBackx0
import Derived.Test.YtgpgkedbanmheaaMFnExactPushBackx2
import Derived.Test.YtgpgkedbanmheaaMFnExactPushBackx3
import Derived.Test.YtgpgkedbanmheaaMFnExactPushBackx4
namespace Go.Proofs.Ytgpgkedbanmheaa.MFnExactPushBack
open Go.RowKit Go.Proofs.YtgpgkedbanmheaaW.PrintWords Go.Proofs.YtgpgkedbanmheaaW.PrintLast Go.Proofs.YtgpgkedbanmheaaW.PrintMore
attribute [local go_sem] max2_int min2_int max_two min_two max_three min_three max_four min_four   -- for this text's walks alone
set_option linter.unusedVariables false
set_option linter.unusedSimpArgs false

/-! ### spec_PushBack: function 20 -/
def spec_PushBack.j0 : Nat → Int → Bool → List (S65) → Int → Int → Int → Int → List (S65) → Int → Int → Int → Int → Option ((List (S65)) × Int × Int × Int × Int × Int)
  | 0, _, _, _, _, _, _, _, _, _, _, _, _ => none
  | k + 1, x1, x28, x180000, x180001, x180002, x180003, x180004, x189000, x189001, x189002, x189003, x189004 => if x28 = true then (some (x189000, x189001, x189002, x189003, x189004, (-1))) else (if 0 ≤ x180003 then (if x180003 < (x180000.length : Int) then (if x180003 < (x189000.length : Int) then ((some (x189000.set (x180003 : Int).toNat (⟨x1, x180002, (-1), true⟩ : S65) : List (S65))).bind fun y193 => (if x180002 = (-1) then (some (y193, x180003, x180003, (rd_T65 x180000 x180003).f2, wrap64 (x180004 + 1), x180003)) else (if 0 ≤ x180002 then (if x180002 < (x189000.length : Int) then (some ((y193.set (x180002 : Int).toNat (⟨(rd_T65 y193 x180002).f0, (rd_T65 y193 x180002).f1, x180003, (rd_T65 y193 x180002).f3⟩ : S65)), x189001, x180003, (rd_T65 x180000 x180003).f2, wrap64 (x180004 + 1), x180003)) else (none)) else (none)))) else (none)) else (none)) else (none))
def spec_PushBack.f (k : Nat) (l0_0 : List (S65)) (a0_1 : Int) (a0_2 : Int) (a0_3 : Int) (a0_4 : Int) (a1 : Int) : Option ((List (S65)) × Int × Int × Int × Int × Int) := (spec_l02Copy.f k l0_0 a0_1 a0_2 a0_3 a0_4).bind fun bt181 => ((spec_QueueOk.f k l0_0 a0_1 a0_2 a0_3 a0_4).bind fun t189 => (if t189 = true then (if a0_3 = (-1) then (spec_PushBack.j0 k a1 true l0_0 a0_1 a0_2 a0_3 a0_4 bt181.1 bt181.2.1 bt181.2.2.1 bt181.2.2.2.1 bt181.2.2.2.2) else ((spec_l01In.f a1 1 1000000000).bind fun t190 => (if t190 = true then ((spec_PlaceOf.f k l0_0 a0_1 a0_2 a0_3 a0_4 a1).bind fun t191 => (spec_PushBack.j0 k a1 (decide (t191 ≥ 0)) l0_0 a0_1 a0_2 a0_3 a0_4 bt181.1 bt181.2.1 bt181.2.2.1 bt181.2.2.2.1 bt181.2.2.2.2)) else (spec_PushBack.j0 k a1 true l0_0 a0_1 a0_2 a0_3 a0_4 bt181.1 bt181.2.1 bt181.2.2.1 bt181.2.2.2.1 bt181.2.2.2.2)))) else (spec_PushBack.j0 k a1 true l0_0 a0_1 a0_2 a0_3 a0_4 bt181.1 bt181.2.1 bt181.2.2.1 bt181.2.2.2.1 bt181.2.2.2.2)))
theorem spec_PushBack.mono_l : ∀ k, (∀ y0 y1 y2 y3 y4 y5 y6 y7 y8 y9 y10 y11, LeO (spec_PushBack.j0 k y0 y1 y2 y3 y4 y5 y6 y7 y8 y9 y10 y11) (spec_PushBack.j0 (k + 1) y0 y1 y2 y3 y4 y5 y6 y7 y8 y9 y10 y11))
  | 0 => fun _ _ _ _ _ _ _ _ _ _ _ _ r h => by simp [spec_PushBack.j0] at h
  | k + 1 => by
    have ih0 := spec_PushBack.mono_l k
    · intro y0 y1 y2 y3 y4 y5 y6 y7 y8 y9 y10 y11
      unfold spec_PushBack.j0
      repeat' first
      | (with_reducible exact ih0 _ _ _ _ _ _ _ _ _ _ _ _)
      | (with_reducible exact spec_PlaceOf.mono _ _ _ _ _ _ _)
      | (with_reducible exact spec_QueueOk.mono _ _ _ _ _ _)
      | (with_reducible exact spec_l02Copy.mono _ _ _ _ _ _)
      | (with_reducible exact LeO.refl _)
      | (with_reducible exact LeO.none _)
      | (with_reducible refine LeO.ite ?_ ?_)
      | (with_reducible refine LeO.bind ?_ (fun _ => ?_))
      | exact ih0 _ _ _ _ _ _ _ _ _ _ _ _
      | exact spec_PlaceOf.mono _ _ _ _ _ _ _
      | exact spec_QueueOk.mono _ _ _ _ _ _
      | exact spec_l02Copy.mono _ _ _ _ _ _
      | exact LeO.none _
      | refine LeO.ite ?_ ?_
      | refine LeO.bind ?_ (fun _ => ?_)
theorem spec_PushBack.mono : ∀ a0 a1 a2 a3 a4 a5 k, LeO (spec_PushBack.f k a0 a1 a2 a3 a4 a5) (spec_PushBack.f (k + 1) a0 a1 a2 a3 a4 a5) := by
  intro a0 a1 a2 a3 a4 a5 k
  have ih0 := spec_PushBack.mono_l k
  unfold spec_PushBack.f
  repeat' first
      | (with_reducible exact ih0 _ _ _ _ _ _ _ _ _ _ _ _)
      | (with_reducible exact spec_PlaceOf.mono _ _ _ _ _ _ _)
      | (with_reducible exact spec_QueueOk.mono _ _ _ _ _ _)
      | (with_reducible exact spec_l02Copy.mono _ _ _ _ _ _)
      | (with_reducible exact LeO.refl _)
      | (with_reducible exact LeO.none _)
      | (with_reducible refine LeO.ite ?_ ?_)
      | (with_reducible refine LeO.bind ?_ (fun _ => ?_))
      | exact ih0 _ _ _ _ _ _ _ _ _ _ _ _
      | exact spec_PlaceOf.mono _ _ _ _ _ _ _
      | exact spec_QueueOk.mono _ _ _ _ _ _
      | exact spec_l02Copy.mono _ _ _ _ _ _
      | exact LeO.none _
      | refine LeO.ite ?_ ?_
      | refine LeO.bind ?_ (fun _ => ?_)
set_option maxHeartbeats 40000000 in
set_option maxRecDepth 100000 in
theorem spec_PushBack.calls (k : Nat) (A0_0 : Option Addr) (c0_0 : Nat) (l0_0 : List (S65)) (a0_1 : Int) (a0_2 : Int) (a0_3 : Int) (a0_4 : Int) (a1 : Int) (r1 : List (S65)) (r2 : Int) (r3 : Int) (r4 : Int) (r5 : Int) (r6 : Int) (w : World) (hr0_0 : Kd.C k65 w A0_0 l0_0.length l0_0) (hc0_0 : l0_0.length ≤ c0_0) (h : spec_PushBack.f k l0_0 a0_1 a0_2 a0_3 a0_4 a1 = some (r1, r2, r3, r4, r5, r6)) :
    Calls Try.prog 20 #[.agg #[.slice A0_0 l0_0.length c0_0, .int .i64 a0_1, .int .i64 a0_2, .int .i64 a0_3, .int .i64 a0_4], .int .i64 a1] w fun e w' => ∃ v0_ : Value, e = .returned (.tuple #[.agg #[v0_, .int .i64 r2, .int .i64 r3, .int .i64 r4, .int .i64 r5], .int .i64 r6]) ∧ Kd.R k65 65 w' w.heap.size (fun _ => True) v0_ r1 ∧ Below w.heap.size w w' := by
  have hu28 := Try.underlying28
  have hu65 := Try.underlying65
  have HR0_0 := Aside0.mk hr0_0
  have HC0_0 := Aside0.mk hc0_0
  clear hr0_0 hc0_0
  have HB := Aside0.mk (Below.refl w.heap.size w)
  have H : ((spec_l02Copy.f k l0_0 a0_1 a0_2 a0_3 a0_4).bind fun bt181 => ((spec_QueueOk.f k l0_0 a0_1 a0_2 a0_3 a0_4).bind fun t189 => (if t189 = true then (if a0_3 = (-1) then (spec_PushBack.j0 k a1 true l0_0 a0_1 a0_2 a0_3 a0_4 bt181.1 bt181.2.1 bt181.2.2.1 bt181.2.2.2.1 bt181.2.2.2.2) else ((spec_l01In.f a1 1 1000000000).bind fun t190 => (if t190 = true then ((spec_PlaceOf.f k l0_0 a0_1 a0_2 a0_3 a0_4 a1).bind fun t191 => (spec_PushBack.j0 k a1 (decide (t191 ≥ 0)) l0_0 a0_1 a0_2 a0_3 a0_4 bt181.1 bt181.2.1 bt181.2.2.1 bt181.2.2.2.1 bt181.2.2.2.2)) else (spec_PushBack.j0 k a1 true l0_0 a0_1 a0_2 a0_3 a0_4 bt181.1 bt181.2.1 bt181.2.2.1 bt181.2.2.2.1 bt181.2.2.2.2)))) else (spec_PushBack.j0 k a1 true l0_0 a0_1 a0_2 a0_3 a0_4 bt181.1 bt181.2.1 bt181.2.2.1 bt181.2.2.2.1 bt181.2.2.2.2)))) = some (r1, r2, r3, r4, r5, r6) := h
  clear h
  replace H := Option.bind_eq_some_iff.mp H
  obtain ⟨⟨t181, t184, t185, t186, t187⟩, A30, H⟩ := H
  replace H : ((spec_QueueOk.f k l0_0 a0_1 a0_2 a0_3 a0_4).bind fun t189 => (if t189 = true then (if a0_3 = (-1) then (spec_PushBack.j0 k a1 true l0_0 a0_1 a0_2 a0_3 a0_4 t181 t184 t185 t186 t187) else ((spec_l01In.f a1 1 1000000000).bind fun t190 => (if t190 = true then ((spec_PlaceOf.f k l0_0 a0_1 a0_2 a0_3 a0_4 a1).bind fun t191 => (spec_PushBack.j0 k a1 (decide (t191 ≥ 0)) l0_0 a0_1 a0_2 a0_3 a0_4 t181 t184 t185 t186 t187)) else (spec_PushBack.j0 k a1 true l0_0 a0_1 a0_2 a0_3 a0_4 t181 t184 t185 t186 t187)))) else (spec_PushBack.j0 k a1 true l0_0 a0_1 a0_2 a0_3 a0_4 t181 t184 t185 t186 t187))) = some (r1, r2, r3, r4, r5, r6) := H
  have A3 := Aside0.mk A30
  clear A30
  have HC4 := Aside0.mk H
  clear H
  go_enter Try.func20, Try.ntmps20
  go_upto_region 2 with (first | ((with_reducible refine gate_dst (N := 2) rfl ?_); refine box_event ?hg (N := 2) ?hd (cs := #[.slice A0_0 l0_0.length c0_0, .int .i64 a0_1, .int .i64 a0_2, .int .i64 a0_3, .int .i64 a0_4]) (t := 28) ?hr ?_; (case hd => rfl); (case hg => rfl); (case hr => first | (go_simp; done) | (go_simp; rfl)); intro gb179 hg w5 hbox hb; have n0_ := Aside0.mk (below_step (be_ HB.out) hb); have n1_ := Aside0.mk (hbox); have n2_ := Aside0.mk ((by rw [hg]; exact (below_size (be_ HB.out)) : w.heap.size ≤ gb179)); have n3_ := Aside0.mk ((by rw [hg]; exact (below_size (be_ HB.out)) : w.heap.size ≤ gb179)); clear HB; have HB := n0_; have BK179 := n1_; have GW179 := n2_; have GE179 := n3_; clear n0_ n1_ n2_ n3_; clear hb hbox hg) | ((with_reducible refine gate_dst (N := 4) rfl ?_); refine box_event ?hg (N := 4) ?hd (cs := #[.slice none 0 0, .int .i64 0, .int .i64 0, .int .i64 0, .int .i64 0]) (t := 28) ?hr ?_; (case hd => rfl); (case hg => rfl); (case hr => first | (go_simp; done) | (go_simp; rfl)); intro gb180 hg w6 hbox hb; have n0_ := Aside0.mk (blk_below (g := gb179) (o := .cells #[.slice A0_0 l0_0.length c0_0, .int .i64 a0_1, .int .i64 a0_2, .int .i64 a0_3, .int .i64 a0_4] 28 (0, 0)) (bl_ BK179.out) hb); have n1_ := Aside0.mk (below_step (be_ HB.out) hb); have n2_ := Aside0.mk (hbox); have n3_ := Aside0.mk ((by rw [hg]; exact (below_size (be_ HB.out)) : w.heap.size ≤ gb180)); have n4_ := Aside0.mk ((by rw [hg]; exact (below_size (be_ HB.out)) : w.heap.size ≤ gb180)); have n5_ := Aside0.mk ((by rw [hg]; exact Nat.ne_of_lt (blk_lt (g := gb179) (o := .cells #[.slice A0_0 l0_0.length c0_0, .int .i64 a0_1, .int .i64 a0_2, .int .i64 a0_3, .int .i64 a0_4] 28 (0, 0)) (bl_ BK179.out)) : gb179 ≠ gb180)); have n6_ := Aside0.mk ((by rw [hg]; exact Nat.ne_of_gt (blk_lt (g := gb179) (o := .cells #[.slice A0_0 l0_0.length c0_0, .int .i64 a0_1, .int .i64 a0_2, .int .i64 a0_3, .int .i64 a0_4] 28 (0, 0)) (bl_ BK179.out)) : gb180 ≠ gb179)); clear BK179 HB; have BK179 := n0_; have HB := n1_; have BK180 := n2_; have GW180 := n3_; have GE180 := n4_; have NB179_180 := n5_; have NB180_179 := n6_; clear n0_ n1_ n2_ n3_ n4_ n5_ n6_; clear hb hbox hg; have hnb7 := NB179_180.out; have hnc7 := NB180_179.out; obtain ⟨hcz8_0, hcz8_1, hcz8_2, hcz8_3, hcz8_4, hfz8_0, hfz8_1, hfz8_2, hfz8_3, hfz8_4⟩ := cz5_ BK179.out) | ((with_reducible refine gate_callee (f := 48) rfl ?_); refine goesL_ (some 9) rfl rfl Try.func48 (by kernel_rfl) rfl #[.agg #[.slice A0_0 l0_0.length c0_0, .int .i64 a0_1, .int .i64 a0_2, .int .i64 a0_3, .int .i64 a0_4]] rfl (by (try simp only [List.map_toArray, List.map_cons, List.map_nil]); first | done | rfl | (simp only [List.length_drop, List.length_take]; rfl)) ?_; (with_reducible refine (spec_l02Copy.calls k _ _ l0_0 a0_1 a0_2 a0_3 a0_4 t181 t184 t185 t186 t187 _ ?side1 ?side2 A3.out).mono ?_); (case side1 => repeat (first | exact (Kd.C_below HR0_0.out HB.out) | (with_reducible refine Kd.C_alloc ?_ _) | (with_reducible refine Kd.C_drewN ?_ _) | (with_reducible refine Kd.C_drew ?_))); (case side2 => exact HC0_0.out); rintro e w9 ⟨v182, rfl, ho0, hb⟩; refine ⟨_, rfl, ?_⟩; have n0_ := Aside0.mk (Kd.R_lower ho0 (below_size (be_ HB.out))); have n1_ := Aside0.mk (blk_below (g := gb179) (o := .cells #[.slice A0_0 l0_0.length c0_0, .int .i64 a0_1, .int .i64 a0_2, .int .i64 a0_3, .int .i64 a0_4] 28 (0, 0)) (bl_ BK179.out) hb); have n2_ := Aside0.mk (blk_below (g := gb180) (o := .cells #[.slice none 0 0, .int .i64 0, .int .i64 0, .int .i64 0, .int .i64 0] 28 (0, 0)) (bl_ BK180.out) hb); have n3_ := Aside0.mk (below_step (be_ HB.out) hb); clear BK179 BK180 HB; have HO183 := n0_; have BK179 := n1_; have BK180 := n2_; have HB := n3_; clear n0_ n1_ n2_ n3_; (try clear hb); (try clear hb2); (try clear hk); (try clear hi); (try clear ho0)) | ((with_reducible refine gate_dst (N := 6) rfl ?_); refine box_event ?hg (N := 6) ?hd (cs := #[.slice none 0 0, .int .i64 0, .int .i64 0, .int .i64 0, .int .i64 0]) (t := 28) ?hr ?_; (case hd => rfl); (case hg => rfl); (case hr => first | (go_simp; done) | (go_simp; rfl)); intro gb188 hg w10 hbox hb; have n0_ := Aside0.mk (Kd.R_below (ro_ HO183.out) hb); have n1_ := Aside0.mk (blk_below (g := gb179) (o := .cells #[.slice A0_0 l0_0.length c0_0, .int .i64 a0_1, .int .i64 a0_2, .int .i64 a0_3, .int .i64 a0_4] 28 (0, 0)) (bl_ BK179.out) hb); have n2_ := Aside0.mk (blk_below (g := gb180) (o := .cells #[.slice none 0 0, .int .i64 0, .int .i64 0, .int .i64 0, .int .i64 0] 28 (0, 0)) (bl_ BK180.out) hb); have n3_ := Aside0.mk (below_step (be_ HB.out) hb); have n4_ := Aside0.mk (hbox); have n5_ := Aside0.mk ((by rw [hg]; exact (below_size (be_ HB.out)) : w.heap.size ≤ gb188)); have n6_ := Aside0.mk ((by rw [hg]; exact (below_size (be_ HB.out)) : w.heap.size ≤ gb188)); have n7_ := Aside0.mk ((by rw [hg]; exact Nat.ne_of_lt (blk_lt (g := gb179) (o := .cells #[.slice A0_0 l0_0.length c0_0, .int .i64 a0_1, .int .i64 a0_2, .int .i64 a0_3, .int .i64 a0_4] 28 (0, 0)) (bl_ BK179.out)) : gb179 ≠ gb188)); have n8_ := Aside0.mk ((by rw [hg]; exact Nat.ne_of_gt (blk_lt (g := gb179) (o := .cells #[.slice A0_0 l0_0.length c0_0, .int .i64 a0_1, .int .i64 a0_2, .int .i64 a0_3, .int .i64 a0_4] 28 (0, 0)) (bl_ BK179.out)) : gb188 ≠ gb179)); have n9_ := Aside0.mk ((by rw [hg]; exact Nat.ne_of_lt (blk_lt (g := gb180) (o := .cells #[.slice none 0 0, .int .i64 0, .int .i64 0, .int .i64 0, .int .i64 0] 28 (0, 0)) (bl_ BK180.out)) : gb180 ≠ gb188)); have n10_ := Aside0.mk ((by rw [hg]; exact Nat.ne_of_gt (blk_lt (g := gb180) (o := .cells #[.slice none 0 0, .int .i64 0, .int .i64 0, .int .i64 0, .int .i64 0] 28 (0, 0)) (bl_ BK180.out)) : gb188 ≠ gb180)); clear HO183 BK179 BK180 HB; have HO183 := n0_; have BK179 := n1_; have BK180 := n2_; have HB := n3_; have BK188 := n4_; have GW188 := n5_; have GE188 := n6_; have NB179_188 := n7_; have NB188_179 := n8_; have NB180_188 := n9_; have NB188_180 := n10_; clear n0_ n1_ n2_ n3_ n4_ n5_ n6_ n7_ n8_ n9_ n10_; clear hb hbox hg; obtain ⟨Ao11, co11, eo11⟩ := Kd.R_slice HO183.out; subst eo11; have hnb12 := NB188_179.out; have hnc12 := NB179_188.out; have hnb13 := NB188_180.out; have hnc13 := NB180_188.out; obtain ⟨hcz14_0, hcz14_1, hcz14_2, hcz14_3, hcz14_4, hfz14_0, hfz14_1, hfz14_2, hfz14_3, hfz14_4⟩ := cz5_ BK188.out))
  (try simp only [Act.put, List.setIfInBounds_toArray, List.set_cons_zero, List.set_cons_succ])
  go_cut [28] (fun zv28 wc => ∃ (kq : Nat) (x28_3 : Bool), zv28 = .bool x28_3 ∧ Aside0 (spec_PushBack.j0 kq a1 x28_3 l0_0 a0_1 a0_2 a0_3 a0_4 t181 t184 t185 t186 t187 = some (r1, r2, r3, r4, r5, r6)) ∧ Aside0 (kq ≤ k) ∧ Aside0 (Kd.R k65 65 wc w.heap.size (fun _ => True) (.slice Ao11 t181.length co11) t181) ∧ Aside0 (wc.heap[gb179]? = some (.cells #[(.slice A0_0 l0_0.length c0_0), .int .i64 a0_1, .int .i64 a0_2, .int .i64 a0_3, .int .i64 a0_4] 28 (0, 0))) ∧ Aside0 (wc.heap[gb180]? = some (.cells #[(.slice none 0 0), .int .i64 0, .int .i64 0, .int .i64 0, .int .i64 0] 28 (0, 0))) ∧ Aside0 (wc.heap[gb188]? = some (.cells #[(.slice Ao11 t181.length co11), .int .i64 t184, .int .i64 t185, .int .i64 t186, .int .i64 t187] 28 (0, 0))) ∧ Aside0 (Below w.heap.size w wc))
  case first =>
    have H := HC4.out
    clear HC4
    replace H := Option.bind_eq_some_iff.mp H
    obtain ⟨t189, A150, H⟩ := H
    replace H : (if t189 = true then (if a0_3 = (-1) then (spec_PushBack.j0 k a1 true l0_0 a0_1 a0_2 a0_3 a0_4 t181 t184 t185 t186 t187) else ((spec_l01In.f a1 1 1000000000).bind fun t190 => (if t190 = true then ((spec_PlaceOf.f k l0_0 a0_1 a0_2 a0_3 a0_4 a1).bind fun t191 => (spec_PushBack.j0 k a1 (decide (t191 ≥ 0)) l0_0 a0_1 a0_2 a0_3 a0_4 t181 t184 t185 t186 t187)) else (spec_PushBack.j0 k a1 true l0_0 a0_1 a0_2 a0_3 a0_4 t181 t184 t185 t186 t187)))) else (spec_PushBack.j0 k a1 true l0_0 a0_1 a0_2 a0_3 a0_4 t181 t184 t185 t186 t187)) = some (r1, r2, r3, r4, r5, r6) := H
    have A15 := Aside0.mk A150
    clear A150
    by_cases c16 : t189 = true
    · subst c16
      have H1 : (if a0_3 = (-1) then (spec_PushBack.j0 k a1 true l0_0 a0_1 a0_2 a0_3 a0_4 t181 t184 t185 t186 t187) else ((spec_l01In.f a1 1 1000000000).bind fun t190 => (if t190 = true then ((spec_PlaceOf.f k l0_0 a0_1 a0_2 a0_3 a0_4 a1).bind fun t191 => (spec_PushBack.j0 k a1 (decide (t191 ≥ 0)) l0_0 a0_1 a0_2 a0_3 a0_4 t181 t184 t185 t186 t187)) else (spec_PushBack.j0 k a1 true l0_0 a0_1 a0_2 a0_3 a0_4 t181 t184 t185 t186 t187)))) = some (r1, r2, r3, r4, r5, r6) := by rw [if_pos rfl] at H; exact H
      clear H
      have H := H1
      clear H1
      by_cases c17 : a0_3 = (-1)
      · rw [if_pos c17] at H
        have c17b0 : (a0_3 == (-1)) = true := beq_iff_eq.mpr c17
        have c17b1 : (a0_3 != (-1)) = false := bne_eq_false_iff_eq.mpr c17
        clear c17
        (first | rw [c17b0] | (simp only [i64_w, i32_w]; rw [c17b0]) | skip)
        have H' := Aside0.mk H
        clear H
        have hnb18 := NB179_180.out
        have hnc18 := NB180_179.out
        have hnb19 := NB179_188.out
        have hnc19 := NB188_179.out
        have hcz20_0 : w10.cell? ⟨gb179, 0, none⟩ = some (.slice A0_0 l0_0.length c0_0) := (blk_cell BK179.out 0).trans rfl
        have hcz20_1 : w10.cell? ⟨gb179, 1, none⟩ = some (.int .i64 a0_1) := (blk_cell BK179.out 1).trans rfl
        have hcz20_2 : w10.cell? ⟨gb179, 2, none⟩ = some (.int .i64 a0_2) := (blk_cell BK179.out 2).trans rfl
        have hcz20_3 : w10.cell? ⟨gb179, 3, none⟩ = some (.int .i64 a0_3) := (blk_cell BK179.out 3).trans rfl
        have hcz20_4 : w10.cell? ⟨gb179, 4, none⟩ = some (.int .i64 a0_4) := (blk_cell BK179.out 4).trans rfl
        have hfz20_0 := blk_frozen BK179.out 0
        have hfz20_1 := blk_frozen BK179.out 1
        have hfz20_2 := blk_frozen BK179.out 2
        have hfz20_3 := blk_frozen BK179.out 3
        have hfz20_4 := blk_frozen BK179.out 4
        go_wp2_with (first | ((with_reducible refine gate_callee (f := 24) rfl ?_); refine goesL_ (some 11) rfl rfl Try.func24 (by kernel_rfl) rfl #[.agg #[.slice A0_0 l0_0.length c0_0, .int .i64 a0_1, .int .i64 a0_2, .int .i64 a0_3, .int .i64 a0_4]] rfl (by (try simp only [List.map_toArray, List.map_cons, List.map_nil]); first | done | rfl | (simp only [List.length_drop, List.length_take]; rfl)) ?_; (with_reducible refine (spec_QueueOk.calls k _ _ l0_0 a0_1 a0_2 a0_3 a0_4 true _ ?side1 ?side2 A15.out).mono ?_); (case side1 => exact Kd.C_below HR0_0.out (be_ HB.out)); (case side2 => exact HC0_0.out); rintro e w21 ⟨rfl, hb⟩; refine ⟨_, rfl, ?_⟩; have n0_ := Aside0.mk (Kd.R_below (by (with_reducible repeat (first | apply Kd.R_alloc | apply Kd.R_drewN | apply Kd.R_drew)); exact (Kd.R_mono (Kd.R_far (p := ⟨gb188, 4, none⟩) (Kd.R_far (p := ⟨gb188, 3, none⟩) (Kd.R_far (p := ⟨gb188, 2, none⟩) (Kd.R_far (p := ⟨gb188, 1, none⟩) (Kd.R_far (p := ⟨gb188, 0, none⟩) (Kd.R_types HO183.out BK188.out (by decide)) (fun _ hk => hk.2) (.slice Ao11 t181.length co11)) (fun _ hk => hk.2) (.int .i64 t184)) (fun _ hk => hk.2) (.int .i64 t185)) (fun _ hk => hk.2) (.int .i64 t186)) (fun _ hk => hk.2) (.int .i64 t187)) (fun _ h_ => h_.1))) hb); have n1_ := Aside0.mk (blk_below (g := gb179) (o := .cells #[.slice A0_0 l0_0.length c0_0, .int .i64 a0_1, .int .i64 a0_2, .int .i64 a0_3, .int .i64 a0_4] 28 (0, 0)) (by refine bl_ ?_; refine blk_far ?_ NB179_188.out _; refine bl_ ?_; refine blk_far ?_ NB179_188.out _; refine bl_ ?_; refine blk_far ?_ NB179_188.out _; refine bl_ ?_; refine blk_far ?_ NB179_188.out _; refine bl_ ?_; refine blk_far ?_ NB179_188.out _; refine bl_ ?_; exact BK179.out) hb); have n2_ := Aside0.mk (blk_below (g := gb180) (o := .cells #[.slice none 0 0, .int .i64 0, .int .i64 0, .int .i64 0, .int .i64 0] 28 (0, 0)) (by refine bl_ ?_; refine blk_far ?_ NB180_188.out _; refine bl_ ?_; refine blk_far ?_ NB180_188.out _; refine bl_ ?_; refine blk_far ?_ NB180_188.out _; refine bl_ ?_; refine blk_far ?_ NB180_188.out _; refine bl_ ?_; refine blk_far ?_ NB180_188.out _; refine bl_ ?_; exact BK180.out) hb); have n3_ := Aside0.mk (blk_below (g := gb188) (o := .cells #[.slice Ao11 t181.length co11, .int .i64 t184, .int .i64 t185, .int .i64 t186, .int .i64 t187] 28 (0, 0)) (by refine bl_ ?_; refine blk_put (cs := #[.slice Ao11 t181.length co11, .int .i64 t184, .int .i64 t185, .int .i64 t186, .int .i64 0]) ?_ 4 _ rfl; refine bl_ ?_; refine blk_put (cs := #[.slice Ao11 t181.length co11, .int .i64 t184, .int .i64 t185, .int .i64 0, .int .i64 0]) ?_ 3 _ rfl; refine bl_ ?_; refine blk_put (cs := #[.slice Ao11 t181.length co11, .int .i64 t184, .int .i64 0, .int .i64 0, .int .i64 0]) ?_ 2 _ rfl; refine bl_ ?_; refine blk_put (cs := #[.slice Ao11 t181.length co11, .int .i64 0, .int .i64 0, .int .i64 0, .int .i64 0]) ?_ 1 _ rfl; refine bl_ ?_; refine blk_put (cs := #[.slice none 0 0, .int .i64 0, .int .i64 0, .int .i64 0, .int .i64 0]) ?_ 0 _ rfl; refine bl_ ?_; exact BK188.out) hb); have n4_ := Aside0.mk (below_step (be_ HB.out) hb); clear HO183 BK179 BK180 BK188 HB; have HO183 := n0_; have BK179 := n1_; have BK180 := n2_; have BK188 := n3_; have HB := n4_; clear n0_ n1_ n2_ n3_ n4_; (try clear hb); (try clear hb2); (try clear hk); (try clear hi); obtain ⟨hcz22_0, hcz22_1, hcz22_2, hcz22_3, hcz22_4, hfz22_0, hfz22_1, hfz22_2, hfz22_3, hfz22_4⟩ := cz5_ BK179.out))
        go_meet
        case rel => exact ⟨_, (true), (by first | rfl | (simp; done) | (simp [*]; done)), H', ⟨by first | omega | exact Nat.le_refl _⟩, ⟨by (with_reducible repeat (first | apply Kd.R_alloc | apply Kd.R_drewN | apply Kd.R_drew)); exact HO183.out⟩, ⟨by refine bl_ ?_; exact BK179.out⟩, ⟨by refine bl_ ?_; exact BK180.out⟩, ⟨by refine bl_ ?_; exact BK188.out⟩, ⟨be_ HB.out⟩⟩
      · rw [if_neg c17] at H
        have c17b0 : (a0_3 == (-1)) = false := beq_eq_false_iff_ne.mpr c17
        have c17b1 : (a0_3 != (-1)) = true := bne_iff_ne.mpr c17
        (first | rw [c17b0] | (simp only [i64_w, i32_w]; rw [c17b0]) | skip)
        replace H := Option.bind_eq_some_iff.mp H
        obtain ⟨t190, A230, H⟩ := H
        replace H : (if t190 = true then ((spec_PlaceOf.f k l0_0 a0_1 a0_2 a0_3 a0_4 a1).bind fun t191 => (spec_PushBack.j0 k a1 (decide (t191 ≥ 0)) l0_0 a0_1 a0_2 a0_3 a0_4 t181 t184 t185 t186 t187)) else (spec_PushBack.j0 k a1 true l0_0 a0_1 a0_2 a0_3 a0_4 t181 t184 t185 t186 t187)) = some (r1, r2, r3, r4, r5, r6) := H
        have A23 := Aside0.mk A230
        clear A230
        by_cases c24 : t190 = true
        · subst c24
          have H1 : ((spec_PlaceOf.f k l0_0 a0_1 a0_2 a0_3 a0_4 a1).bind fun t191 => (spec_PushBack.j0 k a1 (decide (t191 ≥ 0)) l0_0 a0_1 a0_2 a0_3 a0_4 t181 t184 t185 t186 t187)) = some (r1, r2, r3, r4, r5, r6) := by rw [if_pos rfl] at H; exact H
          clear H
          have H := H1
          clear H1
          replace H := Option.bind_eq_some_iff.mp H
          obtain ⟨t191, A250, H⟩ := H
          replace H : (spec_PushBack.j0 k a1 (decide (t191 ≥ 0)) l0_0 a0_1 a0_2 a0_3 a0_4 t181 t184 t185 t186 t187) = some (r1, r2, r3, r4, r5, r6) := H
          have A25 := Aside0.mk A250
          clear A250
          have H' := Aside0.mk H
          clear H
          have hnb26 := NB179_180.out
          have hnc26 := NB180_179.out
          have hnb27 := NB179_188.out
          have hnc27 := NB188_179.out
          have hcz28_0 : w10.cell? ⟨gb179, 0, none⟩ = some (.slice A0_0 l0_0.length c0_0) := (blk_cell BK179.out 0).trans rfl
          have hcz28_1 : w10.cell? ⟨gb179, 1, none⟩ = some (.int .i64 a0_1) := (blk_cell BK179.out 1).trans rfl
          have hcz28_2 : w10.cell? ⟨gb179, 2, none⟩ = some (.int .i64 a0_2) := (blk_cell BK179.out 2).trans rfl
          have hcz28_3 : w10.cell? ⟨gb179, 3, none⟩ = some (.int .i64 a0_3) := (blk_cell BK179.out 3).trans rfl
          have hcz28_4 : w10.cell? ⟨gb179, 4, none⟩ = some (.int .i64 a0_4) := (blk_cell BK179.out 4).trans rfl
          have hfz28_0 := blk_frozen BK179.out 0
          have hfz28_1 := blk_frozen BK179.out 1
          have hfz28_2 := blk_frozen BK179.out 2
          have hfz28_3 := blk_frozen BK179.out 3
          have hfz28_4 := blk_frozen BK179.out 4
          go_wp2_with (first | ((with_reducible refine gate_callee (f := 24) rfl ?_); refine goesL_ (some 11) rfl rfl Try.func24 (by kernel_rfl) rfl #[.agg #[.slice A0_0 l0_0.length c0_0, .int .i64 a0_1, .int .i64 a0_2, .int .i64 a0_3, .int .i64 a0_4]] rfl (by (try simp only [List.map_toArray, List.map_cons, List.map_nil]); first | done | rfl | (simp only [List.length_drop, List.length_take]; rfl)) ?_; (with_reducible refine (spec_QueueOk.calls k _ _ l0_0 a0_1 a0_2 a0_3 a0_4 true _ ?side1 ?side2 A15.out).mono ?_); (case side1 => exact Kd.C_below HR0_0.out (be_ HB.out)); (case side2 => exact HC0_0.out); rintro e w29 ⟨rfl, hb⟩; refine ⟨_, rfl, ?_⟩; have n0_ := Aside0.mk (Kd.R_below (by (with_reducible repeat (first | apply Kd.R_alloc | apply Kd.R_drewN | apply Kd.R_drew)); exact (Kd.R_mono (Kd.R_far (p := ⟨gb188, 4, none⟩) (Kd.R_far (p := ⟨gb188, 3, none⟩) (Kd.R_far (p := ⟨gb188, 2, none⟩) (Kd.R_far (p := ⟨gb188, 1, none⟩) (Kd.R_far (p := ⟨gb188, 0, none⟩) (Kd.R_types HO183.out BK188.out (by decide)) (fun _ hk => hk.2) (.slice Ao11 t181.length co11)) (fun _ hk => hk.2) (.int .i64 t184)) (fun _ hk => hk.2) (.int .i64 t185)) (fun _ hk => hk.2) (.int .i64 t186)) (fun _ hk => hk.2) (.int .i64 t187)) (fun _ h_ => h_.1))) hb); have n1_ := Aside0.mk (blk_below (g := gb179) (o := .cells #[.slice A0_0 l0_0.length c0_0, .int .i64 a0_1, .int .i64 a0_2, .int .i64 a0_3, .int .i64 a0_4] 28 (0, 0)) (by refine bl_ ?_; refine blk_far ?_ NB179_188.out _; refine bl_ ?_; refine blk_far ?_ NB179_188.out _; refine bl_ ?_; refine blk_far ?_ NB179_188.out _; refine bl_ ?_; refine blk_far ?_ NB179_188.out _; refine bl_ ?_; refine blk_far ?_ NB179_188.out _; refine bl_ ?_; exact BK179.out) hb); have n2_ := Aside0.mk (blk_below (g := gb180) (o := .cells #[.slice none 0 0, .int .i64 0, .int .i64 0, .int .i64 0, .int .i64 0] 28 (0, 0)) (by refine bl_ ?_; refine blk_far ?_ NB180_188.out _; refine bl_ ?_; refine blk_far ?_ NB180_188.out _; refine bl_ ?_; refine blk_far ?_ NB180_188.out _; refine bl_ ?_; refine blk_far ?_ NB180_188.out _; refine bl_ ?_; refine blk_far ?_ NB180_188.out _; refine bl_ ?_; exact BK180.out) hb); have n3_ := Aside0.mk (blk_below (g := gb188) (o := .cells #[.slice Ao11 t181.length co11, .int .i64 t184, .int .i64 t185, .int .i64 t186, .int .i64 t187] 28 (0, 0)) (by refine bl_ ?_; refine blk_put (cs := #[.slice Ao11 t181.length co11, .int .i64 t184, .int .i64 t185, .int .i64 t186, .int .i64 0]) ?_ 4 _ rfl; refine bl_ ?_; refine blk_put (cs := #[.slice Ao11 t181.length co11, .int .i64 t184, .int .i64 t185, .int .i64 0, .int .i64 0]) ?_ 3 _ rfl; refine bl_ ?_; refine blk_put (cs := #[.slice Ao11 t181.length co11, .int .i64 t184, .int .i64 0, .int .i64 0, .int .i64 0]) ?_ 2 _ rfl; refine bl_ ?_; refine blk_put (cs := #[.slice Ao11 t181.length co11, .int .i64 0, .int .i64 0, .int .i64 0, .int .i64 0]) ?_ 1 _ rfl; refine bl_ ?_; refine blk_put (cs := #[.slice none 0 0, .int .i64 0, .int .i64 0, .int .i64 0, .int .i64 0]) ?_ 0 _ rfl; refine bl_ ?_; exact BK188.out) hb); have n4_ := Aside0.mk (below_step (be_ HB.out) hb); clear HO183 BK179 BK180 BK188 HB; have HO183 := n0_; have BK179 := n1_; have BK180 := n2_; have BK188 := n3_; have HB := n4_; clear n0_ n1_ n2_ n3_ n4_; (try clear hb); (try clear hb2); (try clear hk); (try clear hi); obtain ⟨hcz30_0, hcz30_1, hcz30_2, hcz30_3, hcz30_4, hfz30_0, hfz30_1, hfz30_2, hfz30_3, hfz30_4⟩ := cz5_ BK179.out) | (go_at_call 54; (with_reducible refine (spec_l01In.calls a1 1 1000000000 true _ A23.out).mono ?_); rintro e w' ⟨rfl, ⟨nd, rfl⟩⟩) | (go_at_call 26; (with_reducible refine (spec_PlaceOf.calls k _ _ l0_0 a0_1 a0_2 a0_3 a0_4 a1 t191 _ ?side1 ?side2 A25.out).mono ?_); (case side1 => repeat (first | exact (Kd.C_below HR0_0.out (be_ HB.out)) | (with_reducible refine Kd.C_alloc ?_ _) | (with_reducible refine Kd.C_drewN ?_ _) | (with_reducible refine Kd.C_drew ?_))); (case side2 => exact HC0_0.out); rintro e w31 ⟨rfl, hb⟩; have n0_ := Aside0.mk (Kd.R_below (ro_ HO183.out) hb); have n1_ := Aside0.mk (blk_below (g := gb179) (o := .cells #[.slice A0_0 l0_0.length c0_0, .int .i64 a0_1, .int .i64 a0_2, .int .i64 a0_3, .int .i64 a0_4] 28 (0, 0)) (bl_ BK179.out) hb); have n2_ := Aside0.mk (blk_below (g := gb180) (o := .cells #[.slice none 0 0, .int .i64 0, .int .i64 0, .int .i64 0, .int .i64 0] 28 (0, 0)) (bl_ BK180.out) hb); have n3_ := Aside0.mk (blk_below (g := gb188) (o := .cells #[.slice Ao11 t181.length co11, .int .i64 t184, .int .i64 t185, .int .i64 t186, .int .i64 t187] 28 (0, 0)) (bl_ BK188.out) hb); have n4_ := Aside0.mk (below_step (be_ HB.out) hb); clear HO183 BK179 BK180 BK188 HB; have HO183 := n0_; have BK179 := n1_; have BK180 := n2_; have BK188 := n3_; have HB := n4_; clear n0_ n1_ n2_ n3_ n4_; (try clear hb); (try clear hb2); (try clear hk); (try clear hi)))
          go_meet
          case rel => exact ⟨_, (decide (t191 ≥ 0)), (by first | rfl | (simp; done) | (simp [*]; done)), H', ⟨by first | omega | exact Nat.le_refl _⟩, ⟨by (with_reducible repeat (first | apply Kd.R_alloc | apply Kd.R_drewN | apply Kd.R_drew)); exact HO183.out⟩, ⟨by refine bl_ ?_; exact BK179.out⟩, ⟨by refine bl_ ?_; exact BK180.out⟩, ⟨by refine bl_ ?_; exact BK188.out⟩, ⟨be_ HB.out⟩⟩
        · replace c24 := Bool.eq_false_iff.mpr c24
          subst c24
          have H1 : (spec_PushBack.j0 k a1 true l0_0 a0_1 a0_2 a0_3 a0_4 t181 t184 t185 t186 t187) = some (r1, r2, r3, r4, r5, r6) := by rw [if_neg (show ¬ (false = true) by decide)] at H; exact H
          clear H
          have H := H1
          clear H1
          have H' := Aside0.mk H
          clear H
          have hnb32 := NB179_180.out
          have hnc32 := NB180_179.out
          have hnb33 := NB179_188.out
          have hnc33 := NB188_179.out
          have hcz34_0 : w10.cell? ⟨gb179, 0, none⟩ = some (.slice A0_0 l0_0.length c0_0) := (blk_cell BK179.out 0).trans rfl
          have hcz34_1 : w10.cell? ⟨gb179, 1, none⟩ = some (.int .i64 a0_1) := (blk_cell BK179.out 1).trans rfl
          have hcz34_2 : w10.cell? ⟨gb179, 2, none⟩ = some (.int .i64 a0_2) := (blk_cell BK179.out 2).trans rfl
          have hcz34_3 : w10.cell? ⟨gb179, 3, none⟩ = some (.int .i64 a0_3) := (blk_cell BK179.out 3).trans rfl
          have hcz34_4 : w10.cell? ⟨gb179, 4, none⟩ = some (.int .i64 a0_4) := (blk_cell BK179.out 4).trans rfl
          have hfz34_0 := blk_frozen BK179.out 0
          have hfz34_1 := blk_frozen BK179.out 1
          have hfz34_2 := blk_frozen BK179.out 2
          have hfz34_3 := blk_frozen BK179.out 3
          have hfz34_4 := blk_frozen BK179.out 4
          go_wp2_with (first | ((with_reducible refine gate_callee (f := 24) rfl ?_); refine goesL_ (some 11) rfl rfl Try.func24 (by kernel_rfl) rfl #[.agg #[.slice A0_0 l0_0.length c0_0, .int .i64 a0_1, .int .i64 a0_2, .int .i64 a0_3, .int .i64 a0_4]] rfl (by (try simp only [List.map_toArray, List.map_cons, List.map_nil]); first | done | rfl | (simp only [List.length_drop, List.length_take]; rfl)) ?_; (with_reducible refine (spec_QueueOk.calls k _ _ l0_0 a0_1 a0_2 a0_3 a0_4 true _ ?side1 ?side2 A15.out).mono ?_); (case side1 => exact Kd.C_below HR0_0.out (be_ HB.out)); (case side2 => exact HC0_0.out); rintro e w35 ⟨rfl, hb⟩; refine ⟨_, rfl, ?_⟩; have n0_ := Aside0.mk (Kd.R_below (by (with_reducible repeat (first | apply Kd.R_alloc | apply Kd.R_drewN | apply Kd.R_drew)); exact (Kd.R_mono (Kd.R_far (p := ⟨gb188, 4, none⟩) (Kd.R_far (p := ⟨gb188, 3, none⟩) (Kd.R_far (p := ⟨gb188, 2, none⟩) (Kd.R_far (p := ⟨gb188, 1, none⟩) (Kd.R_far (p := ⟨gb188, 0, none⟩) (Kd.R_types HO183.out BK188.out (by decide)) (fun _ hk => hk.2) (.slice Ao11 t181.length co11)) (fun _ hk => hk.2) (.int .i64 t184)) (fun _ hk => hk.2) (.int .i64 t185)) (fun _ hk => hk.2) (.int .i64 t186)) (fun _ hk => hk.2) (.int .i64 t187)) (fun _ h_ => h_.1))) hb); have n1_ := Aside0.mk (blk_below (g := gb179) (o := .cells #[.slice A0_0 l0_0.length c0_0, .int .i64 a0_1, .int .i64 a0_2, .int .i64 a0_3, .int .i64 a0_4] 28 (0, 0)) (by refine bl_ ?_; refine blk_far ?_ NB179_188.out _; refine bl_ ?_; refine blk_far ?_ NB179_188.out _; refine bl_ ?_; refine blk_far ?_ NB179_188.out _; refine bl_ ?_; refine blk_far ?_ NB179_188.out _; refine bl_ ?_; refine blk_far ?_ NB179_188.out _; refine bl_ ?_; exact BK179.out) hb); have n2_ := Aside0.mk (blk_below (g := gb180) (o := .cells #[.slice none 0 0, .int .i64 0, .int .i64 0, .int .i64 0, .int .i64 0] 28 (0, 0)) (by refine bl_ ?_; refine blk_far ?_ NB180_188.out _; refine bl_ ?_; refine blk_far ?_ NB180_188.out _; refine bl_ ?_; refine blk_far ?_ NB180_188.out _; refine bl_ ?_; refine blk_far ?_ NB180_188.out _; refine bl_ ?_; refine blk_far ?_ NB180_188.out _; refine bl_ ?_; exact BK180.out) hb); have n3_ := Aside0.mk (blk_below (g := gb188) (o := .cells #[.slice Ao11 t181.length co11, .int .i64 t184, .int .i64 t185, .int .i64 t186, .int .i64 t187] 28 (0, 0)) (by refine bl_ ?_; refine blk_put (cs := #[.slice Ao11 t181.length co11, .int .i64 t184, .int .i64 t185, .int .i64 t186, .int .i64 0]) ?_ 4 _ rfl; refine bl_ ?_; refine blk_put (cs := #[.slice Ao11 t181.length co11, .int .i64 t184, .int .i64 t185, .int .i64 0, .int .i64 0]) ?_ 3 _ rfl; refine bl_ ?_; refine blk_put (cs := #[.slice Ao11 t181.length co11, .int .i64 t184, .int .i64 0, .int .i64 0, .int .i64 0]) ?_ 2 _ rfl; refine bl_ ?_; refine blk_put (cs := #[.slice Ao11 t181.length co11, .int .i64 0, .int .i64 0, .int .i64 0, .int .i64 0]) ?_ 1 _ rfl; refine bl_ ?_; refine blk_put (cs := #[.slice none 0 0, .int .i64 0, .int .i64 0, .int .i64 0, .int .i64 0]) ?_ 0 _ rfl; refine bl_ ?_; exact BK188.out) hb); have n4_ := Aside0.mk (below_step (be_ HB.out) hb); clear HO183 BK179 BK180 BK188 HB; have HO183 := n0_; have BK179 := n1_; have BK180 := n2_; have BK188 := n3_; have HB := n4_; clear n0_ n1_ n2_ n3_ n4_; (try clear hb); (try clear hb2); (try clear hk); (try clear hi); obtain ⟨hcz36_0, hcz36_1, hcz36_2, hcz36_3, hcz36_4, hfz36_0, hfz36_1, hfz36_2, hfz36_3, hfz36_4⟩ := cz5_ BK179.out) | (go_at_call 54; (with_reducible refine (spec_l01In.calls a1 1 1000000000 false _ A23.out).mono ?_); rintro e w' ⟨rfl, ⟨nd, rfl⟩⟩))
          go_meet
          case rel => exact ⟨_, (true), (by first | rfl | (simp; done) | (simp [*]; done)), H', ⟨by first | omega | exact Nat.le_refl _⟩, ⟨by (with_reducible repeat (first | apply Kd.R_alloc | apply Kd.R_drewN | apply Kd.R_drew)); exact HO183.out⟩, ⟨by refine bl_ ?_; exact BK179.out⟩, ⟨by refine bl_ ?_; exact BK180.out⟩, ⟨by refine bl_ ?_; exact BK188.out⟩, ⟨be_ HB.out⟩⟩
    · replace c16 := Bool.eq_false_iff.mpr c16
      subst c16
      have H1 : (spec_PushBack.j0 k a1 true l0_0 a0_1 a0_2 a0_3 a0_4 t181 t184 t185 t186 t187) = some (r1, r2, r3, r4, r5, r6) := by rw [if_neg (show ¬ (false = true) by decide)] at H; exact H
      clear H
      have H := H1
      clear H1
      have H' := Aside0.mk H
      clear H
      have hnb37 := NB179_180.out
      have hnc37 := NB180_179.out
      have hnb38 := NB179_188.out
      have hnc38 := NB188_179.out
      have hcz39_0 : w10.cell? ⟨gb179, 0, none⟩ = some (.slice A0_0 l0_0.length c0_0) := (blk_cell BK179.out 0).trans rfl
      have hcz39_1 : w10.cell? ⟨gb179, 1, none⟩ = some (.int .i64 a0_1) := (blk_cell BK179.out 1).trans rfl
      have hcz39_2 : w10.cell? ⟨gb179, 2, none⟩ = some (.int .i64 a0_2) := (blk_cell BK179.out 2).trans rfl
      have hcz39_3 : w10.cell? ⟨gb179, 3, none⟩ = some (.int .i64 a0_3) := (blk_cell BK179.out 3).trans rfl
      have hcz39_4 : w10.cell? ⟨gb179, 4, none⟩ = some (.int .i64 a0_4) := (blk_cell BK179.out 4).trans rfl
      have hfz39_0 := blk_frozen BK179.out 0
      have hfz39_1 := blk_frozen BK179.out 1
      have hfz39_2 := blk_frozen BK179.out 2
      have hfz39_3 := blk_frozen BK179.out 3
      have hfz39_4 := blk_frozen BK179.out 4
      go_wp2_with (first | ((with_reducible refine gate_callee (f := 24) rfl ?_); refine goesL_ (some 11) rfl rfl Try.func24 (by kernel_rfl) rfl #[.agg #[.slice A0_0 l0_0.length c0_0, .int .i64 a0_1, .int .i64 a0_2, .int .i64 a0_3, .int .i64 a0_4]] rfl (by (try simp only [List.map_toArray, List.map_cons, List.map_nil]); first | done | rfl | (simp only [List.length_drop, List.length_take]; rfl)) ?_; (with_reducible refine (spec_QueueOk.calls k _ _ l0_0 a0_1 a0_2 a0_3 a0_4 false _ ?side1 ?side2 A15.out).mono ?_); (case side1 => exact Kd.C_below HR0_0.out (be_ HB.out)); (case side2 => exact HC0_0.out); rintro e w40 ⟨rfl, hb⟩; refine ⟨_, rfl, ?_⟩; have n0_ := Aside0.mk (Kd.R_below (by (with_reducible repeat (first | apply Kd.R_alloc | apply Kd.R_drewN | apply Kd.R_drew)); exact (Kd.R_mono (Kd.R_far (p := ⟨gb188, 4, none⟩) (Kd.R_far (p := ⟨gb188, 3, none⟩) (Kd.R_far (p := ⟨gb188, 2, none⟩) (Kd.R_far (p := ⟨gb188, 1, none⟩) (Kd.R_far (p := ⟨gb188, 0, none⟩) (Kd.R_types HO183.out BK188.out (by decide)) (fun _ hk => hk.2) (.slice Ao11 t181.length co11)) (fun _ hk => hk.2) (.int .i64 t184)) (fun _ hk => hk.2) (.int .i64 t185)) (fun _ hk => hk.2) (.int .i64 t186)) (fun _ hk => hk.2) (.int .i64 t187)) (fun _ h_ => h_.1))) hb); have n1_ := Aside0.mk (blk_below (g := gb179) (o := .cells #[.slice A0_0 l0_0.length c0_0, .int .i64 a0_1, .int .i64 a0_2, .int .i64 a0_3, .int .i64 a0_4] 28 (0, 0)) (by refine bl_ ?_; refine blk_far ?_ NB179_188.out _; refine bl_ ?_; refine blk_far ?_ NB179_188.out _; refine bl_ ?_; refine blk_far ?_ NB179_188.out _; refine bl_ ?_; refine blk_far ?_ NB179_188.out _; refine bl_ ?_; refine blk_far ?_ NB179_188.out _; refine bl_ ?_; exact BK179.out) hb); have n2_ := Aside0.mk (blk_below (g := gb180) (o := .cells #[.slice none 0 0, .int .i64 0, .int .i64 0, .int .i64 0, .int .i64 0] 28 (0, 0)) (by refine bl_ ?_; refine blk_far ?_ NB180_188.out _; refine bl_ ?_; refine blk_far ?_ NB180_188.out _; refine bl_ ?_; refine blk_far ?_ NB180_188.out _; refine bl_ ?_; refine blk_far ?_ NB180_188.out _; refine bl_ ?_; refine blk_far ?_ NB180_188.out _; refine bl_ ?_; exact BK180.out) hb); have n3_ := Aside0.mk (blk_below (g := gb188) (o := .cells #[.slice Ao11 t181.length co11, .int .i64 t184, .int .i64 t185, .int .i64 t186, .int .i64 t187] 28 (0, 0)) (by refine bl_ ?_; refine blk_put (cs := #[.slice Ao11 t181.length co11, .int .i64 t184, .int .i64 t185, .int .i64 t186, .int .i64 0]) ?_ 4 _ rfl; refine bl_ ?_; refine blk_put (cs := #[.slice Ao11 t181.length co11, .int .i64 t184, .int .i64 t185, .int .i64 0, .int .i64 0]) ?_ 3 _ rfl; refine bl_ ?_; refine blk_put (cs := #[.slice Ao11 t181.length co11, .int .i64 t184, .int .i64 0, .int .i64 0, .int .i64 0]) ?_ 2 _ rfl; refine bl_ ?_; refine blk_put (cs := #[.slice Ao11 t181.length co11, .int .i64 0, .int .i64 0, .int .i64 0, .int .i64 0]) ?_ 1 _ rfl; refine bl_ ?_; refine blk_put (cs := #[.slice none 0 0, .int .i64 0, .int .i64 0, .int .i64 0, .int .i64 0]) ?_ 0 _ rfl; refine bl_ ?_; exact BK188.out) hb); have n4_ := Aside0.mk (below_step (be_ HB.out) hb); clear HO183 BK179 BK180 BK188 HB; have HO183 := n0_; have BK179 := n1_; have BK180 := n2_; have BK188 := n3_; have HB := n4_; clear n0_ n1_ n2_ n3_ n4_; (try clear hb); (try clear hb2); (try clear hk); (try clear hi)))
      go_meet
      case rel => exact ⟨_, (true), (by first | rfl | (simp; done) | (simp [*]; done)), H', ⟨by first | omega | exact Nat.le_refl _⟩, ⟨by (with_reducible repeat (first | apply Kd.R_alloc | apply Kd.R_drewN | apply Kd.R_drew)); exact HO183.out⟩, ⟨by refine bl_ ?_; exact BK179.out⟩, ⟨by refine bl_ ?_; exact BK180.out⟩, ⟨by refine bl_ ?_; exact BK188.out⟩, ⟨be_ HB.out⟩⟩
  case rest =>
    clear HC4
    try clear c1
    try clear c2
    try clear p2
    try clear c3
    try clear c4
    try clear c7
    try clear c12
    try clear c13
    try clear c16
    try clear c17
    try clear c17b0
    try clear c17b1
    try clear c18
    try clear c19
    try clear c20
    try clear c24
    try clear c26
    try clear c27
    try clear c32
    try clear c33
    try clear c37
    try clear c38
    try clear hcz14_0
    try clear hcz14_1
    try clear hcz14_2
    try clear hcz14_3
    try clear hcz14_4
    try clear hcz20_0
    try clear hcz20_1
    try clear hcz20_2
    try clear hcz20_3
    try clear hcz20_4
    try clear hcz22_0
    try clear hcz22_1
    try clear hcz22_2
    try clear hcz22_3
    try clear hcz22_4
    try clear hcz28_0
    try clear hcz28_1
    try clear hcz28_2
    try clear hcz28_3
    try clear hcz28_4
    try clear hcz30_0
    try clear hcz30_1
    try clear hcz30_2
    try clear hcz30_3
    try clear hcz30_4
    try clear hcz34_0
    try clear hcz34_1
    try clear hcz34_2
    try clear hcz34_3
    try clear hcz34_4
    try clear hcz36_0
    try clear hcz36_1
    try clear hcz36_2
    try clear hcz36_3
    try clear hcz36_4
    try clear hcz39_0
    try clear hcz39_1
    try clear hcz39_2
    try clear hcz39_3
    try clear hcz39_4
    try clear hcz8_0
    try clear hcz8_1
    try clear hcz8_2
    try clear hcz8_3
    try clear hcz8_4
    try clear hfz14_0
    try clear hfz14_1
    try clear hfz14_2
    try clear hfz14_3
    try clear hfz14_4
    try clear hfz20_0
    try clear hfz20_1
    try clear hfz20_2
    try clear hfz20_3
    try clear hfz20_4
    try clear hfz22_0
    try clear hfz22_1
    try clear hfz22_2
    try clear hfz22_3
    try clear hfz22_4
    try clear hfz28_0
    try clear hfz28_1
    try clear hfz28_2
    try clear hfz28_3
    try clear hfz28_4
    try clear hfz30_0
    try clear hfz30_1
    try clear hfz30_2
    try clear hfz30_3
    try clear hfz30_4
    try clear hfz34_0
    try clear hfz34_1
    try clear hfz34_2
    try clear hfz34_3
    try clear hfz34_4
    try clear hfz36_0
    try clear hfz36_1
    try clear hfz36_2
    try clear hfz36_3
    try clear hfz36_4
    try clear hfz39_0
    try clear hfz39_1
    try clear hfz39_2
    try clear hfz39_3
    try clear hfz39_4
    try clear hfz8_0
    try clear hfz8_1
    try clear hfz8_2
    try clear hfz8_3
    try clear hfz8_4
    obtain ⟨kq, x28_3, rfl, HA, HJ3, HO_189000, BK179, BK180, BK188, HB⟩ := hcut
    cases kq with
    | zero => exact absurd HA.out (by simp [spec_PushBack.j0])
    | succ kj3 =>
      have H := HA.out
      clear HA
      simp only [spec_PushBack.j0] at H
      by_cases c41 : x28_3 = true
      · subst c41
        have H1 : (some (t181, t184, t185, t186, t187, (-1))) = some (r1, r2, r3, r4, r5, r6) := by rw [if_pos rfl] at H; exact H
        clear H
        have H := H1
        clear H1
        simp only [Option.some.injEq, Prod.mk.injEq] at H
        obtain ⟨rfl, rfl, rfl, rfl, rfl, rfl⟩ := H
        have hnb42 := NB188_179.out
        have hnc42 := NB179_188.out
        have hnb43 := NB188_180.out
        have hnc43 := NB180_188.out
        have hcz44_0 : wc.cell? ⟨gb188, 0, none⟩ = some (.slice Ao11 t181.length co11) := (blk_cell BK188.out 0).trans rfl
        have hcz44_1 : wc.cell? ⟨gb188, 1, none⟩ = some (.int .i64 t184) := (blk_cell BK188.out 1).trans rfl
        have hcz44_2 : wc.cell? ⟨gb188, 2, none⟩ = some (.int .i64 t185) := (blk_cell BK188.out 2).trans rfl
        have hcz44_3 : wc.cell? ⟨gb188, 3, none⟩ = some (.int .i64 t186) := (blk_cell BK188.out 3).trans rfl
        have hcz44_4 : wc.cell? ⟨gb188, 4, none⟩ = some (.int .i64 t187) := (blk_cell BK188.out 4).trans rfl
        have hfz44_0 := blk_frozen BK188.out 0
        have hfz44_1 := blk_frozen BK188.out 1
        have hfz44_2 := blk_frozen BK188.out 2
        have hfz44_3 := blk_frozen BK188.out 3
        have hfz44_4 := blk_frozen BK188.out 4
        have hnb45 := NB180_179.out
        have hnc45 := NB179_180.out
        have hcz46_0 : wc.cell? ⟨gb180, 0, none⟩ = some (.slice none 0 0) := (blk_cell BK180.out 0).trans rfl
        have hcz46_1 : wc.cell? ⟨gb180, 1, none⟩ = some (.int .i64 0) := (blk_cell BK180.out 1).trans rfl
        have hcz46_2 : wc.cell? ⟨gb180, 2, none⟩ = some (.int .i64 0) := (blk_cell BK180.out 2).trans rfl
        have hcz46_3 : wc.cell? ⟨gb180, 3, none⟩ = some (.int .i64 0) := (blk_cell BK180.out 3).trans rfl
        have hcz46_4 : wc.cell? ⟨gb180, 4, none⟩ = some (.int .i64 0) := (blk_cell BK180.out 4).trans rfl
        have hfz46_0 := blk_frozen BK180.out 0
        have hfz46_1 := blk_frozen BK180.out 1
        have hfz46_2 := blk_frozen BK180.out 2
        have hfz46_3 := blk_frozen BK180.out 3
        have hfz46_4 := blk_frozen BK180.out 4
        go_wp2
        refine bodyPost_ret (results_ct rfl _ _ gb180 28 #[.slice Ao11 t181.length co11, .int .i64 t184, .int .i64 t185, .int .i64 t186, .int .i64 t187] (0, 0) _ rfl (by refine bl_ ?_; refine blk_put (cs := #[.slice Ao11 t181.length co11, .int .i64 t184, .int .i64 t185, .int .i64 t186, .int .i64 0]) ?_ 4 _ rfl; refine bl_ ?_; refine blk_put (cs := #[.slice Ao11 t181.length co11, .int .i64 t184, .int .i64 t185, .int .i64 0, .int .i64 0]) ?_ 3 _ rfl; refine bl_ ?_; refine blk_put (cs := #[.slice Ao11 t181.length co11, .int .i64 t184, .int .i64 0, .int .i64 0, .int .i64 0]) ?_ 2 _ rfl; refine bl_ ?_; refine blk_put (cs := #[.slice Ao11 t181.length co11, .int .i64 0, .int .i64 0, .int .i64 0, .int .i64 0]) ?_ 1 _ rfl; refine bl_ ?_; refine blk_put (cs := #[.slice none 0 0, .int .i64 0, .int .i64 0, .int .i64 0, .int .i64 0]) ?_ 0 _ rfl; refine bl_ ?_; exact BK180.out) Try.underlying28 rfl (by kernel_rfl)) rfl ?_
        exact ⟨_, by first | rfl | (simp [errW_none, errW_some] <;> rfl) | (simp [*, errW_none, errW_some] <;> rfl), by (with_reducible repeat (first | apply Kd.R_alloc | apply Kd.R_drewN | apply Kd.R_drew)); exact Kd.R_mono (Kd.R_far (p := ⟨gb180, 4, none⟩) (Kd.R_far (p := ⟨gb180, 3, none⟩) (Kd.R_far (p := ⟨gb180, 2, none⟩) (Kd.R_far (p := ⟨gb180, 1, none⟩) (Kd.R_far (p := ⟨gb180, 0, none⟩) (Kd.R_types HO_189000.out BK180.out (by decide)) (fun _ hk => hk.2) (.slice Ao11 t181.length co11)) (fun _ hk => hk.2) (.int .i64 t184)) (fun _ hk => hk.2) (.int .i64 t185)) (fun _ hk => hk.2) (.int .i64 t186)) (fun _ hk => hk.2) (.int .i64 t187)) (fun _ hk => trivial), be_ HB.out⟩
      · replace c41 := Bool.eq_false_iff.mpr c41
        subst c41
        have H1 : (if 0 ≤ a0_3 then (if a0_3 < (l0_0.length : Int) then (if a0_3 < (t181.length : Int) then ((some (t181.set (a0_3 : Int).toNat (⟨a1, a0_2, (-1), true⟩ : S65) : List (S65))).bind fun y193 => (if a0_2 = (-1) then (some (y193, a0_3, a0_3, (rd_T65 l0_0 a0_3).f2, wrap64 (a0_4 + 1), a0_3)) else (if 0 ≤ a0_2 then (if a0_2 < (t181.length : Int) then (some ((y193.set (a0_2 : Int).toNat (⟨(rd_T65 y193 a0_2).f0, (rd_T65 y193 a0_2).f1, a0_3, (rd_T65 y193 a0_2).f3⟩ : S65)), t184, a0_3, (rd_T65 l0_0 a0_3).f2, wrap64 (a0_4 + 1), a0_3)) else (none)) else (none)))) else (none)) else (none)) else (none)) = some (r1, r2, r3, r4, r5, r6) := by rw [if_neg (show ¬ (false = true) by decide)] at H; exact H
        clear H
        have H := H1
        clear H1
        by_cases c47 : 0 ≤ a0_3
        · rw [if_pos c47] at H
          have c47b0 : decide (0 ≤ a0_3) = true := decide_eq_true c47
          clear c47
          by_cases c48 : a0_3 < (l0_0.length : Int)
          · rw [if_pos c48] at H
            have c48b0 : decide (a0_3 < (l0_0.length : Int)) = true := decide_eq_true c48
            clear c48
            by_cases c49 : a0_3 < (t181.length : Int)
            · rw [if_pos c49] at H
              have c49b0 : decide (a0_3 < (t181.length : Int)) = true := decide_eq_true c49
              clear c49
              obtain ⟨y193, hy193⟩ : ∃ y_ : List (S65), y_ = (t181.set (a0_3 : Int).toNat (⟨a1, a0_2, (-1), true⟩ : S65)) := ⟨_, rfl⟩
              replace H : (if a0_2 = (-1) then (some (y193, a0_3, a0_3, (rd_T65 l0_0 a0_3).f2, wrap64 (a0_4 + 1), a0_3)) else (if 0 ≤ a0_2 then (if a0_2 < (t181.length : Int) then (some ((y193.set (a0_2 : Int).toNat (⟨(rd_T65 y193 a0_2).f0, (rd_T65 y193 a0_2).f1, a0_3, (rd_T65 y193 a0_2).f3⟩ : S65)), t184, a0_3, (rd_T65 l0_0 a0_3).f2, wrap64 (a0_4 + 1), a0_3)) else (none)) else (none))) = some (r1, r2, r3, r4, r5, r6) := by first | (rw [hy193]; with_reducible exact H) | (have H2_ := (Option.bind_some _ _).symm.trans H; rw [hy193]; with_reducible exact H2_) | (have H2_ := (Option.bind_some _ _).symm.trans H; with_reducible exact H2_) | with_reducible exact H | (rw [hy193]; exact H) | exact H
              have Ny193 := Aside0.mk hy193
              clear hy193
              by_cases c51 : a0_2 = (-1)
              · rw [if_pos c51] at H
                have c51b0 : (a0_2 == (-1)) = true := beq_iff_eq.mpr c51
                have c51b1 : (a0_2 != (-1)) = false := bne_eq_false_iff_eq.mpr c51
                clear c51
                simp only [Option.some.injEq, Prod.mk.injEq] at H
                obtain ⟨rfl, rfl, rfl, rfl, rfl, rfl⟩ := H
                have hnb52 := NB179_180.out
                have hnc52 := NB180_179.out
                have hnb53 := NB179_188.out
                have hnc53 := NB188_179.out
                have hcz54_0 : wc.cell? ⟨gb179, 0, none⟩ = some (.slice A0_0 l0_0.length c0_0) := (blk_cell BK179.out 0).trans rfl
                have hcz54_1 : wc.cell? ⟨gb179, 1, none⟩ = some (.int .i64 a0_1) := (blk_cell BK179.out 1).trans rfl
                have hcz54_2 : wc.cell? ⟨gb179, 2, none⟩ = some (.int .i64 a0_2) := (blk_cell BK179.out 2).trans rfl
                have hcz54_3 : wc.cell? ⟨gb179, 3, none⟩ = some (.int .i64 a0_3) := (blk_cell BK179.out 3).trans rfl
                have hcz54_4 : wc.cell? ⟨gb179, 4, none⟩ = some (.int .i64 a0_4) := (blk_cell BK179.out 4).trans rfl
                have hfz54_0 := blk_frozen BK179.out 0
                have hfz54_1 := blk_frozen BK179.out 1
                have hfz54_2 := blk_frozen BK179.out 2
                have hfz54_3 := blk_frozen BK179.out 3
                have hfz54_4 := blk_frozen BK179.out 4
                have p192 : 0 ≤ (a0_3 : Int) := of_decide_eq_true (by first | (with_reducible assumption) | assumption)
                have q192 : a0_3 < (l0_0.length : Int) := of_decide_eq_true (by first | (with_reducible assumption) | assumption)
                obtain ⟨ad192, e192, hx192_0, hx192_1, hx192_2, hx192_3⟩ := at_T65 HR0_0.out a0_3 p192 q192
                cases e192
                replace hx192_0 := (HB.out.cell (World.block_lt_of_cell? w _ hx192_0)).trans hx192_0
                replace hx192_1 := (HB.out.cell (World.block_lt_of_cell? w _ hx192_1)).trans hx192_1
                replace hx192_2 := (HB.out.cell (World.block_lt_of_cell? w _ hx192_2)).trans hx192_2
                replace hx192_3 := (HB.out.cell (World.block_lt_of_cell? w _ hx192_3)).trans hx192_3
                replace p192 := eq_true p192
                replace q192 := eq_true q192
                have hnb55 := NB188_180.out
                have hnc55 := NB180_188.out
                have hcz56_0 : wc.cell? ⟨gb188, 0, none⟩ = some (.slice Ao11 t181.length co11) := (blk_cell BK188.out 0).trans rfl
                have hcz56_1 : wc.cell? ⟨gb188, 1, none⟩ = some (.int .i64 t184) := (blk_cell BK188.out 1).trans rfl
                have hcz56_2 : wc.cell? ⟨gb188, 2, none⟩ = some (.int .i64 t185) := (blk_cell BK188.out 2).trans rfl
                have hcz56_3 : wc.cell? ⟨gb188, 3, none⟩ = some (.int .i64 t186) := (blk_cell BK188.out 3).trans rfl
                have hcz56_4 : wc.cell? ⟨gb188, 4, none⟩ = some (.int .i64 t187) := (blk_cell BK188.out 4).trans rfl
                have hfz56_0 := blk_frozen BK188.out 0
                have hfz56_1 := blk_frozen BK188.out 1
                have hfz56_2 := blk_frozen BK188.out 2
                have hfz56_3 := blk_frozen BK188.out 3
                have hfz56_4 := blk_frozen BK188.out 4
                go_wp2_with (first | ((with_reducible refine gate_store (t := 3) (p := 38) rfl ?_); refine store_event (t := 3) (p := 38) (v := ?vo_w57) (w1 := (wc.setCell ⟨gb188, 3, none⟩ (.int .i64 ((rd_T65 l0_0 a0_3).f2)))) ?hg ?ho ?hn ?hr ?_; (case ho => rfl); (case hg => rfl); (case hn => rfl); (case hr => first | (go_simp; done) | (go_simp; rfl)); intro w57 hw; have n0_ : Aside0 (Kd.R k65 65 w57 w.heap.size (fun _ => True) (.slice Ao11 t181.length co11) t181) := ⟨(by rw [hw]; exact (by (with_reducible repeat (first | apply Kd.R_alloc | apply Kd.R_drewN | apply Kd.R_drew)); exact Kd.R_mono (Kd.R_far (p := ⟨gb188, 3, none⟩) (Kd.R_types HO_189000.out BK188.out (by decide)) (fun _ hk => hk.2) (.int .i64 ((rd_T65 l0_0 a0_3).f2))) (fun _ hk => trivial)))⟩; have n1_ : Aside0 (w57.heap[gb179]? = some (.cells #[.slice (some ad192) l0_0.length c0_0, .int .i64 a0_1, .int .i64 a0_2, .int .i64 a0_3, .int .i64 a0_4] 28 (0, 0))) := ⟨(by rw [hw]; exact (by refine bl_ ?_; refine blk_far ?_ NB179_188.out _; refine bl_ ?_; exact BK179.out))⟩; have n2_ : Aside0 (w57.heap[gb180]? = some (.cells #[.slice none 0 0, .int .i64 0, .int .i64 0, .int .i64 0, .int .i64 0] 28 (0, 0))) := ⟨(by rw [hw]; exact (by refine bl_ ?_; refine blk_far ?_ NB180_188.out _; refine bl_ ?_; exact BK180.out))⟩; have n3_ : Aside0 (w57.heap[gb188]? = some (.cells #[.slice Ao11 t181.length co11, .int .i64 t184, .int .i64 t185, .int .i64 ((rd_T65 l0_0 a0_3).f2), .int .i64 t187] 28 (0, 0))) := ⟨(by rw [hw]; exact (by refine bl_ ?_; refine blk_put (cs := #[.slice Ao11 t181.length co11, .int .i64 t184, .int .i64 t185, .int .i64 t186, .int .i64 t187]) ?_ 3 _ rfl; refine bl_ ?_; exact BK188.out))⟩; have n4_ : Aside0 (Below w.heap.size w w57) := ⟨(by rw [hw]; exact (be_ HB.out))⟩; clear hw HO_189000 BK179 BK180 BK188 HB; have HO_189000 := n0_; have BK179 := n1_; have BK180 := n2_; have BK188 := n3_; have HB := n4_; clear n0_ n1_ n2_ n3_ n4_; obtain ⟨hcz58_0, hcz58_1, hcz58_2, hcz58_3, hcz58_4, hfz58_0, hfz58_1, hfz58_2, hfz58_3, hfz58_4⟩ := cz5_ BK188.out; obtain ⟨hcz59_0, hcz59_1, hcz59_2, hcz59_3, hcz59_4, hfz59_0, hfz59_1, hfz59_2, hfz59_3, hfz59_4⟩ := cz5_ BK179.out; have p50 : 0 ≤ (a0_3 : Int) := of_decide_eq_true (by first | (with_reducible assumption) | assumption); have q50 : (a0_3 : Int) < ((t181.length : Int) : Int) := of_decide_eq_true (by first | (with_reducible assumption) | assumption); obtain ⟨go50, co50, eo50, gb50, gl50, cl50, HG50⟩ := Kd.R_form HO_189000.out (by omega); (first | cases eo50 | (injection eo50 with ea_ en_ ec_; (first | subst ea_ | (injection ea_ with ea_; subst ea_)); subst ec_; clear en_)); have GB50 := Aside0.mk gb50; have GG50 := Aside0.mk HG50; clear gb50 gl50 HG50; obtain ⟨ce50, hcl50, hM50, hcc50, hfr50⟩ := Kd.R_elem HO_189000.out z65 (a0_3 : Int) p50 q50; obtain rfl := k65_openM hM50; have hx50_0 : w57.cell? ⟨go50, (a0_3 : Int).toNat * 4, none⟩ = some (.int .i64 ((rd_T65 t181 a0_3).f0)) := hcc50 0 _ rfl; have hx50_1 : w57.cell? ⟨go50, (a0_3 : Int).toNat * 4 + 1, none⟩ = some (.int .i64 ((rd_T65 t181 a0_3).f1)) := hcc50 1 _ rfl; have hx50_2 : w57.cell? ⟨go50, (a0_3 : Int).toNat * 4 + 2, none⟩ = some (.int .i64 ((rd_T65 t181 a0_3).f2)) := hcc50 2 _ rfl; have hx50_3 : w57.cell? ⟨go50, (a0_3 : Int).toNat * 4 + 3, none⟩ = some (.bool ((rd_T65 t181 a0_3).f3)) := hcc50 3 _ rfl; have hf50_0 : w57.frozen? ⟨go50, (a0_3 : Int).toNat * 4, none⟩ = false := hfr50 0; have hf50_1 : w57.frozen? ⟨go50, (a0_3 : Int).toNat * 4 + 1, none⟩ = false := hfr50 1; have hf50_2 : w57.frozen? ⟨go50, (a0_3 : Int).toNat * 4 + 2, none⟩ = false := hfr50 2; have hf50_3 : w57.frozen? ⟨go50, (a0_3 : Int).toNat * 4 + 3, none⟩ = false := hfr50 3; clear hcl50 hcc50 hfr50 hM50; replace p50 := eq_true p50; replace q50 := eq_true q50; have HX60 := Aside0.mk (show Kd.R k65 65 w57 w.heap.size (fun _ => True) (.slice (some ⟨go50, 0, none⟩) t181.length co11) t181 from (ro_ HO_189000.out)); obtain ⟨ce60, hcl60, hM60, hcc60, hfr60⟩ := Kd.R_elem HX60.out z65 (a0_3 : Int) (of_decide_eq_true (by first | (with_reducible assumption) | assumption)) (by have h_ : (a0_3 : Int) < ((t181.length : Int) : Int) := of_decide_eq_true (by first | (with_reducible assumption) | assumption); first | exact h_ | (have e_ := (Kd.R_reads' HO_189000.out).1; omega) | simpa using h_); obtain rfl := k65_openM hM60; have HP60 := Kd.R_seg HX60.out (a0_3 : Int) (of_decide_eq_true (by first | (with_reducible assumption) | assumption)) (by have h_ : (a0_3 : Int) < ((t181.length : Int) : Int) := of_decide_eq_true (by first | (with_reducible assumption) | assumption); first | exact h_ | (have e_ := (Kd.R_reads' HO_189000.out).1; omega) | simpa using h_) (seg := [.int .i64 a1, .int .i64 a0_2, .int .i64 (-1), .bool true]) (j := 0) hcl60 hcc60 (show 4 ≤ 4 from by decide) (x' := (⟨a1, a0_2, (-1), true⟩ : S65)) (k65_mkM _ _ _ (⟨a1, a0_2, (-1), true⟩ : S65) ) (fun _ hk => hk); have hx60_0 := hcc60 0 _ rfl; (try simp only [show (k65).sz = 4 from rfl, Nat.mul_one, Nat.add_zero] at hx60_0); have hf60_0 := hfr60 0; (try simp only [show (k65).sz = 4 from rfl, Nat.mul_one, Nat.add_zero] at hf60_0); have hx60_1 := hcc60 1 _ rfl; (try simp only [show (k65).sz = 4 from rfl, Nat.mul_one, Nat.add_zero] at hx60_1); have hf60_1 := hfr60 1; (try simp only [show (k65).sz = 4 from rfl, Nat.mul_one, Nat.add_zero] at hf60_1); have hx60_2 := hcc60 2 _ rfl; (try simp only [show (k65).sz = 4 from rfl, Nat.mul_one, Nat.add_zero] at hx60_2); have hf60_2 := hfr60 2; (try simp only [show (k65).sz = 4 from rfl, Nat.mul_one, Nat.add_zero] at hf60_2); have hx60_3 := hcc60 3 _ rfl; (try simp only [show (k65).sz = 4 from rfl, Nat.mul_one, Nat.add_zero] at hx60_3); have hf60_3 := hfr60 3; (try simp only [show (k65).sz = 4 from rfl, Nat.mul_one, Nat.add_zero] at hf60_3); clear hcl60 hcc60 hfr60 hM60) | ((with_reducible refine gate_store (t := 65) (p := 46) rfl ?_); refine store_event (t := 65) (p := 46) (v := ?vo_w61) (w1 := ((((w57.setCell ⟨go50, (a0_3 : Int).toNat * 4, none⟩ (.int .i64 a1)).setCell ⟨go50, (a0_3 : Int).toNat * 4 + 1, none⟩ (.int .i64 a0_2)).setCell ⟨go50, (a0_3 : Int).toNat * 4 + 2, none⟩ (.int .i64 (-1))).setCell ⟨go50, (a0_3 : Int).toNat * 4 + 3, none⟩ (.bool true))) ?hg ?ho ?hn ?hr ?_; (case ho => rfl); (case hg => rfl); (case hn => rfl); (case hr => first | (go_simp; done) | (go_simp; rfl)); intro w61 hw; have hg : w57.grownBy w61 (some go50) := (by rw [hw]; exact HP60.2); have hp_ : Kd.R k65 65 w61 w.heap.size (fun _ => True) (.slice (some ⟨go50, 0, none⟩) t181.length co11) y193 := (by rw [hw, Ny193.out]; exact HP60.1); clear HP60; have n0_ := Aside0.mk (hp_); have n1_ := Aside0.mk (blk_grown (g := gb179) (o := .cells #[.slice (some ad192) l0_0.length c0_0, .int .i64 a0_1, .int .i64 a0_2, .int .i64 a0_3, .int .i64 a0_4] 28 (0, 0)) (bl_ BK179.out) hg (Kd.R_ne HO_189000.out BK179.out (by decide))); have n2_ := Aside0.mk (blk_grown (g := gb180) (o := .cells #[.slice none 0 0, .int .i64 0, .int .i64 0, .int .i64 0, .int .i64 0] 28 (0, 0)) (bl_ BK180.out) hg (Kd.R_ne HO_189000.out BK180.out (by decide))); have n3_ := Aside0.mk (blk_grown (g := gb188) (o := .cells #[.slice (some ⟨go50, 0, none⟩) t181.length co11, .int .i64 t184, .int .i64 t185, .int .i64 ((rd_T65 l0_0 a0_3).f2), .int .i64 t187] 28 (0, 0)) (bl_ BK188.out) hg (Kd.R_ne HO_189000.out BK188.out (by decide))); have n4_ := Aside0.mk ((by rw [hw]; exact below_set (below_set (below_set (below_set (HB.out) GB50.out) GB50.out) GB50.out) GB50.out : Below w.heap.size w w61)); clear HO_189000 BK179 BK180 BK188 HB; have HO_189000 := n0_; have BK179 := n1_; have BK180 := n2_; have BK188 := n3_; have HB := n4_; clear n0_ n1_ n2_ n3_ n4_; clear hg hw hp_; obtain ⟨hcz62_0, hcz62_1, hcz62_2, hcz62_3, hcz62_4, hfz62_0, hfz62_1, hfz62_2, hfz62_3, hfz62_4⟩ := cz5_ BK179.out; obtain ⟨hcz63_0, hcz63_1, hcz63_2, hcz63_3, hcz63_4, hfz63_0, hfz63_1, hfz63_2, hfz63_3, hfz63_4⟩ := cz5_ BK188.out; obtain ⟨hcz64_0, hcz64_1, hcz64_2, hcz64_3, hcz64_4, hfz64_0, hfz64_1, hfz64_2, hfz64_3, hfz64_4⟩ := cz5_ BK180.out))
                refine bodyPost_ret (results_ct rfl _ _ gb180 28 #[.slice (some ⟨go50, 0, none⟩) t181.length co11, .int .i64 a0_3, .int .i64 a0_3, .int .i64 ((rd_T65 l0_0 a0_3).f2), .int .i64 (wrap64 (a0_4 + 1))] (0, 0) _ rfl (by refine bl_ ?_; refine blk_put (cs := #[.slice (some ⟨go50, 0, none⟩) t181.length co11, .int .i64 a0_3, .int .i64 a0_3, .int .i64 ((rd_T65 l0_0 a0_3).f2), .int .i64 0]) ?_ 4 _ rfl; refine bl_ ?_; refine blk_put (cs := #[.slice (some ⟨go50, 0, none⟩) t181.length co11, .int .i64 a0_3, .int .i64 a0_3, .int .i64 0, .int .i64 0]) ?_ 3 _ rfl; refine bl_ ?_; refine blk_put (cs := #[.slice (some ⟨go50, 0, none⟩) t181.length co11, .int .i64 a0_3, .int .i64 0, .int .i64 0, .int .i64 0]) ?_ 2 _ rfl; refine bl_ ?_; refine blk_put (cs := #[.slice (some ⟨go50, 0, none⟩) t181.length co11, .int .i64 0, .int .i64 0, .int .i64 0, .int .i64 0]) ?_ 1 _ rfl; refine bl_ ?_; refine blk_put (cs := #[.slice none 0 0, .int .i64 0, .int .i64 0, .int .i64 0, .int .i64 0]) ?_ 0 _ rfl; refine bl_ ?_; refine blk_far ?_ NB180_188.out _; refine bl_ ?_; refine blk_far ?_ NB180_188.out _; refine bl_ ?_; refine blk_far ?_ NB180_188.out _; refine bl_ ?_; exact BK180.out) Try.underlying28 rfl (by kernel_rfl)) rfl ?_
                exact ⟨_, by first | rfl | (simp [errW_none, errW_some] <;> rfl) | (simp [*, errW_none, errW_some] <;> rfl), by (with_reducible repeat (first | apply Kd.R_alloc | apply Kd.R_drewN | apply Kd.R_drew)); exact Kd.R_mono (Kd.R_far (p := ⟨gb180, 4, none⟩) (Kd.R_far (p := ⟨gb180, 3, none⟩) (Kd.R_far (p := ⟨gb180, 2, none⟩) (Kd.R_far (p := ⟨gb180, 1, none⟩) (Kd.R_far (p := ⟨gb180, 0, none⟩) (Kd.R_far (p := ⟨gb188, 4, none⟩) (Kd.R_far (p := ⟨gb188, 2, none⟩) (Kd.R_far (p := ⟨gb188, 1, none⟩) (Kd.R_types (Kd.R_types HO_189000.out BK188.out (by decide)) BK180.out (by decide)) (fun _ hk => hk.1.2) (.int .i64 a0_3)) (fun _ hk => hk.1.2) (.int .i64 a0_3)) (fun _ hk => hk.1.2) (.int .i64 (wrap64 (a0_4 + 1)))) (fun _ hk => hk.2) (.slice (some ⟨go50, 0, none⟩) t181.length co11)) (fun _ hk => hk.2) (.int .i64 a0_3)) (fun _ hk => hk.2) (.int .i64 a0_3)) (fun _ hk => hk.2) (.int .i64 ((rd_T65 l0_0 a0_3).f2))) (fun _ hk => hk.2) (.int .i64 (wrap64 (a0_4 + 1)))) (fun _ hk => trivial), be_ HB.out⟩
              · rw [if_neg c51] at H
                have c51b0 : (a0_2 == (-1)) = false := beq_eq_false_iff_ne.mpr c51
                have c51b1 : (a0_2 != (-1)) = true := bne_iff_ne.mpr c51
                by_cases c65 : 0 ≤ a0_2
                · rw [if_pos c65] at H
                  have c65b0 : decide (0 ≤ a0_2) = true := decide_eq_true c65
                  clear c65
                  by_cases c66 : a0_2 < (t181.length : Int)
                  · rw [if_pos c66] at H
                    have c66b0 : decide (a0_2 < (t181.length : Int)) = true := decide_eq_true c66
                    clear c66
                    obtain ⟨y194, hy194⟩ : ∃ y_ : List (S65), y_ = (y193.set (a0_2 : Int).toNat (⟨(rd_T65 y193 a0_2).f0, (rd_T65 y193 a0_2).f1, a0_3, (rd_T65 y193 a0_2).f3⟩ : S65)) := ⟨_, rfl⟩
                    replace H : (some (y194, t184, a0_3, (rd_T65 l0_0 a0_3).f2, wrap64 (a0_4 + 1), a0_3)) = some (r1, r2, r3, r4, r5, r6) := by first | (rw [hy194]; with_reducible exact H) | (have H2_ := (Option.bind_some _ _).symm.trans H; rw [hy194]; with_reducible exact H2_) | (have H2_ := (Option.bind_some _ _).symm.trans H; with_reducible exact H2_) | with_reducible exact H | (rw [hy194]; exact H) | exact H
                    have Ny194 := Aside0.mk hy194
                    clear hy194
                    simp only [Option.some.injEq, Prod.mk.injEq] at H
                    obtain ⟨rfl, rfl, rfl, rfl, rfl, rfl⟩ := H
                    have hnb68 := NB179_180.out
                    have hnc68 := NB180_179.out
                    have hnb69 := NB179_188.out
                    have hnc69 := NB188_179.out
                    have hcz70_0 : wc.cell? ⟨gb179, 0, none⟩ = some (.slice A0_0 l0_0.length c0_0) := (blk_cell BK179.out 0).trans rfl
                    have hcz70_1 : wc.cell? ⟨gb179, 1, none⟩ = some (.int .i64 a0_1) := (blk_cell BK179.out 1).trans rfl
                    have hcz70_2 : wc.cell? ⟨gb179, 2, none⟩ = some (.int .i64 a0_2) := (blk_cell BK179.out 2).trans rfl
                    have hcz70_3 : wc.cell? ⟨gb179, 3, none⟩ = some (.int .i64 a0_3) := (blk_cell BK179.out 3).trans rfl
                    have hcz70_4 : wc.cell? ⟨gb179, 4, none⟩ = some (.int .i64 a0_4) := (blk_cell BK179.out 4).trans rfl
                    have hfz70_0 := blk_frozen BK179.out 0
                    have hfz70_1 := blk_frozen BK179.out 1
                    have hfz70_2 := blk_frozen BK179.out 2
                    have hfz70_3 := blk_frozen BK179.out 3
                    have hfz70_4 := blk_frozen BK179.out 4
                    have p192 : 0 ≤ (a0_3 : Int) := of_decide_eq_true (by first | (with_reducible assumption) | assumption)
                    have q192 : a0_3 < (l0_0.length : Int) := of_decide_eq_true (by first | (with_reducible assumption) | assumption)
                    obtain ⟨ad192, e192, hx192_0, hx192_1, hx192_2, hx192_3⟩ := at_T65 HR0_0.out a0_3 p192 q192
                    cases e192
                    replace hx192_0 := (HB.out.cell (World.block_lt_of_cell? w _ hx192_0)).trans hx192_0
                    replace hx192_1 := (HB.out.cell (World.block_lt_of_cell? w _ hx192_1)).trans hx192_1
                    replace hx192_2 := (HB.out.cell (World.block_lt_of_cell? w _ hx192_2)).trans hx192_2
                    replace hx192_3 := (HB.out.cell (World.block_lt_of_cell? w _ hx192_3)).trans hx192_3
                    replace p192 := eq_true p192
                    replace q192 := eq_true q192
                    have hnb71 := NB188_180.out
                    have hnc71 := NB180_188.out
                    have hcz72_0 : wc.cell? ⟨gb188, 0, none⟩ = some (.slice Ao11 t181.length co11) := (blk_cell BK188.out 0).trans rfl
                    have hcz72_1 : wc.cell? ⟨gb188, 1, none⟩ = some (.int .i64 t184) := (blk_cell BK188.out 1).trans rfl
                    have hcz72_2 : wc.cell? ⟨gb188, 2, none⟩ = some (.int .i64 t185) := (blk_cell BK188.out 2).trans rfl
                    have hcz72_3 : wc.cell? ⟨gb188, 3, none⟩ = some (.int .i64 t186) := (blk_cell BK188.out 3).trans rfl
                    have hcz72_4 : wc.cell? ⟨gb188, 4, none⟩ = some (.int .i64 t187) := (blk_cell BK188.out 4).trans rfl
                    have hfz72_0 := blk_frozen BK188.out 0
                    have hfz72_1 := blk_frozen BK188.out 1
                    have hfz72_2 := blk_frozen BK188.out 2
                    have hfz72_3 := blk_frozen BK188.out 3
                    have hfz72_4 := blk_frozen BK188.out 4
                    go_wp2_with (first | ((with_reducible refine gate_store (t := 3) (p := 38) rfl ?_); refine store_event (t := 3) (p := 38) (v := ?vo_w73) (w1 := (wc.setCell ⟨gb188, 3, none⟩ (.int .i64 ((rd_T65 l0_0 a0_3).f2)))) ?hg ?ho ?hn ?hr ?_; (case ho => rfl); (case hg => rfl); (case hn => rfl); (case hr => first | (go_simp; done) | (go_simp; rfl)); intro w73 hw; have n0_ : Aside0 (Kd.R k65 65 w73 w.heap.size (fun _ => True) (.slice Ao11 t181.length co11) t181) := ⟨(by rw [hw]; exact (by (with_reducible repeat (first | apply Kd.R_alloc | apply Kd.R_drewN | apply Kd.R_drew)); exact Kd.R_mono (Kd.R_far (p := ⟨gb188, 3, none⟩) (Kd.R_types HO_189000.out BK188.out (by decide)) (fun _ hk => hk.2) (.int .i64 ((rd_T65 l0_0 a0_3).f2))) (fun _ hk => trivial)))⟩; have n1_ : Aside0 (w73.heap[gb179]? = some (.cells #[.slice (some ad192) l0_0.length c0_0, .int .i64 a0_1, .int .i64 a0_2, .int .i64 a0_3, .int .i64 a0_4] 28 (0, 0))) := ⟨(by rw [hw]; exact (by refine bl_ ?_; refine blk_far ?_ NB179_188.out _; refine bl_ ?_; exact BK179.out))⟩; have n2_ : Aside0 (w73.heap[gb180]? = some (.cells #[.slice none 0 0, .int .i64 0, .int .i64 0, .int .i64 0, .int .i64 0] 28 (0, 0))) := ⟨(by rw [hw]; exact (by refine bl_ ?_; refine blk_far ?_ NB180_188.out _; refine bl_ ?_; exact BK180.out))⟩; have n3_ : Aside0 (w73.heap[gb188]? = some (.cells #[.slice Ao11 t181.length co11, .int .i64 t184, .int .i64 t185, .int .i64 ((rd_T65 l0_0 a0_3).f2), .int .i64 t187] 28 (0, 0))) := ⟨(by rw [hw]; exact (by refine bl_ ?_; refine blk_put (cs := #[.slice Ao11 t181.length co11, .int .i64 t184, .int .i64 t185, .int .i64 t186, .int .i64 t187]) ?_ 3 _ rfl; refine bl_ ?_; exact BK188.out))⟩; have n4_ : Aside0 (Below w.heap.size w w73) := ⟨(by rw [hw]; exact (be_ HB.out))⟩; clear hw HO_189000 BK179 BK180 BK188 HB; have HO_189000 := n0_; have BK179 := n1_; have BK180 := n2_; have BK188 := n3_; have HB := n4_; clear n0_ n1_ n2_ n3_ n4_; obtain ⟨hcz74_0, hcz74_1, hcz74_2, hcz74_3, hcz74_4, hfz74_0, hfz74_1, hfz74_2, hfz74_3, hfz74_4⟩ := cz5_ BK188.out; obtain ⟨hcz75_0, hcz75_1, hcz75_2, hcz75_3, hcz75_4, hfz75_0, hfz75_1, hfz75_2, hfz75_3, hfz75_4⟩ := cz5_ BK179.out; have p50 : 0 ≤ (a0_3 : Int) := of_decide_eq_true (by first | (with_reducible assumption) | assumption); have q50 : (a0_3 : Int) < ((t181.length : Int) : Int) := of_decide_eq_true (by first | (with_reducible assumption) | assumption); obtain ⟨go50, co50, eo50, gb50, gl50, cl50, HG50⟩ := Kd.R_form HO_189000.out (by omega); (first | cases eo50 | (injection eo50 with ea_ en_ ec_; (first | subst ea_ | (injection ea_ with ea_; subst ea_)); subst ec_; clear en_)); have GB50 := Aside0.mk gb50; have GG50 := Aside0.mk HG50; clear gb50 gl50 HG50; obtain ⟨ce50, hcl50, hM50, hcc50, hfr50⟩ := Kd.R_elem HO_189000.out z65 (a0_3 : Int) p50 q50; obtain rfl := k65_openM hM50; have hx50_0 : w73.cell? ⟨go50, (a0_3 : Int).toNat * 4, none⟩ = some (.int .i64 ((rd_T65 t181 a0_3).f0)) := hcc50 0 _ rfl; have hx50_1 : w73.cell? ⟨go50, (a0_3 : Int).toNat * 4 + 1, none⟩ = some (.int .i64 ((rd_T65 t181 a0_3).f1)) := hcc50 1 _ rfl; have hx50_2 : w73.cell? ⟨go50, (a0_3 : Int).toNat * 4 + 2, none⟩ = some (.int .i64 ((rd_T65 t181 a0_3).f2)) := hcc50 2 _ rfl; have hx50_3 : w73.cell? ⟨go50, (a0_3 : Int).toNat * 4 + 3, none⟩ = some (.bool ((rd_T65 t181 a0_3).f3)) := hcc50 3 _ rfl; have hf50_0 : w73.frozen? ⟨go50, (a0_3 : Int).toNat * 4, none⟩ = false := hfr50 0; have hf50_1 : w73.frozen? ⟨go50, (a0_3 : Int).toNat * 4 + 1, none⟩ = false := hfr50 1; have hf50_2 : w73.frozen? ⟨go50, (a0_3 : Int).toNat * 4 + 2, none⟩ = false := hfr50 2; have hf50_3 : w73.frozen? ⟨go50, (a0_3 : Int).toNat * 4 + 3, none⟩ = false := hfr50 3; clear hcl50 hcc50 hfr50 hM50; replace p50 := eq_true p50; replace q50 := eq_true q50; have HX76 := Aside0.mk (show Kd.R k65 65 w73 w.heap.size (fun _ => True) (.slice (some ⟨go50, 0, none⟩) t181.length co11) t181 from (ro_ HO_189000.out)); obtain ⟨ce76, hcl76, hM76, hcc76, hfr76⟩ := Kd.R_elem HX76.out z65 (a0_3 : Int) (of_decide_eq_true (by first | (with_reducible assumption) | assumption)) (by have h_ : (a0_3 : Int) < ((t181.length : Int) : Int) := of_decide_eq_true (by first | (with_reducible assumption) | assumption); first | exact h_ | (have e_ := (Kd.R_reads' HO_189000.out).1; omega) | simpa using h_); obtain rfl := k65_openM hM76; have HP76 := Kd.R_seg HX76.out (a0_3 : Int) (of_decide_eq_true (by first | (with_reducible assumption) | assumption)) (by have h_ : (a0_3 : Int) < ((t181.length : Int) : Int) := of_decide_eq_true (by first | (with_reducible assumption) | assumption); first | exact h_ | (have e_ := (Kd.R_reads' HO_189000.out).1; omega) | simpa using h_) (seg := [.int .i64 a1, .int .i64 a0_2, .int .i64 (-1), .bool true]) (j := 0) hcl76 hcc76 (show 4 ≤ 4 from by decide) (x' := (⟨a1, a0_2, (-1), true⟩ : S65)) (k65_mkM _ _ _ (⟨a1, a0_2, (-1), true⟩ : S65) ) (fun _ hk => hk); have hx76_0 := hcc76 0 _ rfl; (try simp only [show (k65).sz = 4 from rfl, Nat.mul_one, Nat.add_zero] at hx76_0); have hf76_0 := hfr76 0; (try simp only [show (k65).sz = 4 from rfl, Nat.mul_one, Nat.add_zero] at hf76_0); have hx76_1 := hcc76 1 _ rfl; (try simp only [show (k65).sz = 4 from rfl, Nat.mul_one, Nat.add_zero] at hx76_1); have hf76_1 := hfr76 1; (try simp only [show (k65).sz = 4 from rfl, Nat.mul_one, Nat.add_zero] at hf76_1); have hx76_2 := hcc76 2 _ rfl; (try simp only [show (k65).sz = 4 from rfl, Nat.mul_one, Nat.add_zero] at hx76_2); have hf76_2 := hfr76 2; (try simp only [show (k65).sz = 4 from rfl, Nat.mul_one, Nat.add_zero] at hf76_2); have hx76_3 := hcc76 3 _ rfl; (try simp only [show (k65).sz = 4 from rfl, Nat.mul_one, Nat.add_zero] at hx76_3); have hf76_3 := hfr76 3; (try simp only [show (k65).sz = 4 from rfl, Nat.mul_one, Nat.add_zero] at hf76_3); clear hcl76 hcc76 hfr76 hM76) | ((with_reducible refine gate_store (t := 65) (p := 46) rfl ?_); refine store_event (t := 65) (p := 46) (v := ?vo_w77) (w1 := ((((w73.setCell ⟨go50, (a0_3 : Int).toNat * 4, none⟩ (.int .i64 a1)).setCell ⟨go50, (a0_3 : Int).toNat * 4 + 1, none⟩ (.int .i64 a0_2)).setCell ⟨go50, (a0_3 : Int).toNat * 4 + 2, none⟩ (.int .i64 (-1))).setCell ⟨go50, (a0_3 : Int).toNat * 4 + 3, none⟩ (.bool true))) ?hg ?ho ?hn ?hr ?_; (case ho => rfl); (case hg => rfl); (case hn => rfl); (case hr => first | (go_simp; done) | (go_simp; rfl)); intro w77 hw; have hg : w73.grownBy w77 (some go50) := (by rw [hw]; exact HP76.2); have hp_ : Kd.R k65 65 w77 w.heap.size (fun _ => True) (.slice (some ⟨go50, 0, none⟩) t181.length co11) y193 := (by rw [hw, Ny193.out]; exact HP76.1); clear HP76; have n0_ := Aside0.mk (hp_); have n1_ := Aside0.mk (blk_grown (g := gb179) (o := .cells #[.slice (some ad192) l0_0.length c0_0, .int .i64 a0_1, .int .i64 a0_2, .int .i64 a0_3, .int .i64 a0_4] 28 (0, 0)) (bl_ BK179.out) hg (Kd.R_ne HO_189000.out BK179.out (by decide))); have n2_ := Aside0.mk (blk_grown (g := gb180) (o := .cells #[.slice none 0 0, .int .i64 0, .int .i64 0, .int .i64 0, .int .i64 0] 28 (0, 0)) (bl_ BK180.out) hg (Kd.R_ne HO_189000.out BK180.out (by decide))); have n3_ := Aside0.mk (blk_grown (g := gb188) (o := .cells #[.slice (some ⟨go50, 0, none⟩) t181.length co11, .int .i64 t184, .int .i64 t185, .int .i64 ((rd_T65 l0_0 a0_3).f2), .int .i64 t187] 28 (0, 0)) (bl_ BK188.out) hg (Kd.R_ne HO_189000.out BK188.out (by decide))); have n4_ := Aside0.mk ((by rw [hw]; exact below_set (below_set (below_set (below_set (HB.out) GB50.out) GB50.out) GB50.out) GB50.out : Below w.heap.size w w77)); clear HO_189000 BK179 BK180 BK188 HB; have HO_189000 := n0_; have BK179 := n1_; have BK180 := n2_; have BK188 := n3_; have HB := n4_; clear n0_ n1_ n2_ n3_ n4_; clear hg hw hp_; obtain ⟨hcz78_0, hcz78_1, hcz78_2, hcz78_3, hcz78_4, hfz78_0, hfz78_1, hfz78_2, hfz78_3, hfz78_4⟩ := cz5_ BK179.out; obtain ⟨hcz79_0, hcz79_1, hcz79_2, hcz79_3, hcz79_4, hfz79_0, hfz79_1, hfz79_2, hfz79_3, hfz79_4⟩ := cz5_ BK188.out; have p67 : 0 ≤ (a0_2 : Int) := of_decide_eq_true (by first | (with_reducible assumption) | assumption); have q67 : (a0_2 : Int) < ((t181.length : Int) : Int) := of_decide_eq_true (by first | (with_reducible assumption) | assumption); obtain ⟨ce67, hcl67, hM67, hcc67, hfr67⟩ := Kd.R_elem HO_189000.out z65 (a0_2 : Int) p67 q67; obtain rfl := k65_openM hM67; have hx67_0 : w77.cell? ⟨go50, (a0_2 : Int).toNat * 4, none⟩ = some (.int .i64 ((rd_T65 y193 a0_2).f0)) := hcc67 0 _ rfl; have hx67_1 : w77.cell? ⟨go50, (a0_2 : Int).toNat * 4 + 1, none⟩ = some (.int .i64 ((rd_T65 y193 a0_2).f1)) := hcc67 1 _ rfl; have hx67_2 : w77.cell? ⟨go50, (a0_2 : Int).toNat * 4 + 2, none⟩ = some (.int .i64 ((rd_T65 y193 a0_2).f2)) := hcc67 2 _ rfl; have hx67_3 : w77.cell? ⟨go50, (a0_2 : Int).toNat * 4 + 3, none⟩ = some (.bool ((rd_T65 y193 a0_2).f3)) := hcc67 3 _ rfl; have hf67_0 : w77.frozen? ⟨go50, (a0_2 : Int).toNat * 4, none⟩ = false := hfr67 0; have hf67_1 : w77.frozen? ⟨go50, (a0_2 : Int).toNat * 4 + 1, none⟩ = false := hfr67 1; have hf67_2 : w77.frozen? ⟨go50, (a0_2 : Int).toNat * 4 + 2, none⟩ = false := hfr67 2; have hf67_3 : w77.frozen? ⟨go50, (a0_2 : Int).toNat * 4 + 3, none⟩ = false := hfr67 3; clear hcl67 hcc67 hfr67 hM67; replace p67 := eq_true p67; replace q67 := eq_true q67; have HX80 := Aside0.mk (show Kd.R k65 65 w77 w.heap.size (fun _ => True) (.slice (some ⟨go50, 0, none⟩) t181.length co11) y193 from (ro_ HO_189000.out)); obtain ⟨ce80, hcl80, hM80, hcc80, hfr80⟩ := Kd.R_elem HX80.out z65 (a0_2 : Int) (of_decide_eq_true (by first | (with_reducible assumption) | assumption)) (by have h_ : (a0_2 : Int) < ((t181.length : Int) : Int) := of_decide_eq_true (by first | (with_reducible assumption) | assumption); first | exact h_ | (have e_ := (Kd.R_reads' HO_189000.out).1; omega) | simpa using h_); obtain rfl := k65_openM hM80; have HP80 := Kd.R_seg HX80.out (a0_2 : Int) (of_decide_eq_true (by first | (with_reducible assumption) | assumption)) (by have h_ : (a0_2 : Int) < ((t181.length : Int) : Int) := of_decide_eq_true (by first | (with_reducible assumption) | assumption); first | exact h_ | (have e_ := (Kd.R_reads' HO_189000.out).1; omega) | simpa using h_) (seg := [.int .i64 a0_3]) (j := 2) hcl80 hcc80 (show 3 ≤ 4 from by decide) (x' := (⟨(rd_T65 y193 a0_2).f0, (rd_T65 y193 a0_2).f1, a0_3, (rd_T65 y193 a0_2).f3⟩ : S65)) (k65_mkM _ _ _ (⟨(rd_T65 y193 a0_2).f0, (rd_T65 y193 a0_2).f1, a0_3, (rd_T65 y193 a0_2).f3⟩ : S65) ) (fun _ hk => hk); have hx80_2 := hcc80 2 _ rfl; (try simp only [show (k65).sz = 4 from rfl, Nat.mul_one, Nat.add_zero] at hx80_2); have hf80_2 := hfr80 2; (try simp only [show (k65).sz = 4 from rfl, Nat.mul_one, Nat.add_zero] at hf80_2); clear hcl80 hcc80 hfr80 hM80) | ((with_reducible refine gate_store (t := 3) (p := 58) rfl ?_); refine store_event (t := 3) (p := 58) (v := ?vo_w81) (w1 := (w77.setCell ⟨go50, (a0_2 : Int).toNat * 4 + 2, none⟩ (.int .i64 a0_3))) ?hg ?ho ?hn ?hr ?_; (case ho => rfl); (case hg => rfl); (case hn => rfl); (case hr => first | (go_simp; done) | (go_simp; rfl)); intro w81 hw; have hg : w77.grownBy w81 (some go50) := (by rw [hw]; exact HP80.2); have hp_ : Kd.R k65 65 w81 w.heap.size (fun _ => True) (.slice (some ⟨go50, 0, none⟩) t181.length co11) y194 := (by rw [hw, Ny194.out]; exact HP80.1); clear HP80; have n0_ := Aside0.mk (hp_); have n1_ := Aside0.mk (blk_grown (g := gb179) (o := .cells #[.slice (some ad192) l0_0.length c0_0, .int .i64 a0_1, .int .i64 a0_2, .int .i64 a0_3, .int .i64 a0_4] 28 (0, 0)) (bl_ BK179.out) hg (Kd.R_ne HO_189000.out BK179.out (by decide))); have n2_ := Aside0.mk (blk_grown (g := gb180) (o := .cells #[.slice none 0 0, .int .i64 0, .int .i64 0, .int .i64 0, .int .i64 0] 28 (0, 0)) (bl_ BK180.out) hg (Kd.R_ne HO_189000.out BK180.out (by decide))); have n3_ := Aside0.mk (blk_grown (g := gb188) (o := .cells #[.slice (some ⟨go50, 0, none⟩) t181.length co11, .int .i64 t184, .int .i64 t185, .int .i64 ((rd_T65 l0_0 a0_3).f2), .int .i64 t187] 28 (0, 0)) (bl_ BK188.out) hg (Kd.R_ne HO_189000.out BK188.out (by decide))); have n4_ := Aside0.mk ((by rw [hw]; exact below_set (HB.out) GB50.out : Below w.heap.size w w81)); clear HO_189000 BK179 BK180 BK188 HB; have HO_189000 := n0_; have BK179 := n1_; have BK180 := n2_; have BK188 := n3_; have HB := n4_; clear n0_ n1_ n2_ n3_ n4_; clear hg hw hp_; obtain ⟨hcz82_0, hcz82_1, hcz82_2, hcz82_3, hcz82_4, hfz82_0, hfz82_1, hfz82_2, hfz82_3, hfz82_4⟩ := cz5_ BK188.out; obtain ⟨hcz83_0, hcz83_1, hcz83_2, hcz83_3, hcz83_4, hfz83_0, hfz83_1, hfz83_2, hfz83_3, hfz83_4⟩ := cz5_ BK179.out; obtain ⟨hcz84_0, hcz84_1, hcz84_2, hcz84_3, hcz84_4, hfz84_0, hfz84_1, hfz84_2, hfz84_3, hfz84_4⟩ := cz5_ BK180.out))
                    refine bodyPost_ret (results_ct rfl _ _ gb180 28 #[.slice (some ⟨go50, 0, none⟩) t181.length co11, .int .i64 t184, .int .i64 a0_3, .int .i64 ((rd_T65 l0_0 a0_3).f2), .int .i64 (wrap64 (a0_4 + 1))] (0, 0) _ rfl (by refine bl_ ?_; refine blk_put (cs := #[.slice (some ⟨go50, 0, none⟩) t181.length co11, .int .i64 t184, .int .i64 a0_3, .int .i64 ((rd_T65 l0_0 a0_3).f2), .int .i64 0]) ?_ 4 _ rfl; refine bl_ ?_; refine blk_put (cs := #[.slice (some ⟨go50, 0, none⟩) t181.length co11, .int .i64 t184, .int .i64 a0_3, .int .i64 0, .int .i64 0]) ?_ 3 _ rfl; refine bl_ ?_; refine blk_put (cs := #[.slice (some ⟨go50, 0, none⟩) t181.length co11, .int .i64 t184, .int .i64 0, .int .i64 0, .int .i64 0]) ?_ 2 _ rfl; refine bl_ ?_; refine blk_put (cs := #[.slice (some ⟨go50, 0, none⟩) t181.length co11, .int .i64 0, .int .i64 0, .int .i64 0, .int .i64 0]) ?_ 1 _ rfl; refine bl_ ?_; refine blk_put (cs := #[.slice none 0 0, .int .i64 0, .int .i64 0, .int .i64 0, .int .i64 0]) ?_ 0 _ rfl; refine bl_ ?_; refine blk_far ?_ NB180_188.out _; refine bl_ ?_; refine blk_far ?_ NB180_188.out _; refine bl_ ?_; exact BK180.out) Try.underlying28 rfl (by kernel_rfl)) rfl ?_
                    exact ⟨_, by first | rfl | (simp [errW_none, errW_some] <;> rfl) | (simp [*, errW_none, errW_some] <;> rfl), by (with_reducible repeat (first | apply Kd.R_alloc | apply Kd.R_drewN | apply Kd.R_drew)); exact Kd.R_mono (Kd.R_far (p := ⟨gb180, 4, none⟩) (Kd.R_far (p := ⟨gb180, 3, none⟩) (Kd.R_far (p := ⟨gb180, 2, none⟩) (Kd.R_far (p := ⟨gb180, 1, none⟩) (Kd.R_far (p := ⟨gb180, 0, none⟩) (Kd.R_far (p := ⟨gb188, 4, none⟩) (Kd.R_far (p := ⟨gb188, 2, none⟩) (Kd.R_types (Kd.R_types HO_189000.out BK188.out (by decide)) BK180.out (by decide)) (fun _ hk => hk.1.2) (.int .i64 a0_3)) (fun _ hk => hk.1.2) (.int .i64 (wrap64 (a0_4 + 1)))) (fun _ hk => hk.2) (.slice (some ⟨go50, 0, none⟩) t181.length co11)) (fun _ hk => hk.2) (.int .i64 t184)) (fun _ hk => hk.2) (.int .i64 a0_3)) (fun _ hk => hk.2) (.int .i64 ((rd_T65 l0_0 a0_3).f2))) (fun _ hk => hk.2) (.int .i64 (wrap64 (a0_4 + 1)))) (fun _ hk => trivial), be_ HB.out⟩
                  · rw [if_neg c66] at H
                    exact absurd H (by simp)
                · rw [if_neg c65] at H
                  exact absurd H (by simp)
            · rw [if_neg c49] at H
              exact absurd H (by simp)
          · rw [if_neg c48] at H
            exact absurd H (by simp)
        · rw [if_neg c47] at H
          exact absurd H (by simp)

/-! ### impl_in: function 65 -/
def impl_in.f (a0 : Int) (a1 : Int) (a2 : Int) : Option (Bool) := if a0 ≥ a1 then (some (decide (a0 ≤ a2))) else (some false)
set_option maxHeartbeats 40000000 in
set_option maxRecDepth 100000 in
theorem impl_in.calls (a0 : Int) (a1 : Int) (a2 : Int) (r : Bool) (w : World) (h : impl_in.f a0 a1 a2 = some r) :
    Calls Try.prog 65 #[.int .i64 a0, .int .i64 a1, .int .i64 a2] w fun e w' => e = .returned (.bool r) ∧ Drawn0 w w' := by
  have H : (if a0 ≥ a1 then (some (decide (a0 ≤ a2))) else (some false)) = some r := h
  clear h
  by_cases c4 : a0 ≥ a1
  · rw [if_pos c4] at H
    have c4b0 : decide (a1 ≤ a0) = true := decide_eq_true c4
    clear c4
    obtain rfl := Option.some.inj H
    go_enter Try.func65, Try.ntmps65
    go_wp2
    go_ret
    exact ⟨by first | rfl | (simp; done) | (simp [*]; done), by repeat (first | exact Drawn0.refl _ | apply Drawn0.step)⟩
  · rw [if_neg c4] at H
    have c4b0 : decide (a1 ≤ a0) = false := decide_eq_false c4
    clear c4
    obtain rfl := Option.some.inj H
    go_enter Try.func65, Try.ntmps65
    go_wp2
    go_ret
    exact ⟨by first | rfl | (simp; done) | (simp [*]; done), by repeat (first | exact Drawn0.refl _ | apply Drawn0.step)⟩

/-! ### impl_isId: function 55 -/
def impl_isId.f (a0 : Int) : Option (Bool) := (impl_in.f a0 1 1000000000).bind fun t195 => (some t195)
set_option maxHeartbeats 40000000 in
set_option maxRecDepth 100000 in
theorem impl_isId.calls (a0 : Int) (r : Bool) (w : World) (h : impl_isId.f a0 = some r) :
    Calls Try.prog 55 #[.int .i64 a0] w fun e w' => e = .returned (.bool r) ∧ Drawn0 w w' := by
  have H : ((impl_in.f a0 1 1000000000).bind fun t195 => (some t195)) = some r := h
  clear h
  replace H := Option.bind_eq_some_iff.mp H
  obtain ⟨t195, A20, H⟩ := H
  replace H : (some t195) = some r := H
  have A2 := Aside0.mk A20
  clear A20
  obtain rfl := Option.some.inj H
  go_enter Try.func55, Try.ntmps55
  go_wp2_with (first | ((with_reducible refine gate_callee (f := 65) rfl ?_); refine goesL_ (some 4) rfl rfl Try.func65 (by kernel_rfl) rfl #[.int .i64 a0, .int .i64 1, .int .i64 1000000000] rfl (by (try simp only [List.map_toArray, List.map_cons, List.map_nil]); first | done | rfl | (simp only [List.length_drop, List.length_take]; rfl)) ?_; (with_reducible refine (impl_in.calls a0 1 1000000000 t195 _ A2.out).mono ?_); rintro e w' ⟨rfl, ⟨nd, rfl⟩⟩; refine ⟨_, rfl, ?_⟩))
  go_ret
  exact ⟨by first | rfl | (simp; done) | (simp [*]; done), by repeat (first | exact Drawn0.refl _ | apply Drawn0.step)⟩

/-! ### impl_Queue_walk: function 57 -/
def impl_Queue_walk.l0 : Nat → List Int → Int → List (S65) → Int → Int → Int → Int → Option (List Int × Bool)
  | 0, _, _, _, _, _, _, _ => none
  | k + 1, x6, x7, x197000, x197001, x197002, x197003, x197004 => if x7 = (-1) then (some (x6, true)) else (if x7 < 0 then (some (([] : List Int), false)) else (if x7 ≥ (x197000.length : Int) then (some (([] : List Int), false)) else (if (x6.length : Int) = (x197000.length : Int) then (some (([] : List Int), false)) else (if x6.length < 17592186044416 then (if 0 ≤ x7 then (if x7 < (x197000.length : Int) then (impl_Queue_walk.l0 k (x6 ++ [x7]) ((rd_T65 x197000 x7).f2) x197000 x197001 x197002 x197003 x197004) else (none)) else (none)) else (none)))))
def impl_Queue_walk.f (k : Nat) (l0_0 : List (S65)) (a0_1 : Int) (a0_2 : Int) (a0_3 : Int) (a0_4 : Int) (a1 : Int) : Option (List Int × Bool) := impl_Queue_walk.l0 k ([] : List Int) a1 l0_0 a0_1 a0_2 a0_3 a0_4
theorem impl_Queue_walk.mono_l : ∀ k, (∀ y0 y1 y2 y3 y4 y5 y6, LeO (impl_Queue_walk.l0 k y0 y1 y2 y3 y4 y5 y6) (impl_Queue_walk.l0 (k + 1) y0 y1 y2 y3 y4 y5 y6))
  | 0 => fun _ _ _ _ _ _ _ r h => by simp [impl_Queue_walk.l0] at h
  | k + 1 => by
    have ih0 := impl_Queue_walk.mono_l k
    · intro y0 y1 y2 y3 y4 y5 y6
      unfold impl_Queue_walk.l0
      repeat' first
      | (with_reducible exact ih0 _ _ _ _ _ _ _)
      | (with_reducible exact LeO.refl _)
      | (with_reducible exact LeO.none _)
      | (with_reducible refine LeO.ite ?_ ?_)
      | (with_reducible refine LeO.bind ?_ (fun _ => ?_))
      | exact ih0 _ _ _ _ _ _ _
      | exact LeO.none _
      | refine LeO.ite ?_ ?_
      | refine LeO.bind ?_ (fun _ => ?_)
theorem impl_Queue_walk.mono : ∀ a0 a1 a2 a3 a4 a5 k, LeO (impl_Queue_walk.f k a0 a1 a2 a3 a4 a5) (impl_Queue_walk.f (k + 1) a0 a1 a2 a3 a4 a5) := by
  intro a0 a1 a2 a3 a4 a5 k
  have ih0 := impl_Queue_walk.mono_l k
  unfold impl_Queue_walk.f
  repeat' first
      | (with_reducible exact ih0 _ _ _ _ _ _ _)
      | (with_reducible exact LeO.refl _)
      | (with_reducible exact LeO.none _)
      | (with_reducible refine LeO.ite ?_ ?_)
      | (with_reducible refine LeO.bind ?_ (fun _ => ?_))
      | exact ih0 _ _ _ _ _ _ _
      | exact LeO.none _
      | refine LeO.ite ?_ ?_
      | refine LeO.bind ?_ (fun _ => ?_)
set_option maxHeartbeats 40000000 in
set_option maxRecDepth 100000 in
theorem impl_Queue_walk.calls (k : Nat) (A0_0 : Option Addr) (c0_0 : Nat) (l0_0 : List (S65)) (a0_1 : Int) (a0_2 : Int) (a0_3 : Int) (a0_4 : Int) (a1 : Int) (r1 : List Int) (r2 : Bool) (w : World) (hr0_0 : Kd.C k65 w A0_0 l0_0.length l0_0) (hc0_0 : l0_0.length ≤ c0_0) (h : impl_Queue_walk.f k l0_0 a0_1 a0_2 a0_3 a0_4 a1 = some (r1, r2)) :
    Calls Try.prog 57 #[.agg #[.slice A0_0 l0_0.length c0_0, .int .i64 a0_1, .int .i64 a0_2, .int .i64 a0_3, .int .i64 a0_4], .int .i64 a1] w fun e w' => ∃ v0_ : Value, e = .returned (.tuple #[v0_, .bool r2]) ∧ Kd.R (Kd.int .i64) 3 w' w.heap.size (fun _ => True) v0_ r1 ∧ Below w.heap.size w w' := by
  have hu28 := Try.underlying28
  have HR0_0 := Aside0.mk hr0_0
  have HC0_0 := Aside0.mk hc0_0
  clear hr0_0 hc0_0
  have HB := Aside0.mk (Below.refl w.heap.size w)
  have H : (impl_Queue_walk.l0 k ([] : List Int) a1 l0_0 a0_1 a0_2 a0_3 a0_4) = some (r1, r2) := h
  clear h
  have H' := Aside0.mk H
  clear H
  go_enter Try.func57, Try.ntmps57
  go_wp2_with (first | ((with_reducible refine gate_dst (N := 2) rfl ?_); (try (refine gate_guard (by rfl) ?_; dsimp only)); refine box_event ?hg (N := 2) ?hd (cs := #[.slice A0_0 l0_0.length c0_0, .int .i64 a0_1, .int .i64 a0_2, .int .i64 a0_3, .int .i64 a0_4]) (t := 28) ?hr ?_; (case hd => rfl); (case hg => rfl); (case hr => first | (go_simp; done) | (go_simp; rfl)); intro gb196 hg w3 hbox hb; have n0_ := Aside0.mk (below_step (be_ HB.out) hb); have n1_ := Aside0.mk (hbox); have n2_ := Aside0.mk ((by rw [hg]; exact (below_size (be_ HB.out)) : w.heap.size ≤ gb196)); have n3_ := Aside0.mk ((by rw [hg]; exact (below_size (be_ HB.out)) : w.heap.size ≤ gb196)); clear HB; have HB := n0_; have BK196 := n1_; have GW196 := n2_; have GE196 := n3_; clear n0_ n1_ n2_ n3_; clear hb hbox hg))
  go_loopg [6, 7] k (fun kq v6 zv7 w' => ∃ (x6_1 : List Int) (x7_1 : Int), zv7 = .int .i64 x7_1 ∧ Aside0 (impl_Queue_walk.l0 kq x6_1 x7_1 l0_0 a0_1 a0_2 a0_3 a0_4 = some (r1, r2)) ∧ Aside0 (kq ≤ k) ∧ Aside0 (Kd.R (Kd.int .i64) 3 w' w.heap.size (fun _ => True) v6 x6_1) ∧ Aside0 (w'.heap[gb196]? = some (.cells #[(.slice A0_0 l0_0.length c0_0), .int .i64 a0_1, .int .i64 a0_2, .int .i64 a0_3, .int .i64 a0_4] 28 (0, 0))) ∧ Aside0 (Below w.heap.size w w'))
  case atStart => exact ⟨(([] : List Int)), (a1), (by first | rfl | (simp; done) | (simp [*]; done)), H', ⟨Nat.le_refl _⟩, ⟨by first | exact Kd.R_nil _ _ _ _ _ | exact Kd.N_nil _ _ _ _ _ | exact Kd.V_nil _ _ _ _ _ | exact Kd.Q_nil _ _ _ _ _ | exact Kd.S_nil _ _ _ _ _⟩, ⟨by refine bl_ ?_; exact BK196.out⟩, ⟨be_ HB.out⟩⟩
  case round =>
    clear H'
    try clear p2
    obtain ⟨x6_1, x7_1, rfl, HA, HK1, HO_6, BK196, HB⟩ := hrel
    cases gk with
    | zero => exact absurd HA.out (by simp [impl_Queue_walk.l0])
    | succ k1 =>
      have H := HA.out
      clear HA
      simp only [impl_Queue_walk.l0] at H
      by_cases c4 : x7_1 = (-1)
      · rw [if_pos c4] at H
        have c4b0 : (x7_1 == (-1)) = true := beq_iff_eq.mpr c4
        have c4b1 : (x7_1 != (-1)) = false := bne_eq_false_iff_eq.mpr c4
        clear c4
        simp only [Option.some.injEq, Prod.mk.injEq] at H
        obtain ⟨rfl, rfl⟩ := H
        go_wp2
        go_ret2
        exact ⟨_, by first | rfl | (simp [errW_none, errW_some] <;> rfl) | (simp [*, errW_none, errW_some] <;> rfl), by (with_reducible repeat (first | apply Kd.R_alloc | apply Kd.R_drewN | apply Kd.R_drew)); exact HO_6.out, be_ HB.out⟩
      · rw [if_neg c4] at H
        have c4b0 : (x7_1 == (-1)) = false := beq_eq_false_iff_ne.mpr c4
        have c4b1 : (x7_1 != (-1)) = true := bne_iff_ne.mpr c4
        by_cases c5 : x7_1 < 0
        · rw [if_pos c5] at H
          have c5b0 : decide (x7_1 < 0) = true := decide_eq_true c5
          clear c5
          simp only [Option.some.injEq, Prod.mk.injEq] at H
          obtain ⟨rfl, rfl⟩ := H
          go_wp2
          go_ret2
          exact ⟨_, by first | rfl | (simp [errW_none, errW_some] <;> rfl) | (simp [*, errW_none, errW_some] <;> rfl), by first | exact Kd.R_nil _ _ _ _ _ | exact Kd.N_nil _ _ _ _ _ | exact Kd.V_nil _ _ _ _ _ | exact Kd.Q_nil _ _ _ _ _ | exact Kd.S_nil _ _ _ _ _, be_ HB.out⟩
        · rw [if_neg c5] at H
          have c5b0 : decide (x7_1 < 0) = false := decide_eq_false c5
          clear c5
          by_cases c6 : x7_1 ≥ (l0_0.length : Int)
          · rw [if_pos c6] at H
            have c6b0 : decide ((l0_0.length : Int) ≤ x7_1) = true := decide_eq_true c6
            clear c6
            simp only [Option.some.injEq, Prod.mk.injEq] at H
            obtain ⟨rfl, rfl⟩ := H
            have hcz7_0 : wr.cell? ⟨gb196, 0, none⟩ = some (.slice A0_0 l0_0.length c0_0) := (blk_cell BK196.out 0).trans rfl
            have hcz7_1 : wr.cell? ⟨gb196, 1, none⟩ = some (.int .i64 a0_1) := (blk_cell BK196.out 1).trans rfl
            have hcz7_2 : wr.cell? ⟨gb196, 2, none⟩ = some (.int .i64 a0_2) := (blk_cell BK196.out 2).trans rfl
            have hcz7_3 : wr.cell? ⟨gb196, 3, none⟩ = some (.int .i64 a0_3) := (blk_cell BK196.out 3).trans rfl
            have hcz7_4 : wr.cell? ⟨gb196, 4, none⟩ = some (.int .i64 a0_4) := (blk_cell BK196.out 4).trans rfl
            have hfz7_0 := blk_frozen BK196.out 0
            have hfz7_1 := blk_frozen BK196.out 1
            have hfz7_2 := blk_frozen BK196.out 2
            have hfz7_3 := blk_frozen BK196.out 3
            have hfz7_4 := blk_frozen BK196.out 4
            go_wp2
            go_ret2
            exact ⟨_, by first | rfl | (simp [errW_none, errW_some] <;> rfl) | (simp [*, errW_none, errW_some] <;> rfl), by first | exact Kd.R_nil _ _ _ _ _ | exact Kd.N_nil _ _ _ _ _ | exact Kd.V_nil _ _ _ _ _ | exact Kd.Q_nil _ _ _ _ _ | exact Kd.S_nil _ _ _ _ _, be_ HB.out⟩
          · rw [if_neg c6] at H
            have c6b0 : decide ((l0_0.length : Int) ≤ x7_1) = false := decide_eq_false c6
            clear c6
            by_cases c8 : (x6_1.length : Int) = (l0_0.length : Int)
            · rw [if_pos c8] at H
              have c8b0 : ((x6_1.length : Int) == (l0_0.length : Int)) = true := beq_iff_eq.mpr c8
              have c8b1 : ((x6_1.length : Int) != (l0_0.length : Int)) = false := bne_eq_false_iff_eq.mpr c8
              have c8b2 : (x6_1.length == l0_0.length) = true := by first | simpa using c8 | (simp at c8 ⊢; omega)
              clear c8
              simp only [Option.some.injEq, Prod.mk.injEq] at H
              obtain ⟨rfl, rfl⟩ := H
              have hcz9_0 : wr.cell? ⟨gb196, 0, none⟩ = some (.slice A0_0 l0_0.length c0_0) := (blk_cell BK196.out 0).trans rfl
              have hcz9_1 : wr.cell? ⟨gb196, 1, none⟩ = some (.int .i64 a0_1) := (blk_cell BK196.out 1).trans rfl
              have hcz9_2 : wr.cell? ⟨gb196, 2, none⟩ = some (.int .i64 a0_2) := (blk_cell BK196.out 2).trans rfl
              have hcz9_3 : wr.cell? ⟨gb196, 3, none⟩ = some (.int .i64 a0_3) := (blk_cell BK196.out 3).trans rfl
              have hcz9_4 : wr.cell? ⟨gb196, 4, none⟩ = some (.int .i64 a0_4) := (blk_cell BK196.out 4).trans rfl
              have hfz9_0 := blk_frozen BK196.out 0
              have hfz9_1 := blk_frozen BK196.out 1
              have hfz9_2 := blk_frozen BK196.out 2
              have hfz9_3 := blk_frozen BK196.out 3
              have hfz9_4 := blk_frozen BK196.out 4
              obtain ⟨Ao10, co10, eo10⟩ := Kd.R_slice HO_6.out
              subst eo10
              go_wp2
              go_ret2
              exact ⟨_, by first | rfl | (simp [errW_none, errW_some] <;> rfl) | (simp [*, errW_none, errW_some] <;> rfl), by first | exact Kd.R_nil _ _ _ _ _ | exact Kd.N_nil _ _ _ _ _ | exact Kd.V_nil _ _ _ _ _ | exact Kd.Q_nil _ _ _ _ _ | exact Kd.S_nil _ _ _ _ _, be_ HB.out⟩
            · rw [if_neg c8] at H
              have c8b0 : ((x6_1.length : Int) == (l0_0.length : Int)) = false := beq_eq_false_iff_ne.mpr c8
              have c8b1 : ((x6_1.length : Int) != (l0_0.length : Int)) = true := bne_iff_ne.mpr c8
              have c8b2 : (x6_1.length == l0_0.length) = false := by first | simpa using c8 | (simp at c8 ⊢; omega)
              by_cases c11 : x6_1.length < 17592186044416
              · rw [if_pos c11] at H
                have LMc11 := Aside0.mk c11
                clear c11
                obtain ⟨y197, hy197⟩ : ∃ y_ : List Int, y_ = (x6_1 ++ [x7_1]) := ⟨_, rfl⟩
                replace H : (if 0 ≤ x7_1 then (if x7_1 < (l0_0.length : Int) then (impl_Queue_walk.l0 k1 y197 ((rd_T65 l0_0 x7_1).f2) l0_0 a0_1 a0_2 a0_3 a0_4) else (none)) else (none)) = some (r1, r2) := by first | (rw [hy197]; with_reducible exact H) | (have H2_ := (Option.bind_some _ _).symm.trans H; rw [hy197]; with_reducible exact H2_) | (have H2_ := (Option.bind_some _ _).symm.trans H; with_reducible exact H2_) | with_reducible exact H | (rw [hy197]; exact H) | exact H
                have Ny197 := Aside0.mk hy197
                clear hy197
                by_cases c12 : 0 ≤ x7_1
                · rw [if_pos c12] at H
                  have c12b0 : decide (0 ≤ x7_1) = true := decide_eq_true c12
                  clear c12
                  by_cases c13 : x7_1 < (l0_0.length : Int)
                  · rw [if_pos c13] at H
                    have c13b0 : decide (x7_1 < (l0_0.length : Int)) = true := decide_eq_true c13
                    clear c13
                    have H' := Aside0.mk H
                    clear H
                    have hcz14_0 : wr.cell? ⟨gb196, 0, none⟩ = some (.slice A0_0 l0_0.length c0_0) := (blk_cell BK196.out 0).trans rfl
                    have hcz14_1 : wr.cell? ⟨gb196, 1, none⟩ = some (.int .i64 a0_1) := (blk_cell BK196.out 1).trans rfl
                    have hcz14_2 : wr.cell? ⟨gb196, 2, none⟩ = some (.int .i64 a0_2) := (blk_cell BK196.out 2).trans rfl
                    have hcz14_3 : wr.cell? ⟨gb196, 3, none⟩ = some (.int .i64 a0_3) := (blk_cell BK196.out 3).trans rfl
                    have hcz14_4 : wr.cell? ⟨gb196, 4, none⟩ = some (.int .i64 a0_4) := (blk_cell BK196.out 4).trans rfl
                    have hfz14_0 := blk_frozen BK196.out 0
                    have hfz14_1 := blk_frozen BK196.out 1
                    have hfz14_2 := blk_frozen BK196.out 2
                    have hfz14_3 := blk_frozen BK196.out 3
                    have hfz14_4 := blk_frozen BK196.out 4
                    obtain ⟨Ao15, co15, eo15⟩ := Kd.R_slice HO_6.out
                    subst eo15
                    go_wp2_with (first | ((with_reducible refine gate_builtin (b := .append) (xs := #[.tmp 34, .tmp 36]) rfl ?_); (try (refine gate_guard (by rfl) ?_; dsimp only)); at_builtin; refine Kd.R_append (Kd.int .i64) (w0 := w) w.heap.size rfl (.tmp 34) (.tmp 36) 50 3 (.int .i64 0) 8 rfl Try.underlying50 info3 rfl (by decide) (by omega) (.slice Ao15 x6_1.length co15) x6_1 x7_1 [.int .i64 x7_1] (fun _ => True) (fun _ => False) rfl rfl ?aP (fun _ hk => hk.elim) ?aF ?aO ?aB ?aS ?aL ?_; (case aP => exact rfl); (case aB => exact (be_ HB.out)); (case aF => exact (fun _ _ => trivial)); (case aO => exact (ro_ HO_6.out)); (case aS => exact (below_size (be_ HB.out))); (case aL => have := LMc11.out; omega); intro v198 w16 ho hb hg hat; rw [← Ny197.out] at ho; have n0_ := Aside0.mk (blk_grown (g := gb196) (o := .cells #[.slice A0_0 l0_0.length c0_0, .int .i64 a0_1, .int .i64 a0_2, .int .i64 a0_3, .int .i64 a0_4] 28 (0, 0)) (bl_ BK196.out) hg (Kd.R_ne HO_6.out BK196.out (by decide))); have n1_ := Aside0.mk (hb); have n2_ := Aside0.mk (ho); clear BK196 HB HO_6; have BK196 := n0_; have HB := n1_; have HO199 := n2_; clear n0_ n1_ n2_; clear ho hb hg hat; obtain ⟨hcz17_0, hcz17_1, hcz17_2, hcz17_3, hcz17_4, hfz17_0, hfz17_1, hfz17_2, hfz17_3, hfz17_4⟩ := cz5_ BK196.out; have p200 : 0 ≤ (x7_1 : Int) := of_decide_eq_true (by first | (with_reducible assumption) | assumption); have q200 : x7_1 < (l0_0.length : Int) := of_decide_eq_true (by first | (with_reducible assumption) | assumption); obtain ⟨ad200, e200, hx200_0, hx200_1, hx200_2, hx200_3⟩ := at_T65 HR0_0.out x7_1 p200 q200; cases e200; replace hx200_0 := (HB.out.cell (World.block_lt_of_cell? w _ hx200_0)).trans hx200_0; replace hx200_1 := (HB.out.cell (World.block_lt_of_cell? w _ hx200_1)).trans hx200_1; replace hx200_2 := (HB.out.cell (World.block_lt_of_cell? w _ hx200_2)).trans hx200_2; replace hx200_3 := (HB.out.cell (World.block_lt_of_cell? w _ hx200_3)).trans hx200_3; replace p200 := eq_true p200; replace q200 := eq_true q200))
                    go_roundg k1
                    case measure => have := HK1.out; omega
                    case rel => exact ⟨(y197), ((rd_T65 l0_0 x7_1).f2), (by first | rfl | (simp; done) | (simp [*]; done)), H', ⟨by have := HK1.out; omega⟩, ⟨by (with_reducible repeat (first | apply Kd.R_alloc | apply Kd.R_drewN | apply Kd.R_drew)); exact HO199.out⟩, ⟨by refine bl_ ?_; exact BK196.out⟩, ⟨be_ HB.out⟩⟩
                  · rw [if_neg c13] at H
                    exact absurd H (by simp)
                · rw [if_neg c12] at H
                  exact absurd H (by simp)
              · rw [if_neg c11] at H
                exact absurd H (by simp)

/-! ### slices_Index_int_int: function 64 -/
def slices_Index_int_int.l0 : Nat → List Int → Int → Int → Int → Option (Int)
  | 0, _, _, _, _ => none
  | k + 1, x0, x1, x7, x8 => if x8 < x7 then (if 0 ≤ x8 then (if x8 < (x0.length : Int) then (if x1 = (rd x0 x8) then (some x8) else (slices_Index_int_int.l0 k x0 x1 x7 (wrap64 (x8 + 1)))) else (none)) else (none)) else (some (-1))
def slices_Index_int_int.f (k : Nat) (l0 : List Int) (a1 : Int) : Option (Int) := slices_Index_int_int.l0 k l0 a1 (l0.length : Int) 0
theorem slices_Index_int_int.mono_l : ∀ k, (∀ y0 y1 y2 y3, LeO (slices_Index_int_int.l0 k y0 y1 y2 y3) (slices_Index_int_int.l0 (k + 1) y0 y1 y2 y3))
  | 0 => fun _ _ _ _ r h => by simp [slices_Index_int_int.l0] at h
  | k + 1 => by
    have ih0 := slices_Index_int_int.mono_l k
    · intro y0 y1 y2 y3
      unfold slices_Index_int_int.l0
      repeat' first
      | (with_reducible exact ih0 _ _ _ _)
      | (with_reducible exact LeO.refl _)
      | (with_reducible exact LeO.none _)
      | (with_reducible refine LeO.ite ?_ ?_)
      | (with_reducible refine LeO.bind ?_ (fun _ => ?_))
      | exact ih0 _ _ _ _
      | exact LeO.none _
      | refine LeO.ite ?_ ?_
      | refine LeO.bind ?_ (fun _ => ?_)
theorem slices_Index_int_int.mono : ∀ a0 a1 k, LeO (slices_Index_int_int.f k a0 a1) (slices_Index_int_int.f (k + 1) a0 a1) := by
  intro a0 a1 k
  have ih0 := slices_Index_int_int.mono_l k
  unfold slices_Index_int_int.f
  repeat' first
      | (with_reducible exact ih0 _ _ _ _)
      | (with_reducible exact LeO.refl _)
      | (with_reducible exact LeO.none _)
      | (with_reducible refine LeO.ite ?_ ?_)
      | (with_reducible refine LeO.bind ?_ (fun _ => ?_))
      | exact ih0 _ _ _ _
      | exact LeO.none _
      | refine LeO.ite ?_ ?_
      | refine LeO.bind ?_ (fun _ => ?_)
set_option maxHeartbeats 40000000 in
set_option maxRecDepth 100000 in
theorem slices_Index_int_int.calls (k : Nat) (A0 : Option Addr) (c0 : Nat) (l0 : List Int) (a1 : Int) (r : Int) (w : World) (hr0 : Kd.C (Kd.int .i64) w A0 l0.length l0) (hc0 : l0.length ≤ c0) (h : slices_Index_int_int.f k l0 a1 = some r) :
    Calls Try.prog 64 #[.slice A0 l0.length c0, .int .i64 a1] w fun e w' => e = .returned (.int .i64 r) ∧ Drawn0 w w' := by
  have HR0 := Aside0.mk hr0
  have HC0 := Aside0.mk hc0
  clear hr0 hc0
  have H : (slices_Index_int_int.l0 k l0 a1 (l0.length : Int) 0) = some r := h
  clear h
  have H' := Aside0.mk H
  clear H
  go_enter Try.func64, Try.ntmps64
  go_wp2
  go_loopg [8] k (fun kq zv8 w' => ∃ (x8_1 : Int), zv8 = .int .i64 x8_1 ∧ Aside0 (slices_Index_int_int.l0 kq l0 a1 (l0.length : Int) x8_1 = some r) ∧ Aside0 (kq ≤ k) ∧ Drawn0 w w')
  case atStart => exact ⟨(0), (by first | rfl | (simp; done) | (simp [*]; done)), H', ⟨Nat.le_refl _⟩, by repeat (first | exact Drawn0.refl _ | apply Drawn0.step)⟩
  case round =>
    clear H'
    try clear p2
    obtain ⟨x8_1, rfl, HA, HK1, ⟨m1, rfl⟩⟩ := hrel
    cases gk with
    | zero => exact absurd HA.out (by simp [slices_Index_int_int.l0])
    | succ k1 =>
      have H := HA.out
      clear HA
      simp only [slices_Index_int_int.l0] at H
      by_cases c3 : x8_1 < (l0.length : Int)
      · rw [if_pos c3] at H
        have c3b0 : decide (x8_1 < (l0.length : Int)) = true := decide_eq_true c3
        clear c3
        by_cases c4 : 0 ≤ x8_1
        · rw [if_pos c4] at H
          have c4b0 : decide (0 ≤ x8_1) = true := decide_eq_true c4
          clear c4
          by_cases c5 : x8_1 < (l0.length : Int)
          · rw [if_pos c5] at H
            have c5b0 : decide (x8_1 < (l0.length : Int)) = true := decide_eq_true c5
            clear c5
            by_cases c6 : a1 = (rd l0 x8_1)
            · rw [if_pos c6] at H
              have c6b0 : (a1 == (rd l0 x8_1)) = true := beq_iff_eq.mpr c6
              have c6b1 : (a1 != (rd l0 x8_1)) = false := bne_eq_false_iff_eq.mpr c6
              clear c6
              obtain rfl := Option.some.inj H
              have p201 : 0 ≤ (x8_1 : Int) := of_decide_eq_true (by first | (with_reducible assumption) | assumption)
              have q201 : x8_1 < (l0.length : Int) := of_decide_eq_true (by first | (with_reducible assumption) | assumption)
              obtain ⟨ad201, e201, hx201_0⟩ := Kd.at_int HR0.out x8_1 p201 q201
              cases e201
              replace p201 := eq_true p201
              replace q201 := eq_true q201
              go_wp2
              go_ret
              exact ⟨by first | rfl | (simp; done) | (simp [*]; done), by repeat (first | exact Drawn0.refl _ | apply Drawn0.step)⟩
            · rw [if_neg c6] at H
              have c6b0 : (a1 == (rd l0 x8_1)) = false := beq_eq_false_iff_ne.mpr c6
              have c6b1 : (a1 != (rd l0 x8_1)) = true := bne_iff_ne.mpr c6
              have H' := Aside0.mk H
              clear H
              have p201 : 0 ≤ (x8_1 : Int) := of_decide_eq_true (by first | (with_reducible assumption) | assumption)
              have q201 : x8_1 < (l0.length : Int) := of_decide_eq_true (by first | (with_reducible assumption) | assumption)
              obtain ⟨ad201, e201, hx201_0⟩ := Kd.at_int HR0.out x8_1 p201 q201
              cases e201
              replace p201 := eq_true p201
              replace q201 := eq_true q201
              go_wp2
              go_roundg k1
              case measure => have := HK1.out; omega
              case rel => exact ⟨(wrap64 (x8_1 + 1)), (by first | rfl | (simp; done) | (simp [*]; done)), H', ⟨by have := HK1.out; omega⟩, by repeat (first | exact Drawn0.refl _ | apply Drawn0.step)⟩
          · rw [if_neg c5] at H
            exact absurd H (by simp)
        · rw [if_neg c4] at H
          exact absurd H (by simp)
      · rw [if_neg c3] at H
        have c3b0 : decide (x8_1 < (l0.length : Int)) = false := decide_eq_false c3
        clear c3
        obtain rfl := Option.some.inj H
        go_wp2
        go_ret
        exact ⟨by first | rfl | (simp; done) | (simp [*]; done), by repeat (first | exact Drawn0.refl _ | apply Drawn0.step)⟩

/-! ### slices_Contains_int_int: function 58 -/
def slices_Contains_int_int.f (k : Nat) (l0 : List Int) (a1 : Int) : Option (Bool) := (slices_Index_int_int.f k l0 a1).bind fun t202 => (some (decide (t202 ≥ 0)))
theorem slices_Contains_int_int.mono : ∀ a0 a1 k, LeO (slices_Contains_int_int.f k a0 a1) (slices_Contains_int_int.f (k + 1) a0 a1) := by
  intro a0 a1 k
  unfold slices_Contains_int_int.f
  repeat' first
      | (with_reducible exact slices_Index_int_int.mono _ _ _)
      | (with_reducible exact LeO.refl _)
      | (with_reducible exact LeO.none _)
      | (with_reducible refine LeO.ite ?_ ?_)
      | (with_reducible refine LeO.bind ?_ (fun _ => ?_))
      | exact slices_Index_int_int.mono _ _ _
      | exact LeO.none _
      | refine LeO.ite ?_ ?_
      | refine LeO.bind ?_ (fun _ => ?_)
set_option maxHeartbeats 40000000 in
set_option maxRecDepth 100000 in
theorem slices_Contains_int_int.calls (k : Nat) (A0 : Option Addr) (c0 : Nat) (l0 : List Int) (a1 : Int) (r : Bool) (w : World) (hr0 : Kd.C (Kd.int .i64) w A0 l0.length l0) (hc0 : l0.length ≤ c0) (h : slices_Contains_int_int.f k l0 a1 = some r) :
    Calls Try.prog 58 #[.slice A0 l0.length c0, .int .i64 a1] w fun e w' => e = .returned (.bool r) ∧ Drawn0 w w' := by
  have HR0 := Aside0.mk hr0
  have HC0 := Aside0.mk hc0
  clear hr0 hc0
  have H : ((slices_Index_int_int.f k l0 a1).bind fun t202 => (some (decide (t202 ≥ 0)))) = some r := h
  clear h
  replace H := Option.bind_eq_some_iff.mp H
  obtain ⟨t202, A30, H⟩ := H
  replace H : (some (decide (t202 ≥ 0))) = some r := H
  have A3 := Aside0.mk A30
  clear A30
  obtain rfl := Option.some.inj H
  go_enter Try.func58, Try.ntmps58
  go_wp2_with (first | ((with_reducible refine gate_callee (f := 64) rfl ?_); refine goesL_ (some 7) rfl rfl Try.func64 (by kernel_rfl) rfl #[.slice A0 l0.length c0, .int .i64 a1] rfl (by (try simp only [List.map_toArray, List.map_cons, List.map_nil]); first | done | rfl | (simp only [List.length_drop, List.length_take]; rfl)) ?_; (with_reducible refine (slices_Index_int_int.calls k _ _ l0 a1 t202 _ ?side1 ?side2 A3.out).mono ?_); (case side1 => repeat (first | exact HR0.out | (with_reducible refine Kd.C_alloc ?_ _) | (with_reducible refine Kd.C_drewN ?_ _) | (with_reducible refine Kd.C_drew ?_))); (case side2 => exact HC0.out); rintro e w' ⟨rfl, ⟨nd, rfl⟩⟩; refine ⟨_, rfl, ?_⟩))
  go_ret
  exact ⟨by first | rfl | (simp; done) | (simp [*]; done), by repeat (first | exact Drawn0.refl _ | apply Drawn0.step)⟩

end Go.Proofs.Ytgpgkedbanmheaa.MFnExactPushBack
