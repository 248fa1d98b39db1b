-- Written by a program of this session over the kit's print, with stand-ins for the functions that the print leaves; Lean checks it.
import Derived.Test.YtpckdemamlhpdaaMFnConnsx0
import Derived.Test.YtpckdemamlhpdaaMFnConnsx9
namespace Go.Proofs.Ytpckdemamlhpdaa.MFnConns
open Go.RowKit Go.Proofs.YtpckdemamlhpdaaW.PrintWords Go.Proofs.YtpckdemamlhpdaaW.PrintLast Go.Proofs.YtpckdemamlhpdaaW.PrintMore
attribute [local go_sem] max2_int min2_int max_two min_two max_three min_three max_four min_four   -- for this text's walks alone
set_option linter.unusedVariables false
set_option linter.unusedSimpArgs false

/-! ### spec_PlayConn: function 31 -/
mutual
def spec_PlayConn.j0 : Nat → List (List Int) → Bool → Int → Int → Int → Int → Int → Bool → Option (Int × Int × Int × Int × Int × Bool × List Int)
  | 0, _, _, _, _, _, _, _, _ => none
  | k + 1, x1, x24, x209000, x209001, x209002, x209003, x209004, x209005 => if x24 = true then (some (0, 0, 0, 0, 0, false, ([] : List Int))) else (spec_PlayConn.l0 k x1 (([] : List Int)) 0 x209000 x209001 x209002 x209003 x209004 x209005)
def spec_PlayConn.l0 : Nat → List (List Int) → List Int → Int → Int → Int → Int → Int → Int → Bool → Option (Int × Int × Int × Int × Int × Bool × List Int)
  | 0, _, _, _, _, _, _, _, _, _ => none
  | k + 1, x1, x8, x9, x209000, x209001, x209002, x209003, x209004, x209005 => if x9 < (x1.length : Int) then (if 0 ≤ x9 then (if ((rd_L1 x1 x9).length : Int) = 3 then (if 0 < ((rd_L1 x1 x9).length : Int) then (if 1 < ((rd_L1 x1 x9).length : Int) then (if 2 < ((rd_L1 x1 x9).length : Int) then ((spec_StepConn.f k x209000 x209001 x209002 x209003 x209004 x209005 (rd (rd_L1 x1 x9) 0) (rd (rd_L1 x1 x9) 1) (rd (rd_L1 x1 x9) 2)).bind fun bt219 => (if bt219.2.2.2.2.2.2 = true then (if x8.length < 17592186044416 then (spec_PlayConn.l0 k x1 (x8 ++ [1]) (wrap64 (x9 + 1)) bt219.1 bt219.2.1 bt219.2.2.1 bt219.2.2.2.1 bt219.2.2.2.2.1 bt219.2.2.2.2.2.1) else (none)) else (if x8.length < 17592186044416 then (spec_PlayConn.l0 k x1 (x8 ++ [0]) (wrap64 (x9 + 1)) bt219.1 bt219.2.1 bt219.2.2.1 bt219.2.2.2.1 bt219.2.2.2.2.1 bt219.2.2.2.2.2.1) else (none)))) else (none)) else (none)) else (none)) else (if x8.length < 17592186044416 then (spec_PlayConn.l0 k x1 (x8 ++ [0]) (wrap64 (x9 + 1)) x209000 x209001 x209002 x209003 x209004 x209005) else (none))) else (none)) else (some (x209000, x209001, x209002, x209003, x209004, x209005, x8))
end
def spec_PlayConn.f (k : Nat) (a0 : Int) (l1 : List (List Int)) : Option (Int × Int × Int × Int × Int × Bool × List Int) := (spec_NewConn.f k a0 0).bind fun bt201 => (if bt201.2.2.2.2.2.2 = true then (spec_PlayConn.j0 k l1 (decide ((l1.length : Int) > 300)) bt201.1 bt201.2.1 bt201.2.2.1 bt201.2.2.2.1 bt201.2.2.2.2.1 bt201.2.2.2.2.2.1) else (spec_PlayConn.j0 k l1 true bt201.1 bt201.2.1 bt201.2.2.1 bt201.2.2.2.1 bt201.2.2.2.2.1 bt201.2.2.2.2.2.1))
theorem spec_PlayConn.mono_l : ∀ k, (∀ y0 y1 y2 y3 y4 y5 y6 y7, LeO (spec_PlayConn.j0 k y0 y1 y2 y3 y4 y5 y6 y7) (spec_PlayConn.j0 (k + 1) y0 y1 y2 y3 y4 y5 y6 y7)) ∧ (∀ y0 y1 y2 y3 y4 y5 y6 y7 y8, LeO (spec_PlayConn.l0 k y0 y1 y2 y3 y4 y5 y6 y7 y8) (spec_PlayConn.l0 (k + 1) y0 y1 y2 y3 y4 y5 y6 y7 y8))
  | 0 => ⟨fun _ _ _ _ _ _ _ _ r h => by simp [spec_PlayConn.j0] at h, fun _ _ _ _ _ _ _ _ _ r h => by simp [spec_PlayConn.l0] at h⟩
  | k + 1 => by
    obtain ⟨ih0, ih1⟩ := spec_PlayConn.mono_l k
    refine ⟨?_, ?_⟩
    · intro y0 y1 y2 y3 y4 y5 y6 y7
      unfold spec_PlayConn.j0
      repeat' first
      | (with_reducible exact ih0 _ _ _ _ _ _ _ _)
      | (with_reducible exact ih1 _ _ _ _ _ _ _ _ _)
      | (with_reducible exact spec_NewConn.mono _ _ _)
      | (with_reducible exact spec_StepConn.mono _ _ _ _ _ _ _ _ _ _)
      | (with_reducible exact LeO.refl _)
      | (with_reducible exact LeO.none _)
      | (with_reducible refine LeO.ite ?_ ?_)
      | (with_reducible refine LeO.bind ?_ (fun _ => ?_))
      | exact ih0 _ _ _ _ _ _ _ _
      | exact ih1 _ _ _ _ _ _ _ _ _
      | exact spec_NewConn.mono _ _ _
      | exact spec_StepConn.mono _ _ _ _ _ _ _ _ _ _
      | exact LeO.none _
      | refine LeO.ite ?_ ?_
      | refine LeO.bind ?_ (fun _ => ?_)
    · intro y0 y1 y2 y3 y4 y5 y6 y7 y8
      unfold spec_PlayConn.l0
      repeat' first
      | (with_reducible exact ih0 _ _ _ _ _ _ _ _)
      | (with_reducible exact ih1 _ _ _ _ _ _ _ _ _)
      | (with_reducible exact spec_NewConn.mono _ _ _)
      | (with_reducible exact spec_StepConn.mono _ _ _ _ _ _ _ _ _ _)
      | (with_reducible exact LeO.refl _)
      | (with_reducible exact LeO.none _)
      | (with_reducible refine LeO.ite ?_ ?_)
      | (with_reducible refine LeO.bind ?_ (fun _ => ?_))
      | exact ih0 _ _ _ _ _ _ _ _
      | exact ih1 _ _ _ _ _ _ _ _ _
      | exact spec_NewConn.mono _ _ _
      | exact spec_StepConn.mono _ _ _ _ _ _ _ _ _ _
      | exact LeO.none _
      | refine LeO.ite ?_ ?_
      | refine LeO.bind ?_ (fun _ => ?_)
theorem spec_PlayConn.mono : ∀ a0 a1 k, LeO (spec_PlayConn.f k a0 a1) (spec_PlayConn.f (k + 1) a0 a1) := by
  intro a0 a1 k
  obtain ⟨ih0, ih1⟩ := spec_PlayConn.mono_l k
  unfold spec_PlayConn.f
  repeat' first
      | (with_reducible exact ih0 _ _ _ _ _ _ _ _)
      | (with_reducible exact ih1 _ _ _ _ _ _ _ _ _)
      | (with_reducible exact spec_NewConn.mono _ _ _)
      | (with_reducible exact spec_StepConn.mono _ _ _ _ _ _ _ _ _ _)
      | (with_reducible exact LeO.refl _)
      | (with_reducible exact LeO.none _)
      | (with_reducible refine LeO.ite ?_ ?_)
      | (with_reducible refine LeO.bind ?_ (fun _ => ?_))
      | exact ih0 _ _ _ _ _ _ _ _
      | exact ih1 _ _ _ _ _ _ _ _ _
      | exact spec_NewConn.mono _ _ _
      | exact spec_StepConn.mono _ _ _ _ _ _ _ _ _ _
      | exact LeO.none _
      | refine LeO.ite ?_ ?_
      | refine LeO.bind ?_ (fun _ => ?_)
def spec_PlayConn.T10 : Bool × List (List Nat × List Nat) := (true, [([], []), ([], []), ([], []), ([1, 2], [1, 2]), ([3], [3]), ([4], [4]), ([5], [5]), ([], []), ([], []), ([7, 8], [7, 8]), ([9], [9]), ([10], [10]), ([11], [11]), ([], []), ([], []), ([13, 14], [13, 14]), ([15], [15]), ([16], [16]), ([17], [17]), ([0, 6, 12, 18], [0, 6, 12, 18]), ([19], [19]), ([20], [20]), ([20], [20]), ([], []), ([23, 21, 19, 0, 1, 2, 3, 4, 5, 6, 7, 8, 9, 10, 11, 12, 13, 14, 15, 16, 17, 18, 19, 20, 21, 23], [21, 23]), ([22, 24, 0, 1, 2, 3, 4, 5, 6, 7, 8, 9, 10, 11, 12, 13, 14, 15, 16, 17, 18, 19, 20, 21, 22, 23, 24], [22])])
def spec_PlayConn.B10 : List Nat := [0, 0, 0, 6, 14, 30, 62, 0, 0, 384, 896, 1920, 3968, 0, 0, 24576, 57344, 122880, 253952, 524287, 1048575, 2097151, 2097151, 0, 12582911, 33554431]
theorem spec_PlayConn.tab10 : rtab .any (opsOf Try.f31 10) = spec_PlayConn.T10 := by kernel_rfl
theorem spec_PlayConn.bits10 : waitsOk spec_PlayConn.T10.2 spec_PlayConn.B10 = true := by kernel_rfl
set_option maxHeartbeats 40000000 in
set_option maxRecDepth 100000 in
theorem spec_PlayConn.calls (k : Nat) (a0 : Int) (A1 : Option Addr) (c1 : Nat) (l1 : List (List Int)) (r1 : Int) (r2 : Int) (r3 : Int) (r4 : Int) (r5 : Int) (r6 : Bool) (r7 : List Int) (w : World) (hr1 : Kd.C (Kd.slice 3 (Kd.int .i64)) w A1 l1.length l1) (hc1 : l1.length ≤ c1) (h : spec_PlayConn.f k a0 l1 = some (r1, r2, r3, r4, r5, r6, r7)) :
    Calls Try.prog 31 #[.int .i64 a0, .slice A1 l1.length c1] w fun e w' => ∃ v6_ : Value, e = .returned (.tuple #[.agg #[.int .i64 r1, .int .i64 r2, .int .i64 r3, .int .i64 r4, .int .i64 r5, .bool r6], v6_]) ∧ Kd.R (Kd.int .i64) 3 w' w.heap.size (fun _ => True) v6_ r7 ∧ Below w.heap.size w w' := by
  have hu24 := Try.underlying24
  have HR1 := Aside0.mk hr1
  have HC1 := Aside0.mk hc1
  clear hr1 hc1
  have HB := Aside0.mk (Below.refl w.heap.size w)
  have H : ((spec_NewConn.f k a0 0).bind fun bt201 => (if bt201.2.2.2.2.2.2 = true then (spec_PlayConn.j0 k l1 (decide ((l1.length : Int) > 300)) bt201.1 bt201.2.1 bt201.2.2.1 bt201.2.2.2.1 bt201.2.2.2.2.1 bt201.2.2.2.2.2.1) else (spec_PlayConn.j0 k l1 true bt201.1 bt201.2.1 bt201.2.2.1 bt201.2.2.2.1 bt201.2.2.2.2.1 bt201.2.2.2.2.2.1))) = some (r1, r2, r3, r4, r5, r6, r7) := h
  clear h
  replace H := Option.bind_eq_some_iff.mp H
  obtain ⟨⟨t201, t202, t203, t204, t205, t206, t207⟩, A30, H⟩ := H
  replace H : (if t207 = true then (spec_PlayConn.j0 k l1 (decide ((l1.length : Int) > 300)) t201 t202 t203 t204 t205 t206) else (spec_PlayConn.j0 k l1 true t201 t202 t203 t204 t205 t206)) = some (r1, r2, r3, r4, r5, r6, r7) := H
  have A3 := Aside0.mk A30
  clear A30
  have HC4 := Aside0.mk H
  clear H
  go_enter Try.func31, Try.ntmps31
  go_upto_region 2 with (first | ((with_reducible refine gate_dst (N := 4) rfl ?_); (try (refine gate_guard (by rfl) ?_; dsimp only)); refine box_event ?hg (N := 4) ?hd (cs := #[.int .i64 0, .int .i64 0, .int .i64 0, .int .i64 0, .int .i64 0, .bool false]) (t := 24) ?hr ?_; (case hd => rfl); (case hg => rfl); (case hr => first | (go_simp; done) | (go_simp; rfl)); intro gb200 hg w5 hbox hb; have n0_ := Aside0.mk (below_step (be_ HB.out) hb); have n1_ := Aside0.mk (hbox); have n2_ := Aside0.mk ((by rw [hg]; exact (below_size (be_ HB.out)) : w.heap.size ≤ gb200)); have n3_ := Aside0.mk ((by rw [hg]; exact (below_size (be_ HB.out)) : w.heap.size ≤ gb200)); clear HB; have HB := n0_; have BK200 := n1_; have GW200 := n2_; have GE200 := n3_; clear n0_ n1_ n2_ n3_; clear hb hbox hg) | ((with_reducible refine gate_callee (f := 65) rfl ?_); refine goesL_ (some 15) rfl rfl Try.func65 (by kernel_rfl) rfl #[.int .i64 a0, .int .i64 0] rfl (by (try simp only [List.map_toArray, List.map_cons, List.map_nil]); first | done | rfl | (simp only [List.length_drop, List.length_take]; rfl)) ?_; (with_reducible refine (spec_NewConn.calls k a0 0 t201 t202 t203 t204 t205 t206 t207 _ A3.out).mono ?_); rintro e w6 ⟨rfl, hb⟩; refine ⟨_, rfl, ?_⟩; have n0_ := Aside0.mk (blk_below (g := gb200) (o := .cells #[.int .i64 0, .int .i64 0, .int .i64 0, .int .i64 0, .int .i64 0, .bool false] 24 (0, 0)) (bl_ BK200.out) hb); have n1_ := Aside0.mk (below_step (be_ HB.out) hb); clear BK200 HB; have BK200 := n0_; have HB := n1_; clear n0_ n1_; (try clear hb); (try clear hb2); (try clear hk); (try clear hi)) | ((with_reducible refine gate_dst (N := 6) rfl ?_); (try (refine gate_guard (by rfl) ?_; dsimp only)); refine box_event ?hg (N := 6) ?hd (cs := #[.int .i64 0, .int .i64 0, .int .i64 0, .int .i64 0, .int .i64 0, .bool false]) (t := 24) ?hr ?_; (case hd => rfl); (case hg => rfl); (case hr => first | (go_simp; done) | (go_simp; rfl)); intro gb208 hg w7 hbox hb; have n0_ := Aside0.mk (blk_below (g := gb200) (o := .cells #[.int .i64 0, .int .i64 0, .int .i64 0, .int .i64 0, .int .i64 0, .bool false] 24 (0, 0)) (bl_ BK200.out) hb); have n1_ := Aside0.mk (below_step (be_ HB.out) hb); have n2_ := Aside0.mk (hbox); have n3_ := Aside0.mk ((by rw [hg]; exact (below_size (be_ HB.out)) : w.heap.size ≤ gb208)); have n4_ := Aside0.mk ((by rw [hg]; exact (below_size (be_ HB.out)) : w.heap.size ≤ gb208)); have n5_ := Aside0.mk ((by rw [hg]; exact Nat.ne_of_lt (blk_lt (g := gb200) (o := .cells #[.int .i64 0, .int .i64 0, .int .i64 0, .int .i64 0, .int .i64 0, .bool false] 24 (0, 0)) (bl_ BK200.out)) : gb200 ≠ gb208)); have n6_ := Aside0.mk ((by rw [hg]; exact Nat.ne_of_gt (blk_lt (g := gb200) (o := .cells #[.int .i64 0, .int .i64 0, .int .i64 0, .int .i64 0, .int .i64 0, .bool false] 24 (0, 0)) (bl_ BK200.out)) : gb208 ≠ gb200)); clear BK200 HB; have BK200 := n0_; have HB := n1_; have BK208 := n2_; have GW208 := n3_; have GE208 := n4_; have NB200_208 := n5_; have NB208_200 := n6_; clear n0_ n1_ n2_ n3_ n4_ n5_ n6_; clear hb hbox hg; have hnb8 := NB208_200.out; have hnc8 := NB200_208.out; obtain ⟨hcz9_0, hcz9_1, hcz9_2, hcz9_3, hcz9_4, hcz9_5, hfz9_0, hfz9_1, hfz9_2, hfz9_3, hfz9_4, hfz9_5⟩ := cz6_ BK208.out))
  (try simp only [Act.put, List.setIfInBounds_toArray, List.set_cons_zero, List.set_cons_succ])
  go_cut [24] (fun zv24 wc => ∃ (kq : Nat) (x24_3 : Bool), zv24 = .bool x24_3 ∧ Aside0 (spec_PlayConn.j0 kq l1 x24_3 t201 t202 t203 t204 t205 t206 = some (r1, r2, r3, r4, r5, r6, r7)) ∧ Aside0 (kq ≤ k) ∧ Aside0 (wc.heap[gb200]? = some (.cells #[.int .i64 0, .int .i64 0, .int .i64 0, .int .i64 0, .int .i64 0, .bool false] 24 (0, 0))) ∧ Aside0 (wc.heap[gb208]? = some (.cells #[.int .i64 t201, .int .i64 t202, .int .i64 t203, .int .i64 t204, .int .i64 t205, .bool t206] 24 (0, 0))) ∧ Aside0 (Below w.heap.size w wc))
  case first =>
    have H := HC4.out
    clear HC4
    by_cases c10 : t207 = true
    · subst c10
      have H1 : (spec_PlayConn.j0 k l1 (decide ((l1.length : Int) > 300)) t201 t202 t203 t204 t205 t206) = some (r1, r2, r3, r4, r5, r6, r7) := by rw [if_pos rfl] at H; exact H
      clear H
      have H := H1
      clear H1
      have H' := Aside0.mk H
      clear H
      go_wp2
      go_meet
      case rel => exact ⟨_, (decide ((l1.length : Int) > 300)), (by first | rfl | (simp; done) | (simp [*]; done)), H', ⟨by first | omega | exact Nat.le_refl _⟩, ⟨by refine bl_ ?_; refine blk_far ?_ NB200_208.out _; refine bl_ ?_; refine blk_far ?_ NB200_208.out _; refine bl_ ?_; refine blk_far ?_ NB200_208.out _; refine bl_ ?_; refine blk_far ?_ NB200_208.out _; refine bl_ ?_; refine blk_far ?_ NB200_208.out _; refine bl_ ?_; refine blk_far ?_ NB200_208.out _; refine bl_ ?_; exact BK200.out⟩, ⟨by refine bl_ ?_; refine blk_put (cs := #[.int .i64 t201, .int .i64 t202, .int .i64 t203, .int .i64 t204, .int .i64 t205, .bool false]) ?_ 5 _ rfl; refine bl_ ?_; refine blk_put (cs := #[.int .i64 t201, .int .i64 t202, .int .i64 t203, .int .i64 t204, .int .i64 0, .bool false]) ?_ 4 _ rfl; refine bl_ ?_; refine blk_put (cs := #[.int .i64 t201, .int .i64 t202, .int .i64 t203, .int .i64 0, .int .i64 0, .bool false]) ?_ 3 _ rfl; refine bl_ ?_; refine blk_put (cs := #[.int .i64 t201, .int .i64 t202, .int .i64 0, .int .i64 0, .int .i64 0, .bool false]) ?_ 2 _ rfl; refine bl_ ?_; refine blk_put (cs := #[.int .i64 t201, .int .i64 0, .int .i64 0, .int .i64 0, .int .i64 0, .bool false]) ?_ 1 _ rfl; refine bl_ ?_; refine blk_put (cs := #[.int .i64 0, .int .i64 0, .int .i64 0, .int .i64 0, .int .i64 0, .bool false]) ?_ 0 _ rfl; refine bl_ ?_; exact BK208.out⟩, ⟨be_ HB.out⟩⟩
    · replace c10 := Bool.eq_false_iff.mpr c10
      subst c10
      have H1 : (spec_PlayConn.j0 k l1 true t201 t202 t203 t204 t205 t206) = some (r1, r2, r3, r4, r5, r6, r7) := by rw [if_neg (show ¬ (false = true) by decide)] at H; exact H
      clear H
      have H := H1
      clear H1
      have H' := Aside0.mk H
      clear H
      go_wp2
      go_meet
      case rel => exact ⟨_, (true), (by first | rfl | (simp; done) | (simp [*]; done)), H', ⟨by first | omega | exact Nat.le_refl _⟩, ⟨by refine bl_ ?_; refine blk_far ?_ NB200_208.out _; refine bl_ ?_; refine blk_far ?_ NB200_208.out _; refine bl_ ?_; refine blk_far ?_ NB200_208.out _; refine bl_ ?_; refine blk_far ?_ NB200_208.out _; refine bl_ ?_; refine blk_far ?_ NB200_208.out _; refine bl_ ?_; refine blk_far ?_ NB200_208.out _; refine bl_ ?_; exact BK200.out⟩, ⟨by refine bl_ ?_; refine blk_put (cs := #[.int .i64 t201, .int .i64 t202, .int .i64 t203, .int .i64 t204, .int .i64 t205, .bool false]) ?_ 5 _ rfl; refine bl_ ?_; refine blk_put (cs := #[.int .i64 t201, .int .i64 t202, .int .i64 t203, .int .i64 t204, .int .i64 0, .bool false]) ?_ 4 _ rfl; refine bl_ ?_; refine blk_put (cs := #[.int .i64 t201, .int .i64 t202, .int .i64 t203, .int .i64 0, .int .i64 0, .bool false]) ?_ 3 _ rfl; refine bl_ ?_; refine blk_put (cs := #[.int .i64 t201, .int .i64 t202, .int .i64 0, .int .i64 0, .int .i64 0, .bool false]) ?_ 2 _ rfl; refine bl_ ?_; refine blk_put (cs := #[.int .i64 t201, .int .i64 0, .int .i64 0, .int .i64 0, .int .i64 0, .bool false]) ?_ 1 _ rfl; refine bl_ ?_; refine blk_put (cs := #[.int .i64 0, .int .i64 0, .int .i64 0, .int .i64 0, .int .i64 0, .bool false]) ?_ 0 _ rfl; refine bl_ ?_; exact BK208.out⟩, ⟨be_ HB.out⟩⟩
  case rest =>
    clear HC4
    try clear c1
    try clear p2
    try clear c3
    try clear c6
    try clear c8
    try clear c10
    try clear hcz9_0
    try clear hcz9_1
    try clear hcz9_2
    try clear hcz9_3
    try clear hcz9_4
    try clear hcz9_5
    try clear hfz9_0
    try clear hfz9_1
    try clear hfz9_2
    try clear hfz9_3
    try clear hfz9_4
    try clear hfz9_5
    obtain ⟨kq, x24_3, rfl, HA, HJ3, BK200, BK208, HB⟩ := hcut
    cases kq with
    | zero => exact absurd HA.out (by simp [spec_PlayConn.j0])
    | succ kj3 =>
      have H := HA.out
      clear HA
      simp only [spec_PlayConn.j0] at H
      by_cases c11 : x24_3 = true
      · subst c11
        have H1 : (some (0, 0, 0, 0, 0, false, ([] : List Int))) = some (r1, r2, r3, r4, r5, r6, r7) := by rw [if_pos rfl] at H; exact H
        clear H
        have H := H1
        clear H1
        simp only [Option.some.injEq, Prod.mk.injEq] at H
        obtain ⟨rfl, rfl, rfl, rfl, rfl, rfl, rfl⟩ := H
        have hnb12 := NB200_208.out
        have hnc12 := NB208_200.out
        have hcz13_0 : wc.cell? ⟨gb200, 0, none⟩ = some (.int .i64 0) := (blk_cell BK200.out 0).trans rfl
        have hcz13_1 : wc.cell? ⟨gb200, 1, none⟩ = some (.int .i64 0) := (blk_cell BK200.out 1).trans rfl
        have hcz13_2 : wc.cell? ⟨gb200, 2, none⟩ = some (.int .i64 0) := (blk_cell BK200.out 2).trans rfl
        have hcz13_3 : wc.cell? ⟨gb200, 3, none⟩ = some (.int .i64 0) := (blk_cell BK200.out 3).trans rfl
        have hcz13_4 : wc.cell? ⟨gb200, 4, none⟩ = some (.int .i64 0) := (blk_cell BK200.out 4).trans rfl
        have hcz13_5 : wc.cell? ⟨gb200, 5, none⟩ = some (.bool false) := (blk_cell BK200.out 5).trans rfl
        have hfz13_0 := blk_frozen BK200.out 0
        have hfz13_1 := blk_frozen BK200.out 1
        have hfz13_2 := blk_frozen BK200.out 2
        have hfz13_3 := blk_frozen BK200.out 3
        have hfz13_4 := blk_frozen BK200.out 4
        have hfz13_5 := blk_frozen BK200.out 5
        go_wp2
        refine bodyPost_ret (results_ct rfl _ _ gb200 24 #[.int .i64 0, .int .i64 0, .int .i64 0, .int .i64 0, .int .i64 0, .bool false] (0, 0) _ rfl (by refine bl_ ?_; refine blk_put (cs := #[.int .i64 0, .int .i64 0, .int .i64 0, .int .i64 0, .int .i64 0, .bool false]) ?_ 5 _ rfl; refine bl_ ?_; refine blk_put (cs := #[.int .i64 0, .int .i64 0, .int .i64 0, .int .i64 0, .int .i64 0, .bool false]) ?_ 4 _ rfl; refine bl_ ?_; refine blk_put (cs := #[.int .i64 0, .int .i64 0, .int .i64 0, .int .i64 0, .int .i64 0, .bool false]) ?_ 3 _ rfl; refine bl_ ?_; refine blk_put (cs := #[.int .i64 0, .int .i64 0, .int .i64 0, .int .i64 0, .int .i64 0, .bool false]) ?_ 2 _ rfl; refine bl_ ?_; refine blk_put (cs := #[.int .i64 0, .int .i64 0, .int .i64 0, .int .i64 0, .int .i64 0, .bool false]) ?_ 1 _ rfl; refine bl_ ?_; refine blk_put (cs := #[.int .i64 0, .int .i64 0, .int .i64 0, .int .i64 0, .int .i64 0, .bool false]) ?_ 0 _ rfl; refine bl_ ?_; exact BK200.out) Try.underlying24 rfl (by kernel_rfl)) rfl ?_
        exact ⟨_, by first | rfl | (simp [errW_none, errW_some] <;> rfl) | (simp [*, errW_none, errW_some] <;> rfl), by first | exact Kd.R_nil _ _ _ _ _ | exact Kd.N_nil _ _ _ _ _ | exact Kd.V_nil _ _ _ _ _ | exact Kd.Q_nil _ _ _ _ _ | exact Kd.S_nil _ _ _ _ _, be_ HB.out⟩
      · replace c11 := Bool.eq_false_iff.mpr c11
        subst c11
        have H1 : (spec_PlayConn.l0 kj3 l1 (([] : List Int)) 0 t201 t202 t203 t204 t205 t206) = some (r1, r2, r3, r4, r5, r6, r7) := by rw [if_neg (show ¬ (false = true) by decide)] at H; exact H
        clear H
        have H := H1
        clear H1
        obtain ⟨y209, hy209⟩ : ∃ y_ : List Int, y_ = (([] : List Int)) := ⟨_, rfl⟩
        replace H : (spec_PlayConn.l0 kj3 l1 y209 0 t201 t202 t203 t204 t205 t206) = some (r1, r2, r3, r4, r5, r6, r7) := by first | (rw [hy209]; with_reducible exact H) | (have H2_ := (Option.bind_some _ _).symm.trans H; rw [hy209]; with_reducible exact H2_) | (have H2_ := (Option.bind_some _ _).symm.trans H; with_reducible exact H2_) | with_reducible exact H | (rw [hy209]; exact H) | exact H
        have Ny209 := Aside0.mk hy209
        clear hy209
        have H' := Aside0.mk H
        clear H
        go_wp2_with (first | ((with_reducible refine gate_dst (N := 26) rfl ?_); (try (refine gate_guard (by rfl) ?_; dsimp only)); refine Kd.R_lit (Kd.int .i64) _ 3 ?hg (N := 26) ?hd (xs := ([] : List Int)) (inner := []) (ok := fun _ => True) (okp := fun _ => True) ?hr ?hp (fun _ hk => hk) trivial (Below.refl _ _) (Nat.le_refl _) (by simp) ?_; (case hd => rfl); (case hg => rfl); (case hr => first | (go_simp; done) | (go_simp; rfl)); (case hp => exact (Reps.none _ _)); intro v210 w14 ho15 hb hg_ hnew_; clear hg_ hnew_; (first | rw [← Ny209.out] at ho15 | (simp only [Int.reduceToNat] at ho15; rw [← Ny209.out] at ho15)); have n0_ := Aside0.mk (Kd.R_lower ho15 (below_size (be_ HB.out))); have n1_ := Aside0.mk (blk_below (g := gb200) (o := .cells #[.int .i64 0, .int .i64 0, .int .i64 0, .int .i64 0, .int .i64 0, .bool false] 24 (0, 0)) (bl_ BK200.out) hb); have n2_ := Aside0.mk (blk_below (g := gb208) (o := .cells #[.int .i64 t201, .int .i64 t202, .int .i64 t203, .int .i64 t204, .int .i64 t205, .bool t206] 24 (0, 0)) (bl_ BK208.out) hb); have n3_ := Aside0.mk (below_step (be_ HB.out) hb); clear BK200 BK208 HB; have HO211 := n0_; have BK200 := n1_; have BK208 := n2_; have HB := n3_; clear n0_ n1_ n2_ n3_; clear hb ho15))
        go_loopg [8, 9] kj3 (fun kq v8 zv9 w' => ∃ (x8_2 : List Int) (x9_2 : Int) (x209000_2 : Int) (x209001_2 : Int) (x209002_2 : Int) (x209003_2 : Int) (x209004_2 : Int) (x209005_2 : Bool), zv9 = .int .i64 x9_2 ∧ Aside0 (spec_PlayConn.l0 kq l1 x8_2 x9_2 x209000_2 x209001_2 x209002_2 x209003_2 x209004_2 x209005_2 = some (r1, r2, r3, r4, r5, r6, r7)) ∧ Aside0 (kq ≤ kj3) ∧ Aside0 (Kd.R (Kd.int .i64) 3 w' w.heap.size (fun _ => True) v8 x8_2) ∧ Aside0 (w'.heap[gb200]? = some (.cells #[.int .i64 0, .int .i64 0, .int .i64 0, .int .i64 0, .int .i64 0, .bool false] 24 (0, 0))) ∧ Aside0 (w'.heap[gb208]? = some (.cells #[.int .i64 x209000_2, .int .i64 x209001_2, .int .i64 x209002_2, .int .i64 x209003_2, .int .i64 x209004_2, .bool x209005_2] 24 (0, 0))) ∧ Aside0 (Below w.heap.size w w'))
        case atStart => exact ⟨(y209), (0), (t201), (t202), (t203), (t204), (t205), (t206), (by first | rfl | (simp; done) | (simp [*]; done)), H', ⟨Nat.le_refl _⟩, ⟨by (with_reducible repeat (first | apply Kd.R_alloc | apply Kd.R_drewN | apply Kd.R_drew)); exact HO211.out⟩, ⟨by refine bl_ ?_; exact BK200.out⟩, ⟨by refine bl_ ?_; exact BK208.out⟩, ⟨be_ HB.out⟩⟩
        case round =>
          clear H'
          try clear c1
          try clear p2
          try clear c3
          try clear c6
          try clear c8
          try clear c10
          try clear c11
          try clear c12
          try clear hcz13_0
          try clear hcz13_1
          try clear hcz13_2
          try clear hcz13_3
          try clear hcz13_4
          try clear hcz13_5
          try clear hcz9_0
          try clear hcz9_1
          try clear hcz9_2
          try clear hcz9_3
          try clear hcz9_4
          try clear hcz9_5
          try clear hfz13_0
          try clear hfz13_1
          try clear hfz13_2
          try clear hfz13_3
          try clear hfz13_4
          try clear hfz13_5
          try clear hfz9_0
          try clear hfz9_1
          try clear hfz9_2
          try clear hfz9_3
          try clear hfz9_4
          try clear hfz9_5
          try clear p2
          obtain ⟨x8_2, x9_2, x209000_2, x209001_2, x209002_2, x209003_2, x209004_2, x209005_2, rfl, HA, HK2, HO_8, BK200, BK208, HB⟩ := hrel
          cases gk with
          | zero => exact absurd HA.out (by simp [spec_PlayConn.l0])
          | succ k2 =>
            have H := HA.out
            clear HA
            simp only [spec_PlayConn.l0] at H
            by_cases c16 : x9_2 < (l1.length : Int)
            · rw [if_pos c16] at H
              have c16b0 : decide (x9_2 < (l1.length : Int)) = true := decide_eq_true c16
              clear c16
              by_cases c17 : 0 ≤ x9_2
              · rw [if_pos c17] at H
                have c17b0 : decide (0 ≤ x9_2) = true := decide_eq_true c17
                clear c17
                by_cases c18 : ((rd_L1 l1 x9_2).length : Int) = 3
                · rw [if_pos c18] at H
                  have c18b0 : (((rd_L1 l1 x9_2).length : Int) == 3) = true := beq_iff_eq.mpr c18
                  have c18b1 : (((rd_L1 l1 x9_2).length : Int) != 3) = false := bne_eq_false_iff_eq.mpr c18
                  clear c18
                  by_cases c19 : 0 < ((rd_L1 l1 x9_2).length : Int)
                  · rw [if_pos c19] at H
                    have c19b0 : decide (0 < ((rd_L1 l1 x9_2).length : Int)) = true := decide_eq_true c19
                    have c19b1 : decide (0 < (rd_L1 l1 x9_2).length) = true := decide_eq_true (by omega)
                    clear c19
                    by_cases c20 : 1 < ((rd_L1 l1 x9_2).length : Int)
                    · rw [if_pos c20] at H
                      have c20b0 : decide (1 < ((rd_L1 l1 x9_2).length : Int)) = true := decide_eq_true c20
                      have c20b1 : decide (1 < (rd_L1 l1 x9_2).length) = true := decide_eq_true (by omega)
                      clear c20
                      by_cases c21 : 2 < ((rd_L1 l1 x9_2).length : Int)
                      · rw [if_pos c21] at H
                        have c21b0 : decide (2 < ((rd_L1 l1 x9_2).length : Int)) = true := decide_eq_true c21
                        have c21b1 : decide (2 < (rd_L1 l1 x9_2).length) = true := decide_eq_true (by omega)
                        clear c21
                        replace H := Option.bind_eq_some_iff.mp H
                        obtain ⟨⟨t219, t220, t221, t222, t223, t224, t225⟩, A220, H⟩ := H
                        replace H : (if t225 = true then (if x8_2.length < 17592186044416 then (spec_PlayConn.l0 k2 l1 (x8_2 ++ [1]) (wrap64 (x9_2 + 1)) t219 t220 t221 t222 t223 t224) else (none)) else (if x8_2.length < 17592186044416 then (spec_PlayConn.l0 k2 l1 (x8_2 ++ [0]) (wrap64 (x9_2 + 1)) t219 t220 t221 t222 t223 t224) else (none))) = some (r1, r2, r3, r4, r5, r6, r7) := H
                        have A22 := Aside0.mk A220
                        clear A220
                        by_cases c23 : t225 = true
                        · subst c23
                          have H1 : (if x8_2.length < 17592186044416 then (spec_PlayConn.l0 k2 l1 (x8_2 ++ [1]) (wrap64 (x9_2 + 1)) t219 t220 t221 t222 t223 t224) else (none)) = some (r1, r2, r3, r4, r5, r6, r7) := by rw [if_pos rfl] at H; exact H
                          clear H
                          have H := H1
                          clear H1
                          by_cases c24 : x8_2.length < 17592186044416
                          · rw [if_pos c24] at H
                            have LMc24 := Aside0.mk c24
                            clear c24
                            obtain ⟨y227, hy227⟩ : ∃ y_ : List Int, y_ = (x8_2 ++ [1]) := ⟨_, rfl⟩
                            replace H : (spec_PlayConn.l0 k2 l1 y227 (wrap64 (x9_2 + 1)) t219 t220 t221 t222 t223 t224) = some (r1, r2, r3, r4, r5, r6, r7) := by first | (rw [hy227]; with_reducible exact H) | (have H2_ := (Option.bind_some _ _).symm.trans H; rw [hy227]; with_reducible exact H2_) | (have H2_ := (Option.bind_some _ _).symm.trans H; with_reducible exact H2_) | with_reducible exact H | (rw [hy227]; exact H) | exact H
                            have Ny227 := Aside0.mk hy227
                            clear hy227
                            have H' := Aside0.mk H
                            clear H
                            have p212 : 0 ≤ (x9_2 : Int) := of_decide_eq_true (by first | (with_reducible assumption) | assumption)
                            have q212 : x9_2 < (l1.length : Int) := of_decide_eq_true (by first | (with_reducible assumption) | assumption)
                            obtain ⟨ad212, A212_0, c212_0, e212, hx212_0, hl212_0, hi212_0⟩ := at_L1 HR1.out x9_2 p212 q212
                            cases e212
                            replace hx212_0 := (HB.out.cell (World.block_lt_of_cell? w _ hx212_0)).trans hx212_0
                            have HR212_0 := Aside0.mk hi212_0
                            have HC212_0 := Aside0.mk hl212_0
                            clear hi212_0 hl212_0
                            replace p212 := eq_true p212
                            replace q212 := eq_true q212
                            try go_wp2
                            have n0_ := Aside0.mk (Kd.R_drew HO_8.out)
                            have n1_ := Aside0.mk (blk_drew BK200.out)
                            have n2_ := Aside0.mk (blk_drew BK208.out)
                            have n3_ := Aside0.mk (below_drew1 HB.out)
                            clear HO_8
                            clear BK200
                            clear BK208
                            clear HB
                            have HO_8 := n0_
                            have BK200 := n1_
                            have BK208 := n2_
                            have HB := n3_
                            clear n0_ n1_ n2_ n3_
                            have p213 : 0 ≤ (x9_2 : Int) := of_decide_eq_true (by first | (with_reducible assumption) | assumption)
                            have q213 : x9_2 < (l1.length : Int) := of_decide_eq_true (by first | (with_reducible assumption) | assumption)
                            obtain ⟨ad213, A213_0, c213_0, e213, hx213_0, hl213_0, hi213_0⟩ := at_L1 HR1.out x9_2 p213 q213
                            have hw213_0 := hx213_0
                            obtain rfl : ad212 = ad213 := (by injection e213)
                            replace hx213_0 := (HB.out.cell (World.block_lt_of_cell? w _ hx213_0)).trans hx213_0
                            have HR213_0 := Aside0.mk hi213_0
                            have HC213_0 := Aside0.mk hl213_0
                            clear hi213_0 hl213_0
                            replace p213 := eq_true p213
                            replace q213 := eq_true q213
                            have p214 : 0 ≤ (0 : Int) := (by omega)
                            have q214 : 0 < ((rd_L1 l1 x9_2).length : Int) := of_decide_eq_true (by first | (with_reducible assumption) | assumption)
                            obtain ⟨ad214, e214, hx214_0⟩ := Kd.at_int HR213_0.out 0 p214 q214
                            have hw214_0 := hx214_0
                            (try rw [show ((0 : Int)).toNat = 0 from rfl] at hw214_0)
                            (try rw [show 0 * 1 = 0 from rfl] at hw214_0)
                            (try rw [Addr.add_zero'] at hw214_0)
                            cases e214
                            have qi214 : (0 < (rd_L1 l1 x9_2).length) = True := eq_true (by omega)
                            (try rw [show ((0 : Int)).toNat = 0 from rfl] at hx214_0)
                            (try rw [Addr.add_zero'] at hx214_0)
                            replace hx214_0 := (HB.out.cell (World.block_lt_of_cell? w _ hx214_0)).trans hx214_0
                            replace p214 := eq_true p214
                            replace q214 := eq_true q214
                            have p215 : 0 ≤ (x9_2 : Int) := of_decide_eq_true (by first | (with_reducible assumption) | assumption)
                            have q215 : x9_2 < (l1.length : Int) := of_decide_eq_true (by first | (with_reducible assumption) | assumption)
                            obtain ⟨ad215, A215_0, c215_0, e215, hx215_0, hl215_0, hi215_0⟩ := at_L1 HR1.out x9_2 p215 q215
                            have hw215_0 := hx215_0
                            obtain rfl : ad212 = ad215 := (by injection e215)
                            replace hx215_0 := (HB.out.cell (World.block_lt_of_cell? w _ hx215_0)).trans hx215_0
                            have HR215_0 := Aside0.mk hi215_0
                            have HC215_0 := Aside0.mk hl215_0
                            clear hi215_0 hl215_0
                            replace p215 := eq_true p215
                            replace q215 := eq_true q215
                            have ea_ := Option.some.inj (hx213_0.symm.trans hx215_0)
                            injection ea_ with ea_ en_ ec_
                            subst ea_
                            subst ec_
                            clear en_
                            have p216 : 0 ≤ (1 : Int) := (by omega)
                            have q216 : 1 < ((rd_L1 l1 x9_2).length : Int) := of_decide_eq_true (by first | (with_reducible assumption) | assumption)
                            obtain ⟨ad216, e216, hx216_0⟩ := Kd.at_int HR215_0.out 1 p216 q216
                            have hw216_0 := hx216_0
                            (try rw [show ((1 : Int)).toNat = 1 from rfl] at hw216_0)
                            (try rw [show 1 * 1 = 1 from rfl] at hw216_0)
                            (try simp only [Nat.reduceMul, Nat.reduceEqDiff, Go.Addr.add, ↓reduceIte] at hw216_0)
                            cases e216
                            (try simp only [show (1 : Int).toNat = 1 from rfl, Nat.reduceMul, Nat.reduceEqDiff, Go.Addr.add, ↓reduceIte] at hx216_0)
                            have qi216 : (1 < (rd_L1 l1 x9_2).length) = True := eq_true (by omega)
                            (try rw [show ((1 : Int)).toNat = 1 from rfl] at hx216_0)
                            replace hx216_0 := (HB.out.cell (World.block_lt_of_cell? w _ hx216_0)).trans hx216_0
                            replace p216 := eq_true p216
                            replace q216 := eq_true q216
                            have p217 : 0 ≤ (x9_2 : Int) := of_decide_eq_true (by first | (with_reducible assumption) | assumption)
                            have q217 : x9_2 < (l1.length : Int) := of_decide_eq_true (by first | (with_reducible assumption) | assumption)
                            obtain ⟨ad217, A217_0, c217_0, e217, hx217_0, hl217_0, hi217_0⟩ := at_L1 HR1.out x9_2 p217 q217
                            have hw217_0 := hx217_0
                            obtain rfl : ad212 = ad217 := (by injection e217)
                            replace hx217_0 := (HB.out.cell (World.block_lt_of_cell? w _ hx217_0)).trans hx217_0
                            have HR217_0 := Aside0.mk hi217_0
                            have HC217_0 := Aside0.mk hl217_0
                            clear hi217_0 hl217_0
                            replace p217 := eq_true p217
                            replace q217 := eq_true q217
                            have ea_ := Option.some.inj (hx213_0.symm.trans hx217_0)
                            injection ea_ with ea_ en_ ec_
                            subst ea_
                            subst ec_
                            clear en_
                            have p218 : 0 ≤ (2 : Int) := (by omega)
                            have q218 : 2 < ((rd_L1 l1 x9_2).length : Int) := of_decide_eq_true (by first | (with_reducible assumption) | assumption)
                            obtain ⟨ad218, e218, hx218_0⟩ := Kd.at_int HR217_0.out 2 p218 q218
                            have hw218_0 := hx218_0
                            (try rw [show ((2 : Int)).toNat = 2 from rfl] at hw218_0)
                            (try rw [show 2 * 1 = 2 from rfl] at hw218_0)
                            (try simp only [Nat.reduceMul, Nat.reduceEqDiff, Go.Addr.add, ↓reduceIte] at hw218_0)
                            cases e218
                            (try simp only [show (2 : Int).toNat = 2 from rfl, Nat.reduceMul, Nat.reduceEqDiff, Go.Addr.add, ↓reduceIte] at hx218_0)
                            have qi218 : (2 < (rd_L1 l1 x9_2).length) = True := eq_true (by omega)
                            (try rw [show ((2 : Int)).toNat = 2 from rfl] at hx218_0)
                            replace hx218_0 := (HB.out.cell (World.block_lt_of_cell? w _ hx218_0)).trans hx218_0
                            replace p218 := eq_true p218
                            replace q218 := eq_true q218
                            refine start_ (n := 26) (S := fun w' => w'.cell? ⟨gb208, 0, none⟩ = some (.int .i64 x209000_2) ∧ w'.cell? ⟨gb208, 1, none⟩ = some (.int .i64 x209001_2) ∧ w'.cell? ⟨gb208, 2, none⟩ = some (.int .i64 x209002_2) ∧ w'.cell? ⟨gb208, 3, none⟩ = some (.int .i64 x209003_2) ∧ w'.cell? ⟨gb208, 4, none⟩ = some (.int .i64 x209004_2) ∧ w'.cell? ⟨gb208, 5, none⟩ = some (.bool x209005_2) ∧ w'.cell? (ad212.add (x9_2).toNat) = some (.slice (some ad214) (rd_L1 l1 x9_2).length c213_0) ∧ w'.cell? ad214 = some (.int .i64 (rd (rd_L1 l1 x9_2) 0)) ∧ w'.cell? (ad212.add (x9_2).toNat) = some (.slice (some ad214) (rd_L1 l1 x9_2).length c213_0) ∧ w'.cell? ⟨ad214.block, ad214.off + 1, none⟩ = some (.int .i64 (rd (rd_L1 l1 x9_2) 1)) ∧ w'.cell? (ad212.add (x9_2).toNat) = some (.slice (some ad214) (rd_L1 l1 x9_2).length c213_0) ∧ w'.cell? ⟨ad214.block, ad214.off + 2, none⟩ = some (.int .i64 (rd (rd_L1 l1 x9_2) 2))) (ds := []) #[false, false, false, false, false, false, false, false, false, false, false, false, false, false, false, false, false, false, false, false, false, false, false, false, false, false] (by kernel_rfl) rfl rfl ⟨(blk_cell BK208.out 0).trans rfl, (blk_cell BK208.out 1).trans rfl, (blk_cell BK208.out 2).trans rfl, (blk_cell BK208.out 3).trans rfl, (blk_cell BK208.out 4).trans rfl, (blk_cell BK208.out 5).trans rfl, ((HB.out.cell (World.block_lt_of_cell? w _ hw213_0)).trans hw213_0), ((HB.out.cell (World.block_lt_of_cell? w _ hw214_0)).trans hw214_0), ((HB.out.cell (World.block_lt_of_cell? w _ hw215_0)).trans hw215_0), ((HB.out.cell (World.block_lt_of_cell? w _ hw216_0)).trans hw216_0), ((HB.out.cell (World.block_lt_of_cell? w _ hw217_0)).trans hw217_0), ((HB.out.cell (World.block_lt_of_cell? w _ hw218_0)).trans hw218_0)⟩ (fun hHeld => ?_); refine with_tabW spec_PlayConn.tab10 spec_PlayConn.bits10 (fun HT_ HW_ => ?_)
                            generalize wr.drew = w25 at HO_8 BK200 BK208 HB HR213_0 HR215_0 HR217_0 hx213_0 hx214_0 hx215_0 hx216_0 hx217_0 hx218_0 hHeld ⊢
                            refine pure_ (i := 1) (N := some 41) (v := ?_) (a' := ?_) #[false, true, false, false, false, false, false, false, false, false, false, false, false, false, false, false, false, false, false, false, false, false, false, false, false, false] rfl rfl (any_of HT_.out (by kernel_rfl)) (fun _ _ _ h => h) (Or.inl ⟨by rfl, ?_⟩) ?_ ?_
                            rotate_left
                            · intro w'
                              go_simp
                              with_reducible rfl
                            rotate_left
                            · simp only [Act.put, List.setIfInBounds_toArray, List.set_cons_zero, List.set_cons_succ, i64_w, i32_w]
                              rfl
                            refine pure_ (i := 2) (N := some 42) (v := ?_) (a' := ?_) #[false, true, true, false, false, false, false, false, false, false, false, false, false, false, false, false, false, false, false, false, false, false, false, false, false, false] rfl rfl (any_of HT_.out (by kernel_rfl)) (fun _ _ _ h => h) (Or.inl ⟨by rfl, ?_⟩) ?_ ?_
                            rotate_left
                            · intro w'
                              go_simp
                              with_reducible rfl
                            rotate_left
                            · simp only [Act.put, List.setIfInBounds_toArray, List.set_cons_zero, List.set_cons_succ, i64_w, i32_w]
                              rfl
                            refine pure_ (i := 3) (N := some 43) (v := ?_) (a' := ?_) #[false, true, true, true, false, false, false, false, false, false, false, false, false, false, false, false, false, false, false, false, false, false, false, false, false, false] rfl rfl (any_of HT_.out (by kernel_rfl)) (fun _ _ _ h => h) (Or.inl ⟨by rfl, ?_⟩) ?_ ?_
                            rotate_left
                            · intro w'
                              go_simp
                              with_reducible rfl
                            rotate_left
                            · simp only [Act.put, List.setIfInBounds_toArray, List.set_cons_zero, List.set_cons_succ, i64_w, i32_w]
                              rfl
                            refine pure_ (i := 7) (N := some 47) (v := ?_) (a' := ?_) #[false, true, true, true, false, false, false, true, false, false, false, false, false, false, false, false, false, false, false, false, false, false, false, false, false, false] rfl rfl (any_of HT_.out (by kernel_rfl)) (fun _ _ _ h => h) (Or.inl ⟨by rfl, ?_⟩) ?_ ?_
                            rotate_left
                            · intro w'
                              go_simp
                              with_reducible rfl
                            rotate_left
                            · simp only [Act.put, List.setIfInBounds_toArray, List.set_cons_zero, List.set_cons_succ, i64_w, i32_w]
                              rfl
                            refine pure_ (i := 8) (N := some 48) (v := ?_) (a' := ?_) #[false, true, true, true, false, false, false, true, true, false, false, false, false, false, false, false, false, false, false, false, false, false, false, false, false, false] rfl rfl (any_of HT_.out (by kernel_rfl)) (fun _ _ _ h => h) (Or.inl ⟨by rfl, ?_⟩) ?_ ?_
                            rotate_left
                            · intro w'
                              go_simp
                              with_reducible rfl
                            rotate_left
                            · simp only [Act.put, List.setIfInBounds_toArray, List.set_cons_zero, List.set_cons_succ, i64_w, i32_w]
                              rfl
                            refine pure_ (i := 9) (N := some 49) (v := ?_) (a' := ?_) #[false, true, true, true, false, false, false, true, true, true, false, false, false, false, false, false, false, false, false, false, false, false, false, false, false, false] rfl rfl (any_of HT_.out (by kernel_rfl)) (fun _ _ _ h => h) (Or.inl ⟨by rfl, ?_⟩) ?_ ?_
                            rotate_left
                            · intro w'
                              go_simp
                              with_reducible rfl
                            rotate_left
                            · simp only [Act.put, List.setIfInBounds_toArray, List.set_cons_zero, List.set_cons_succ, i64_w, i32_w]
                              rfl
                            refine pure_ (i := 13) (N := some 53) (v := ?_) (a' := ?_) #[false, true, true, true, false, false, false, true, true, true, false, false, false, true, false, false, false, false, false, false, false, false, false, false, false, false] rfl rfl (any_of HT_.out (by kernel_rfl)) (fun _ _ _ h => h) (Or.inl ⟨by rfl, ?_⟩) ?_ ?_
                            rotate_left
                            · intro w'
                              go_simp
                              with_reducible rfl
                            rotate_left
                            · simp only [Act.put, List.setIfInBounds_toArray, List.set_cons_zero, List.set_cons_succ, i64_w, i32_w]
                              rfl
                            refine pure_ (i := 14) (N := some 54) (v := ?_) (a' := ?_) #[false, true, true, true, false, false, false, true, true, true, false, false, false, true, true, false, false, false, false, false, false, false, false, false, false, false] rfl rfl (any_of HT_.out (by kernel_rfl)) (fun _ _ _ h => h) (Or.inl ⟨by rfl, ?_⟩) ?_ ?_
                            rotate_left
                            · intro w'
                              go_simp
                              with_reducible rfl
                            rotate_left
                            · simp only [Act.put, List.setIfInBounds_toArray, List.set_cons_zero, List.set_cons_succ, i64_w, i32_w]
                              rfl
                            refine pure_ (i := 15) (N := some 55) (v := ?_) (a' := ?_) #[false, true, true, true, false, false, false, true, true, true, false, false, false, true, true, true, false, false, false, false, false, false, false, false, false, false] rfl rfl (any_of HT_.out (by kernel_rfl)) (fun _ _ _ h => h) (Or.inl ⟨by rfl, ?_⟩) ?_ ?_
                            rotate_left
                            · intro w'
                              go_simp
                              with_reducible rfl
                            rotate_left
                            · simp only [Act.put, List.setIfInBounds_toArray, List.set_cons_zero, List.set_cons_succ, i64_w, i32_w]
                              rfl
                            refine take_ (i := 0) (N := some 40) (v := ?_) (a' := ?_) #[true, true, true, true, false, false, false, true, true, true, false, false, false, true, true, true, false, false, false, false, false, false, false, false, false, false] rfl rfl (take_ofW HT_.out HW_.out (by kernel_rfl)) (fun _ _ _ h => h) (Or.inl ⟨by rfl, ?_⟩) hHeld ?_ ?_
                            rotate_left
                            · rintro w' ⟨s0, s1, s2, s3, s4, s5, s6, s7, s8, s9, s10, s11⟩
                              go_simp
                              with_reducible rfl
                            rotate_left
                            · simp only [Act.put, List.setIfInBounds_toArray, List.set_cons_zero, List.set_cons_succ, i64_w, i32_w]
                              rfl
                            refine take_ (i := 4) (N := some 44) (v := ?_) (a' := ?_) #[true, true, true, true, true, false, false, true, true, true, false, false, false, true, true, true, false, false, false, false, false, false, false, false, false, false] rfl rfl (take_ofW HT_.out HW_.out (by kernel_rfl)) (fun _ _ _ h => h) (Or.inl ⟨by rfl, ?_⟩) hHeld ?_ ?_
                            rotate_left
                            · rintro w' ⟨s0, s1, s2, s3, s4, s5, s6, s7, s8, s9, s10, s11⟩
                              go_simp
                              with_reducible rfl
                            rotate_left
                            · simp only [Act.put, List.setIfInBounds_toArray, List.set_cons_zero, List.set_cons_succ, i64_w, i32_w]
                              rfl
                            refine pure_ (i := 5) (N := some 45) (v := ?_) (a' := ?_) #[true, true, true, true, true, true, false, true, true, true, false, false, false, true, true, true, false, false, false, false, false, false, false, false, false, false] rfl rfl (any_of HT_.out (by kernel_rfl)) (fun _ _ _ h => h) (Or.inl ⟨by rfl, ?_⟩) ?_ ?_
                            rotate_left
                            · intro w'
                              go_simp
                              with_reducible rfl
                            rotate_left
                            · simp only [Act.put, List.setIfInBounds_toArray, List.set_cons_zero, List.set_cons_succ, i64_w, i32_w]
                              rfl
                            refine take_ (i := 6) (N := some 46) (v := ?_) (a' := ?_) #[true, true, true, true, true, true, true, true, true, true, false, false, false, true, true, true, false, false, false, false, false, false, false, false, false, false] rfl rfl (take_ofW HT_.out HW_.out (by kernel_rfl)) (fun _ _ _ h => h) (Or.inl ⟨by rfl, ?_⟩) hHeld ?_ ?_
                            rotate_left
                            · rintro w' ⟨s0, s1, s2, s3, s4, s5, s6, s7, s8, s9, s10, s11⟩
                              go_simp
                              with_reducible rfl
                            rotate_left
                            · simp only [Act.put, List.setIfInBounds_toArray, List.set_cons_zero, List.set_cons_succ, i64_w, i32_w]
                              rfl
                            refine take_ (i := 10) (N := some 50) (v := ?_) (a' := ?_) #[true, true, true, true, true, true, true, true, true, true, true, false, false, true, true, true, false, false, false, false, false, false, false, false, false, false] rfl rfl (take_ofW HT_.out HW_.out (by kernel_rfl)) (fun _ _ _ h => h) (Or.inl ⟨by rfl, ?_⟩) hHeld ?_ ?_
                            rotate_left
                            · rintro w' ⟨s0, s1, s2, s3, s4, s5, s6, s7, s8, s9, s10, s11⟩
                              go_simp
                              with_reducible rfl
                            rotate_left
                            · simp only [Act.put, List.setIfInBounds_toArray, List.set_cons_zero, List.set_cons_succ, i64_w, i32_w]
                              rfl
                            refine pure_ (i := 11) (N := some 51) (v := ?_) (a' := ?_) #[true, true, true, true, true, true, true, true, true, true, true, true, false, true, true, true, false, false, false, false, false, false, false, false, false, false] rfl rfl (any_of HT_.out (by kernel_rfl)) (fun _ _ _ h => h) (Or.inl ⟨by rfl, ?_⟩) ?_ ?_
                            rotate_left
                            · intro w'
                              go_simp
                              with_reducible rfl
                            rotate_left
                            · simp only [Act.put, List.setIfInBounds_toArray, List.set_cons_zero, List.set_cons_succ, i64_w, i32_w]
                              rfl
                            refine take_ (i := 12) (N := some 52) (v := ?_) (a' := ?_) #[true, true, true, true, true, true, true, true, true, true, true, true, true, true, true, true, false, false, false, false, false, false, false, false, false, false] rfl rfl (take_ofW HT_.out HW_.out (by kernel_rfl)) (fun _ _ _ h => h) (Or.inl ⟨by rfl, ?_⟩) hHeld ?_ ?_
                            rotate_left
                            · rintro w' ⟨s0, s1, s2, s3, s4, s5, s6, s7, s8, s9, s10, s11⟩
                              go_simp
                              with_reducible rfl
                            rotate_left
                            · simp only [Act.put, List.setIfInBounds_toArray, List.set_cons_zero, List.set_cons_succ, i64_w, i32_w]
                              rfl
                            refine take_ (i := 16) (N := some 56) (v := ?_) (a' := ?_) #[true, true, true, true, true, true, true, true, true, true, true, true, true, true, true, true, true, false, false, false, false, false, false, false, false, false] rfl rfl (take_ofW HT_.out HW_.out (by kernel_rfl)) (fun _ _ _ h => h) (Or.inl ⟨by rfl, ?_⟩) hHeld ?_ ?_
                            rotate_left
                            · rintro w' ⟨s0, s1, s2, s3, s4, s5, s6, s7, s8, s9, s10, s11⟩
                              go_simp
                              with_reducible rfl
                            rotate_left
                            · simp only [Act.put, List.setIfInBounds_toArray, List.set_cons_zero, List.set_cons_succ, i64_w, i32_w]
                              rfl
                            refine pure_ (i := 17) (N := some 57) (v := ?_) (a' := ?_) #[true, true, true, true, true, true, true, true, true, true, true, true, true, true, true, true, true, true, false, false, false, false, false, false, false, false] rfl rfl (any_of HT_.out (by kernel_rfl)) (fun _ _ _ h => h) (Or.inl ⟨by rfl, ?_⟩) ?_ ?_
                            rotate_left
                            · intro w'
                              go_simp
                              with_reducible rfl
                            rotate_left
                            · simp only [Act.put, List.setIfInBounds_toArray, List.set_cons_zero, List.set_cons_succ, i64_w, i32_w]
                              rfl
                            refine take_ (i := 18) (N := some 58) (v := ?_) (a' := ?_) #[true, true, true, true, true, true, true, true, true, true, true, true, true, true, true, true, true, true, true, false, false, false, false, false, false, false] rfl rfl (take_ofW HT_.out HW_.out (by kernel_rfl)) (fun _ _ _ h => h) (Or.inl ⟨by rfl, ?_⟩) hHeld ?_ ?_
                            rotate_left
                            · rintro w' ⟨s0, s1, s2, s3, s4, s5, s6, s7, s8, s9, s10, s11⟩
                              go_simp
                              with_reducible rfl
                            rotate_left
                            · simp only [Act.put, List.setIfInBounds_toArray, List.set_cons_zero, List.set_cons_succ, i64_w, i32_w]
                              rfl
                            refine join_ (σ := Nat) 2 #[true, true, true, true, true, true, true, true, true, true, true, true, true, true, true, true, true, true, true, true, true, true, true, true, false, false] (fun s_ => [(59, .tuple #[.agg #[.int .i64 t219, .int .i64 t220, .int .i64 t221, .int .i64 t222, .int .i64 t223, .bool t224], .bool true]), (11, .pointer (some ⟨s_, 0, none⟩)), (39, .tuple #[.agg #[.int .i64 t219, .int .i64 t220, .int .i64 t221, .int .i64 t222, .int .i64 t223, .bool t224], .bool true]), (60, .agg #[.int .i64 t219, .int .i64 t220, .int .i64 t221, .int .i64 t222, .int .i64 t223, .bool t224]), (61, .bool true)]) (fun s_ w' => (w'.cell? ⟨gb208, 0, none⟩ = some (.int .i64 x209000_2) ∧ w'.cell? ⟨gb208, 1, none⟩ = some (.int .i64 x209001_2) ∧ w'.cell? ⟨gb208, 2, none⟩ = some (.int .i64 x209002_2) ∧ w'.cell? ⟨gb208, 3, none⟩ = some (.int .i64 x209003_2) ∧ w'.cell? ⟨gb208, 4, none⟩ = some (.int .i64 x209004_2) ∧ w'.cell? ⟨gb208, 5, none⟩ = some (.bool x209005_2) ∧ w'.cell? (ad212.add (x9_2).toNat) = some (.slice (some ad214) (rd_L1 l1 x9_2).length c213_0) ∧ w'.cell? ad214 = some (.int .i64 (rd (rd_L1 l1 x9_2) 0)) ∧ w'.cell? (ad212.add (x9_2).toNat) = some (.slice (some ad214) (rd_L1 l1 x9_2).length c213_0) ∧ w'.cell? ⟨ad214.block, ad214.off + 1, none⟩ = some (.int .i64 (rd (rd_L1 l1 x9_2) 1)) ∧ w'.cell? (ad212.add (x9_2).toNat) = some (.slice (some ad214) (rd_L1 l1 x9_2).length c213_0) ∧ w'.cell? ⟨ad214.block, ad214.off + 2, none⟩ = some (.int .i64 (rd (rd_L1 l1 x9_2) 2))) ∧ (Kd.R (Kd.int .i64) 3 w' w.heap.size (fun _ => True) u8 x8_2) ∧ (w'.heap[gb200]? = some (.cells #[.int .i64 0, .int .i64 0, .int .i64 0, .int .i64 0, .int .i64 0, .bool false] 24 (0, 0))) ∧ (w'.heap[gb208]? = some (.cells #[.int .i64 x209000_2, .int .i64 x209001_2, .int .i64 x209002_2, .int .i64 x209003_2, .int .i64 x209004_2, .bool x209005_2] 24 (0, 0))) ∧ (w'.heap[s_]? = some (.cells #[.int .i64 0, .int .i64 0, .int .i64 0, .int .i64 0, .int .i64 0, .bool false] 24 (0, 0))) ∧ (w.heap.size ≤ s_) ∧ (w.heap.size ≤ s_) ∧ (gb200 ≠ s_) ∧ (s_ ≠ gb200) ∧ (gb208 ≠ s_) ∧ (s_ ≠ gb208) ∧ (Below w.heap.size w w')) ?_ ?_
                            rotate_left
                            · intro hCont
                              refine two_ (i := 19) (j := 23) (Ni := some 59) (Nj := some 11) #[true, true, true, true, true, true, true, true, true, true, true, true, true, true, true, true, true, true, true, true, false, false, false, false, false, false] #[true, true, true, true, true, true, true, true, true, true, true, true, true, true, true, true, true, true, true, false, false, false, false, true, false, false] rfl rfl rfl rfl (two_of HT_.out (by kernel_rfl)) (by decide) (by decide) (fun K hK => ?_) (fun K hK => ?_)
                              · skip
                                refine goes_ Try.func11 (by kernel_rfl) rfl #[.agg #[.int .i64 x209000_2, .int .i64 x209001_2, .int .i64 x209002_2, .int .i64 x209003_2, .int .i64 x209004_2, .bool x209005_2], .int .i64 (rd (rd_L1 l1 x9_2) 0), .int .i64 (rd (rd_L1 l1 x9_2) 1), .int .i64 (rd (rd_L1 l1 x9_2) 2)] (by rfl) rfl rfl (by (try simp only [List.map_toArray, List.map_cons, List.map_nil]); first | done | rfl | (simp only [List.length_drop, List.length_take]; rfl)) ?_
                                with_reducible refine (spec_StepConn.calls k2 x209000_2 x209001_2 x209002_2 x209003_2 x209004_2 x209005_2 (rd (rd_L1 l1 x9_2) 0) (rd (rd_L1 l1 x9_2) 1) (rd (rd_L1 l1 x9_2) 2) t219 t220 t221 t222 t223 t224 true _ A22.out).mono ?_
                                rintro e w26 ⟨rfl, hb⟩
                                refine ⟨_, rfl, ?_⟩
                                have n0_ := Aside0.mk (Kd.R_below (ro_ HO_8.out) hb)
                                have n1_ := Aside0.mk (blk_below (g := gb200) (o := .cells #[.int .i64 0, .int .i64 0, .int .i64 0, .int .i64 0, .int .i64 0, .bool false] 24 (0, 0)) (bl_ BK200.out) hb)
                                have n2_ := Aside0.mk (blk_below (g := gb208) (o := .cells #[.int .i64 x209000_2, .int .i64 x209001_2, .int .i64 x209002_2, .int .i64 x209003_2, .int .i64 x209004_2, .bool x209005_2] 24 (0, 0)) (bl_ BK208.out) hb)
                                have n3_ := Aside0.mk (below_step (be_ HB.out) hb)
                                clear HO_8
                                clear BK200
                                clear BK208
                                clear HB
                                have HO_8 := n0_
                                have BK200 := n1_
                                have BK208 := n2_
                                have HB := n3_
                                clear n0_ n1_ n2_ n3_
                                (try clear hb)
                                (try clear hb2)
                                (try clear hk)
                                (try clear hi)
                                refine hK.out _ _ ⟨(blk_cell BK208.out 0).trans rfl, (blk_cell BK208.out 1).trans rfl, (blk_cell BK208.out 2).trans rfl, (blk_cell BK208.out 3).trans rfl, (blk_cell BK208.out 4).trans rfl, (blk_cell BK208.out 5).trans rfl, ((HB.out.cell (World.block_lt_of_cell? w _ hw213_0)).trans hw213_0), ((HB.out.cell (World.block_lt_of_cell? w _ hw214_0)).trans hw214_0), ((HB.out.cell (World.block_lt_of_cell? w _ hw215_0)).trans hw215_0), ((HB.out.cell (World.block_lt_of_cell? w _ hw216_0)).trans hw216_0), ((HB.out.cell (World.block_lt_of_cell? w _ hw217_0)).trans hw217_0), ((HB.out.cell (World.block_lt_of_cell? w _ hw218_0)).trans hw218_0)⟩ (fun hHeld => ?_)
                                clear hK K
                                refine norm_ (a' := ?_) ?_ ?_
                                rotate_left
                                · show Act.put _ (some 59) _ = _
                                  simp only [Act.put, List.setIfInBounds_toArray, List.set_cons_zero, List.set_cons_succ, i64_w, i32_w]
                                  rfl
                                refine pure_ (i := 20) (N := some 39) (v := ?_) (a' := ?_) #[true, true, true, true, true, true, true, true, true, true, true, true, true, true, true, true, true, true, true, true, true, false, false, false, false, false] rfl rfl (any_of HT_.out (by kernel_rfl)) (fun _ _ _ h => h) (Or.inl ⟨by rfl, ?_⟩) ?_ ?_
                                rotate_left
                                · intro w'
                                  go_simp
                                  with_reducible rfl
                                rotate_left
                                · simp only [Act.put, List.setIfInBounds_toArray, List.set_cons_zero, List.set_cons_succ, i64_w, i32_w]
                                  rfl
                                refine pure_ (i := 21) (N := some 60) (v := ?_) (a' := ?_) #[true, true, true, true, true, true, true, true, true, true, true, true, true, true, true, true, true, true, true, true, true, true, false, false, false, false] rfl rfl (any_of HT_.out (by kernel_rfl)) (fun _ _ _ h => h) (Or.inl ⟨by rfl, ?_⟩) ?_ ?_
                                rotate_left
                                · intro w'
                                  go_simp
                                  with_reducible rfl
                                rotate_left
                                · simp only [Act.put, List.setIfInBounds_toArray, List.set_cons_zero, List.set_cons_succ, i64_w, i32_w]
                                  rfl
                                refine pure_ (i := 22) (N := some 61) (v := ?_) (a' := ?_) #[true, true, true, true, true, true, true, true, true, true, true, true, true, true, true, true, true, true, true, true, true, true, true, false, false, false] rfl rfl (any_of HT_.out (by kernel_rfl)) (fun _ _ _ h => h) (Or.inl ⟨by rfl, ?_⟩) ?_ ?_
                                rotate_left
                                · intro w'
                                  go_simp
                                  with_reducible rfl
                                rotate_left
                                · simp only [Act.put, List.setIfInBounds_toArray, List.set_cons_zero, List.set_cons_succ, i64_w, i32_w]
                                  rfl
                                refine one_ (i := 23) (N := some 11) #[true, true, true, true, true, true, true, true, true, true, true, true, true, true, true, true, true, true, true, true, true, true, true, true, false, false] rfl rfl (one_of HT_.out (by kernel_rfl)) (by decide) (fun K hK => ?_)
                                refine box_step ?hg (N := 11) ?hd (cs := #[.int .i64 0, .int .i64 0, .int .i64 0, .int .i64 0, .int .i64 0, .bool false]) (t := 24) ?hr ?_; (case hd => rfl); (case hg => rfl); (case hr => first | (go_simp; done) | (go_simp; rfl))
                                intro gb226 hg w27 hbox hb
                                have n0_ := Aside0.mk (Kd.R_below (ro_ HO_8.out) hb)
                                have n1_ := Aside0.mk (blk_below (g := gb200) (o := .cells #[.int .i64 0, .int .i64 0, .int .i64 0, .int .i64 0, .int .i64 0, .bool false] 24 (0, 0)) (bl_ BK200.out) hb)
                                have n2_ := Aside0.mk (blk_below (g := gb208) (o := .cells #[.int .i64 x209000_2, .int .i64 x209001_2, .int .i64 x209002_2, .int .i64 x209003_2, .int .i64 x209004_2, .bool x209005_2] 24 (0, 0)) (bl_ BK208.out) hb)
                                have n3_ := Aside0.mk (below_step (be_ HB.out) hb)
                                have n4_ := Aside0.mk (hbox)
                                have n5_ := Aside0.mk ((by rw [hg]; exact (below_size (be_ HB.out)) : w.heap.size ≤ gb226))
                                have n6_ := Aside0.mk ((by rw [hg]; exact (below_size (be_ HB.out)) : w.heap.size ≤ gb226))
                                have n7_ := Aside0.mk ((by rw [hg]; exact Nat.ne_of_lt (blk_lt (g := gb200) (o := .cells #[.int .i64 0, .int .i64 0, .int .i64 0, .int .i64 0, .int .i64 0, .bool false] 24 (0, 0)) (bl_ BK200.out)) : gb200 ≠ gb226))
                                have n8_ := Aside0.mk ((by rw [hg]; exact Nat.ne_of_gt (blk_lt (g := gb200) (o := .cells #[.int .i64 0, .int .i64 0, .int .i64 0, .int .i64 0, .int .i64 0, .bool false] 24 (0, 0)) (bl_ BK200.out)) : gb226 ≠ gb200))
                                have n9_ := Aside0.mk ((by rw [hg]; exact Nat.ne_of_lt (blk_lt (g := gb208) (o := .cells #[.int .i64 x209000_2, .int .i64 x209001_2, .int .i64 x209002_2, .int .i64 x209003_2, .int .i64 x209004_2, .bool x209005_2] 24 (0, 0)) (bl_ BK208.out)) : gb208 ≠ gb226))
                                have n10_ := Aside0.mk ((by rw [hg]; exact Nat.ne_of_gt (blk_lt (g := gb208) (o := .cells #[.int .i64 x209000_2, .int .i64 x209001_2, .int .i64 x209002_2, .int .i64 x209003_2, .int .i64 x209004_2, .bool x209005_2] 24 (0, 0)) (bl_ BK208.out)) : gb226 ≠ gb208))
                                clear HO_8
                                clear BK200
                                clear BK208
                                clear HB
                                have HO_8 := n0_
                                have BK200 := n1_
                                have BK208 := n2_
                                have HB := n3_
                                have BK226 := n4_
                                have GW226 := n5_
                                have GE226 := n6_
                                have NB200_226 := n7_
                                have NB226_200 := n8_
                                have NB208_226 := n9_
                                have NB226_208 := n10_
                                clear n0_ n1_ n2_ n3_ n4_ n5_ n6_ n7_ n8_ n9_ n10_
                                clear hb hbox hg
                                refine hK.out _ _ ⟨(blk_cell BK208.out 0).trans rfl, (blk_cell BK208.out 1).trans rfl, (blk_cell BK208.out 2).trans rfl, (blk_cell BK208.out 3).trans rfl, (blk_cell BK208.out 4).trans rfl, (blk_cell BK208.out 5).trans rfl, ((HB.out.cell (World.block_lt_of_cell? w _ hw213_0)).trans hw213_0), ((HB.out.cell (World.block_lt_of_cell? w _ hw214_0)).trans hw214_0), ((HB.out.cell (World.block_lt_of_cell? w _ hw215_0)).trans hw215_0), ((HB.out.cell (World.block_lt_of_cell? w _ hw216_0)).trans hw216_0), ((HB.out.cell (World.block_lt_of_cell? w _ hw217_0)).trans hw217_0), ((HB.out.cell (World.block_lt_of_cell? w _ hw218_0)).trans hw218_0)⟩ (fun hHeld => ?_)
                                clear hK K
                                refine norm_ (a' := ?_) ?_ ?_
                                rotate_left
                                · show Act.put _ (some 11) _ = _
                                  simp only [Act.put, List.setIfInBounds_toArray, List.set_cons_zero, List.set_cons_succ, i64_w, i32_w]
                                  rfl
                                exact norm_ (by simp only [putAll, Act.put, List.setIfInBounds_toArray, List.set_cons_zero, List.set_cons_succ]) (hCont (gb226) _ ⟨hHeld, (ro_ HO_8.out), (bl_ BK200.out), (bl_ BK208.out), (bl_ BK226.out), GW226.out, GE226.out, NB200_226.out, NB226_200.out, NB208_226.out, NB226_208.out, (be_ HB.out)⟩)
                              · skip
                                refine box_step ?hg (N := 11) ?hd (cs := #[.int .i64 0, .int .i64 0, .int .i64 0, .int .i64 0, .int .i64 0, .bool false]) (t := 24) ?hr ?_; (case hd => rfl); (case hg => rfl); (case hr => first | (go_simp; done) | (go_simp; rfl))
                                intro gb226 hg w26 hbox hb
                                have n0_ := Aside0.mk (Kd.R_below (ro_ HO_8.out) hb)
                                have n1_ := Aside0.mk (blk_below (g := gb200) (o := .cells #[.int .i64 0, .int .i64 0, .int .i64 0, .int .i64 0, .int .i64 0, .bool false] 24 (0, 0)) (bl_ BK200.out) hb)
                                have n2_ := Aside0.mk (blk_below (g := gb208) (o := .cells #[.int .i64 x209000_2, .int .i64 x209001_2, .int .i64 x209002_2, .int .i64 x209003_2, .int .i64 x209004_2, .bool x209005_2] 24 (0, 0)) (bl_ BK208.out) hb)
                                have n3_ := Aside0.mk (below_step (be_ HB.out) hb)
                                have n4_ := Aside0.mk (hbox)
                                have n5_ := Aside0.mk ((by rw [hg]; exact (below_size (be_ HB.out)) : w.heap.size ≤ gb226))
                                have n6_ := Aside0.mk ((by rw [hg]; exact (below_size (be_ HB.out)) : w.heap.size ≤ gb226))
                                have n7_ := Aside0.mk ((by rw [hg]; exact Nat.ne_of_lt (blk_lt (g := gb200) (o := .cells #[.int .i64 0, .int .i64 0, .int .i64 0, .int .i64 0, .int .i64 0, .bool false] 24 (0, 0)) (bl_ BK200.out)) : gb200 ≠ gb226))
                                have n8_ := Aside0.mk ((by rw [hg]; exact Nat.ne_of_gt (blk_lt (g := gb200) (o := .cells #[.int .i64 0, .int .i64 0, .int .i64 0, .int .i64 0, .int .i64 0, .bool false] 24 (0, 0)) (bl_ BK200.out)) : gb226 ≠ gb200))
                                have n9_ := Aside0.mk ((by rw [hg]; exact Nat.ne_of_lt (blk_lt (g := gb208) (o := .cells #[.int .i64 x209000_2, .int .i64 x209001_2, .int .i64 x209002_2, .int .i64 x209003_2, .int .i64 x209004_2, .bool x209005_2] 24 (0, 0)) (bl_ BK208.out)) : gb208 ≠ gb226))
                                have n10_ := Aside0.mk ((by rw [hg]; exact Nat.ne_of_gt (blk_lt (g := gb208) (o := .cells #[.int .i64 x209000_2, .int .i64 x209001_2, .int .i64 x209002_2, .int .i64 x209003_2, .int .i64 x209004_2, .bool x209005_2] 24 (0, 0)) (bl_ BK208.out)) : gb226 ≠ gb208))
                                clear HO_8
                                clear BK200
                                clear BK208
                                clear HB
                                have HO_8 := n0_
                                have BK200 := n1_
                                have BK208 := n2_
                                have HB := n3_
                                have BK226 := n4_
                                have GW226 := n5_
                                have GE226 := n6_
                                have NB200_226 := n7_
                                have NB226_200 := n8_
                                have NB208_226 := n9_
                                have NB226_208 := n10_
                                clear n0_ n1_ n2_ n3_ n4_ n5_ n6_ n7_ n8_ n9_ n10_
                                clear hb hbox hg
                                refine hK.out _ _ ⟨(blk_cell BK208.out 0).trans rfl, (blk_cell BK208.out 1).trans rfl, (blk_cell BK208.out 2).trans rfl, (blk_cell BK208.out 3).trans rfl, (blk_cell BK208.out 4).trans rfl, (blk_cell BK208.out 5).trans rfl, ((HB.out.cell (World.block_lt_of_cell? w _ hw213_0)).trans hw213_0), ((HB.out.cell (World.block_lt_of_cell? w _ hw214_0)).trans hw214_0), ((HB.out.cell (World.block_lt_of_cell? w _ hw215_0)).trans hw215_0), ((HB.out.cell (World.block_lt_of_cell? w _ hw216_0)).trans hw216_0), ((HB.out.cell (World.block_lt_of_cell? w _ hw217_0)).trans hw217_0), ((HB.out.cell (World.block_lt_of_cell? w _ hw218_0)).trans hw218_0)⟩ (fun hHeld => ?_)
                                clear hK K
                                refine norm_ (a' := ?_) ?_ ?_
                                rotate_left
                                · show Act.put _ (some 11) _ = _
                                  simp only [Act.put, List.setIfInBounds_toArray, List.set_cons_zero, List.set_cons_succ, i64_w, i32_w]
                                  rfl
                                refine one_ (i := 19) (N := some 59) #[true, true, true, true, true, true, true, true, true, true, true, true, true, true, true, true, true, true, true, true, false, false, false, true, false, false] rfl rfl (one_of HT_.out (by kernel_rfl)) (by decide) (fun K hK => ?_)
                                refine goes_ Try.func11 (by kernel_rfl) rfl #[.agg #[.int .i64 x209000_2, .int .i64 x209001_2, .int .i64 x209002_2, .int .i64 x209003_2, .int .i64 x209004_2, .bool x209005_2], .int .i64 (rd (rd_L1 l1 x9_2) 0), .int .i64 (rd (rd_L1 l1 x9_2) 1), .int .i64 (rd (rd_L1 l1 x9_2) 2)] (by rfl) rfl rfl (by (try simp only [List.map_toArray, List.map_cons, List.map_nil]); first | done | rfl | (simp only [List.length_drop, List.length_take]; rfl)) ?_
                                with_reducible refine (spec_StepConn.calls k2 x209000_2 x209001_2 x209002_2 x209003_2 x209004_2 x209005_2 (rd (rd_L1 l1 x9_2) 0) (rd (rd_L1 l1 x9_2) 1) (rd (rd_L1 l1 x9_2) 2) t219 t220 t221 t222 t223 t224 true _ A22.out).mono ?_
                                rintro e w27 ⟨rfl, hb⟩
                                refine ⟨_, rfl, ?_⟩
                                have n0_ := Aside0.mk (Kd.R_below (ro_ HO_8.out) hb)
                                have n1_ := Aside0.mk (blk_below (g := gb200) (o := .cells #[.int .i64 0, .int .i64 0, .int .i64 0, .int .i64 0, .int .i64 0, .bool false] 24 (0, 0)) (bl_ BK200.out) hb)
                                have n2_ := Aside0.mk (blk_below (g := gb208) (o := .cells #[.int .i64 x209000_2, .int .i64 x209001_2, .int .i64 x209002_2, .int .i64 x209003_2, .int .i64 x209004_2, .bool x209005_2] 24 (0, 0)) (bl_ BK208.out) hb)
                                have n3_ := Aside0.mk (blk_below (g := gb226) (o := .cells #[.int .i64 0, .int .i64 0, .int .i64 0, .int .i64 0, .int .i64 0, .bool false] 24 (0, 0)) (bl_ BK226.out) hb)
                                have n4_ := Aside0.mk (below_step (be_ HB.out) hb)
                                clear HO_8
                                clear BK200
                                clear BK208
                                clear BK226
                                clear HB
                                have HO_8 := n0_
                                have BK200 := n1_
                                have BK208 := n2_
                                have BK226 := n3_
                                have HB := n4_
                                clear n0_ n1_ n2_ n3_ n4_
                                (try clear hb)
                                (try clear hb2)
                                (try clear hk)
                                (try clear hi)
                                refine hK.out _ _ ⟨(blk_cell BK208.out 0).trans rfl, (blk_cell BK208.out 1).trans rfl, (blk_cell BK208.out 2).trans rfl, (blk_cell BK208.out 3).trans rfl, (blk_cell BK208.out 4).trans rfl, (blk_cell BK208.out 5).trans rfl, ((HB.out.cell (World.block_lt_of_cell? w _ hw213_0)).trans hw213_0), ((HB.out.cell (World.block_lt_of_cell? w _ hw214_0)).trans hw214_0), ((HB.out.cell (World.block_lt_of_cell? w _ hw215_0)).trans hw215_0), ((HB.out.cell (World.block_lt_of_cell? w _ hw216_0)).trans hw216_0), ((HB.out.cell (World.block_lt_of_cell? w _ hw217_0)).trans hw217_0), ((HB.out.cell (World.block_lt_of_cell? w _ hw218_0)).trans hw218_0)⟩ (fun hHeld => ?_)
                                clear hK K
                                refine norm_ (a' := ?_) ?_ ?_
                                rotate_left
                                · show Act.put _ (some 59) _ = _
                                  simp only [Act.put, List.setIfInBounds_toArray, List.set_cons_zero, List.set_cons_succ, i64_w, i32_w]
                                  rfl
                                refine pure_ (i := 20) (N := some 39) (v := ?_) (a' := ?_) #[true, true, true, true, true, true, true, true, true, true, true, true, true, true, true, true, true, true, true, true, true, false, false, true, false, false] rfl rfl (any_of HT_.out (by kernel_rfl)) (fun _ _ _ h => h) (Or.inl ⟨by rfl, ?_⟩) ?_ ?_
                                rotate_left
                                · intro w'
                                  go_simp
                                  with_reducible rfl
                                rotate_left
                                · simp only [Act.put, List.setIfInBounds_toArray, List.set_cons_zero, List.set_cons_succ, i64_w, i32_w]
                                  rfl
                                refine pure_ (i := 21) (N := some 60) (v := ?_) (a' := ?_) #[true, true, true, true, true, true, true, true, true, true, true, true, true, true, true, true, true, true, true, true, true, true, false, true, false, false] rfl rfl (any_of HT_.out (by kernel_rfl)) (fun _ _ _ h => h) (Or.inl ⟨by rfl, ?_⟩) ?_ ?_
                                rotate_left
                                · intro w'
                                  go_simp
                                  with_reducible rfl
                                rotate_left
                                · simp only [Act.put, List.setIfInBounds_toArray, List.set_cons_zero, List.set_cons_succ, i64_w, i32_w]
                                  rfl
                                refine pure_ (i := 22) (N := some 61) (v := ?_) (a' := ?_) #[true, true, true, true, true, true, true, true, true, true, true, true, true, true, true, true, true, true, true, true, true, true, true, true, false, false] rfl rfl (any_of HT_.out (by kernel_rfl)) (fun _ _ _ h => h) (Or.inl ⟨by rfl, ?_⟩) ?_ ?_
                                rotate_left
                                · intro w'
                                  go_simp
                                  with_reducible rfl
                                rotate_left
                                · simp only [Act.put, List.setIfInBounds_toArray, List.set_cons_zero, List.set_cons_succ, i64_w, i32_w]
                                  rfl
                                exact norm_ (by simp only [putAll, Act.put, List.setIfInBounds_toArray, List.set_cons_zero, List.set_cons_succ]) (hCont (gb226) _ ⟨hHeld, (ro_ HO_8.out), (bl_ BK200.out), (bl_ BK208.out), (bl_ BK226.out), GW226.out, GE226.out, NB200_226.out, NB226_200.out, NB208_226.out, NB226_208.out, (be_ HB.out)⟩)
                            rintro gb226 w28 ⟨hS_, h0_, h1_, h2_, h3_, h4_, h5_, h6_, h7_, h8_, h9_, h10_⟩
                            have n0_ : Aside0 (Kd.R (Kd.int .i64) 3 w28 w.heap.size (fun _ => True) u8 x8_2) := ⟨h0_⟩
                            have n1_ : Aside0 (w28.heap[gb200]? = some (.cells #[.int .i64 0, .int .i64 0, .int .i64 0, .int .i64 0, .int .i64 0, .bool false] 24 (0, 0))) := ⟨h1_⟩
                            have n2_ : Aside0 (w28.heap[gb208]? = some (.cells #[.int .i64 x209000_2, .int .i64 x209001_2, .int .i64 x209002_2, .int .i64 x209003_2, .int .i64 x209004_2, .bool x209005_2] 24 (0, 0))) := ⟨h2_⟩
                            have n3_ : Aside0 (w28.heap[gb226]? = some (.cells #[.int .i64 0, .int .i64 0, .int .i64 0, .int .i64 0, .int .i64 0, .bool false] 24 (0, 0))) := ⟨h3_⟩
                            have n4_ : Aside0 (w.heap.size ≤ gb226) := ⟨h4_⟩
                            have n5_ : Aside0 (w.heap.size ≤ gb226) := ⟨h5_⟩
                            have n6_ : Aside0 (gb200 ≠ gb226) := ⟨h6_⟩
                            have n7_ : Aside0 (gb226 ≠ gb200) := ⟨h7_⟩
                            have n8_ : Aside0 (gb208 ≠ gb226) := ⟨h8_⟩
                            have n9_ : Aside0 (gb226 ≠ gb208) := ⟨h9_⟩
                            have n10_ : Aside0 (Below w.heap.size w w28) := ⟨h10_⟩
                            clear HO_8
                            clear BK200
                            clear BK208
                            clear HB
                            clear h0_ h1_ h2_ h3_ h4_ h5_ h6_ h7_ h8_ h9_ h10_
                            have HO_8 := n0_
                            have BK200 := n1_
                            have BK208 := n2_
                            have BK226 := n3_
                            have GW226 := n4_
                            have GE226 := n5_
                            have NB200_226 := n6_
                            have NB226_200 := n7_
                            have NB208_226 := n8_
                            have NB226_208 := n9_
                            have HB := n10_
                            clear n0_ n1_ n2_ n3_ n4_ n5_ n6_ n7_ n8_ n9_ n10_
                            have hHeld : w28.cell? ⟨gb208, 0, none⟩ = some (.int .i64 x209000_2) ∧ w28.cell? ⟨gb208, 1, none⟩ = some (.int .i64 x209001_2) ∧ w28.cell? ⟨gb208, 2, none⟩ = some (.int .i64 x209002_2) ∧ w28.cell? ⟨gb208, 3, none⟩ = some (.int .i64 x209003_2) ∧ w28.cell? ⟨gb208, 4, none⟩ = some (.int .i64 x209004_2) ∧ w28.cell? ⟨gb208, 5, none⟩ = some (.bool x209005_2) ∧ w28.cell? (ad212.add (x9_2).toNat) = some (.slice (some ad214) (rd_L1 l1 x9_2).length c213_0) ∧ w28.cell? ad214 = some (.int .i64 (rd (rd_L1 l1 x9_2) 0)) ∧ w28.cell? (ad212.add (x9_2).toNat) = some (.slice (some ad214) (rd_L1 l1 x9_2).length c213_0) ∧ w28.cell? ⟨ad214.block, ad214.off + 1, none⟩ = some (.int .i64 (rd (rd_L1 l1 x9_2) 1)) ∧ w28.cell? (ad212.add (x9_2).toNat) = some (.slice (some ad214) (rd_L1 l1 x9_2).length c213_0) ∧ w28.cell? ⟨ad214.block, ad214.off + 2, none⟩ = some (.int .i64 (rd (rd_L1 l1 x9_2) 2)) := hS_
                            refine norm_ (a' := ?_) ?_ ?_
                            rotate_left
                            · simp only [putAll, Act.put, List.setIfInBounds_toArray, List.set_cons_zero, List.set_cons_succ]
                              rfl
                            refine one_ (i := 24) (N := none) #[true, true, true, true, true, true, true, true, true, true, true, true, true, true, true, true, true, true, true, true, true, true, true, true, true, false] rfl rfl (one_of HT_.out (by kernel_rfl)) (by decide) (fun K hK => ?_)
                            have hs29 : w28.cell? ⟨gb226, 0, none⟩ = some (.int .i64 0) := (blk_cell BK226.out 0).trans rfl
                            have hfs29 := blk_frozen BK226.out 0
                            have hns29_0 := NB200_226.out
                            have hns29_1 := NB208_226.out
                            have hms29_0 := NB226_200.out
                            have hms29_1 := NB226_208.out
                            have hs30 : w28.cell? ⟨gb226, 1, none⟩ = some (.int .i64 0) := (blk_cell BK226.out 1).trans rfl
                            have hfs30 := blk_frozen BK226.out 1
                            have hns30_0 := NB200_226.out
                            have hns30_1 := NB208_226.out
                            have hms30_0 := NB226_200.out
                            have hms30_1 := NB226_208.out
                            have hs31 : w28.cell? ⟨gb226, 2, none⟩ = some (.int .i64 0) := (blk_cell BK226.out 2).trans rfl
                            have hfs31 := blk_frozen BK226.out 2
                            have hns31_0 := NB200_226.out
                            have hns31_1 := NB208_226.out
                            have hms31_0 := NB226_200.out
                            have hms31_1 := NB226_208.out
                            have hs32 : w28.cell? ⟨gb226, 3, none⟩ = some (.int .i64 0) := (blk_cell BK226.out 3).trans rfl
                            have hfs32 := blk_frozen BK226.out 3
                            have hns32_0 := NB200_226.out
                            have hns32_1 := NB208_226.out
                            have hms32_0 := NB226_200.out
                            have hms32_1 := NB226_208.out
                            have hs33 : w28.cell? ⟨gb226, 4, none⟩ = some (.int .i64 0) := (blk_cell BK226.out 4).trans rfl
                            have hfs33 := blk_frozen BK226.out 4
                            have hns33_0 := NB200_226.out
                            have hns33_1 := NB208_226.out
                            have hms33_0 := NB226_200.out
                            have hms33_1 := NB226_208.out
                            have hs34 : w28.cell? ⟨gb226, 5, none⟩ = some (.bool false) := (blk_cell BK226.out 5).trans rfl
                            have hfs34 := blk_frozen BK226.out 5
                            have hns34_0 := NB200_226.out
                            have hns34_1 := NB208_226.out
                            have hms34_0 := NB226_200.out
                            have hms34_1 := NB226_208.out
                            refine skip_ (w1 := ?_) (by rfl) rfl ?_ ?_
                            rotate_left
                            · go_simp
                              rfl
                            refine hK.out _ _ ⟨((cell_far (p := ⟨gb226, _, none⟩) NB208_226.out _).trans (((cell_far (p := ⟨gb226, _, none⟩) NB208_226.out _).trans (((cell_far (p := ⟨gb226, _, none⟩) NB208_226.out _).trans (((cell_far (p := ⟨gb226, _, none⟩) NB208_226.out _).trans (((cell_far (p := ⟨gb226, _, none⟩) NB208_226.out _).trans (((cell_far (p := ⟨gb226, _, none⟩) NB208_226.out _).trans (hHeld.1)))))))))))), ((cell_far (p := ⟨gb226, _, none⟩) NB208_226.out _).trans (((cell_far (p := ⟨gb226, _, none⟩) NB208_226.out _).trans (((cell_far (p := ⟨gb226, _, none⟩) NB208_226.out _).trans (((cell_far (p := ⟨gb226, _, none⟩) NB208_226.out _).trans (((cell_far (p := ⟨gb226, _, none⟩) NB208_226.out _).trans (((cell_far (p := ⟨gb226, _, none⟩) NB208_226.out _).trans (hHeld.2.1)))))))))))), ((cell_far (p := ⟨gb226, _, none⟩) NB208_226.out _).trans (((cell_far (p := ⟨gb226, _, none⟩) NB208_226.out _).trans (((cell_far (p := ⟨gb226, _, none⟩) NB208_226.out _).trans (((cell_far (p := ⟨gb226, _, none⟩) NB208_226.out _).trans (((cell_far (p := ⟨gb226, _, none⟩) NB208_226.out _).trans (((cell_far (p := ⟨gb226, _, none⟩) NB208_226.out _).trans (hHeld.2.2.1)))))))))))), ((cell_far (p := ⟨gb226, _, none⟩) NB208_226.out _).trans (((cell_far (p := ⟨gb226, _, none⟩) NB208_226.out _).trans (((cell_far (p := ⟨gb226, _, none⟩) NB208_226.out _).trans (((cell_far (p := ⟨gb226, _, none⟩) NB208_226.out _).trans (((cell_far (p := ⟨gb226, _, none⟩) NB208_226.out _).trans (((cell_far (p := ⟨gb226, _, none⟩) NB208_226.out _).trans (hHeld.2.2.2.1)))))))))))), ((cell_far (p := ⟨gb226, _, none⟩) NB208_226.out _).trans (((cell_far (p := ⟨gb226, _, none⟩) NB208_226.out _).trans (((cell_far (p := ⟨gb226, _, none⟩) NB208_226.out _).trans (((cell_far (p := ⟨gb226, _, none⟩) NB208_226.out _).trans (((cell_far (p := ⟨gb226, _, none⟩) NB208_226.out _).trans (((cell_far (p := ⟨gb226, _, none⟩) NB208_226.out _).trans (hHeld.2.2.2.2.1)))))))))))), ((cell_far (p := ⟨gb226, _, none⟩) NB208_226.out _).trans (((cell_far (p := ⟨gb226, _, none⟩) NB208_226.out _).trans (((cell_far (p := ⟨gb226, _, none⟩) NB208_226.out _).trans (((cell_far (p := ⟨gb226, _, none⟩) NB208_226.out _).trans (((cell_far (p := ⟨gb226, _, none⟩) NB208_226.out _).trans (((cell_far (p := ⟨gb226, _, none⟩) NB208_226.out _).trans (hHeld.2.2.2.2.2.1)))))))))))), ((cell_far (p := ⟨gb226, _, none⟩) (by first | exact Nat.ne_of_lt (Nat.lt_of_lt_of_le (by have := World.block_lt_of_cell? _ _ hw213_0; first | rwa [add_block] at this | exact this) GW226.out) | (rw [add_block]; exact Nat.ne_of_lt (Nat.lt_of_lt_of_le (by have := World.block_lt_of_cell? _ _ hw213_0; first | rwa [add_block] at this | exact this) GW226.out)) | (show (Addr.add _ _).block ≠ _; rw [add_block]; exact Nat.ne_of_lt (Nat.lt_of_lt_of_le (by have := World.block_lt_of_cell? _ _ hw213_0; first | rwa [add_block] at this | exact this) GW226.out)) | (dsimp only; exact Nat.ne_of_lt (Nat.lt_of_lt_of_le (by have := World.block_lt_of_cell? _ _ hw213_0; first | rwa [add_block] at this | exact this) GW226.out))) _).trans (((cell_far (p := ⟨gb226, _, none⟩) (by first | exact Nat.ne_of_lt (Nat.lt_of_lt_of_le (by have := World.block_lt_of_cell? _ _ hw213_0; first | rwa [add_block] at this | exact this) GW226.out) | (rw [add_block]; exact Nat.ne_of_lt (Nat.lt_of_lt_of_le (by have := World.block_lt_of_cell? _ _ hw213_0; first | rwa [add_block] at this | exact this) GW226.out)) | (show (Addr.add _ _).block ≠ _; rw [add_block]; exact Nat.ne_of_lt (Nat.lt_of_lt_of_le (by have := World.block_lt_of_cell? _ _ hw213_0; first | rwa [add_block] at this | exact this) GW226.out)) | (dsimp only; exact Nat.ne_of_lt (Nat.lt_of_lt_of_le (by have := World.block_lt_of_cell? _ _ hw213_0; first | rwa [add_block] at this | exact this) GW226.out))) _).trans (((cell_far (p := ⟨gb226, _, none⟩) (by first | exact Nat.ne_of_lt (Nat.lt_of_lt_of_le (by have := World.block_lt_of_cell? _ _ hw213_0; first | rwa [add_block] at this | exact this) GW226.out) | (rw [add_block]; exact Nat.ne_of_lt (Nat.lt_of_lt_of_le (by have := World.block_lt_of_cell? _ _ hw213_0; first | rwa [add_block] at this | exact this) GW226.out)) | (show (Addr.add _ _).block ≠ _; rw [add_block]; exact Nat.ne_of_lt (Nat.lt_of_lt_of_le (by have := World.block_lt_of_cell? _ _ hw213_0; first | rwa [add_block] at this | exact this) GW226.out)) | (dsimp only; exact Nat.ne_of_lt (Nat.lt_of_lt_of_le (by have := World.block_lt_of_cell? _ _ hw213_0; first | rwa [add_block] at this | exact this) GW226.out))) _).trans (((cell_far (p := ⟨gb226, _, none⟩) (by first | exact Nat.ne_of_lt (Nat.lt_of_lt_of_le (by have := World.block_lt_of_cell? _ _ hw213_0; first | rwa [add_block] at this | exact this) GW226.out) | (rw [add_block]; exact Nat.ne_of_lt (Nat.lt_of_lt_of_le (by have := World.block_lt_of_cell? _ _ hw213_0; first | rwa [add_block] at this | exact this) GW226.out)) | (show (Addr.add _ _).block ≠ _; rw [add_block]; exact Nat.ne_of_lt (Nat.lt_of_lt_of_le (by have := World.block_lt_of_cell? _ _ hw213_0; first | rwa [add_block] at this | exact this) GW226.out)) | (dsimp only; exact Nat.ne_of_lt (Nat.lt_of_lt_of_le (by have := World.block_lt_of_cell? _ _ hw213_0; first | rwa [add_block] at this | exact this) GW226.out))) _).trans (((cell_far (p := ⟨gb226, _, none⟩) (by first | exact Nat.ne_of_lt (Nat.lt_of_lt_of_le (by have := World.block_lt_of_cell? _ _ hw213_0; first | rwa [add_block] at this | exact this) GW226.out) | (rw [add_block]; exact Nat.ne_of_lt (Nat.lt_of_lt_of_le (by have := World.block_lt_of_cell? _ _ hw213_0; first | rwa [add_block] at this | exact this) GW226.out)) | (show (Addr.add _ _).block ≠ _; rw [add_block]; exact Nat.ne_of_lt (Nat.lt_of_lt_of_le (by have := World.block_lt_of_cell? _ _ hw213_0; first | rwa [add_block] at this | exact this) GW226.out)) | (dsimp only; exact Nat.ne_of_lt (Nat.lt_of_lt_of_le (by have := World.block_lt_of_cell? _ _ hw213_0; first | rwa [add_block] at this | exact this) GW226.out))) _).trans (((cell_far (p := ⟨gb226, _, none⟩) (by first | exact Nat.ne_of_lt (Nat.lt_of_lt_of_le (by have := World.block_lt_of_cell? _ _ hw213_0; first | rwa [add_block] at this | exact this) GW226.out) | (rw [add_block]; exact Nat.ne_of_lt (Nat.lt_of_lt_of_le (by have := World.block_lt_of_cell? _ _ hw213_0; first | rwa [add_block] at this | exact this) GW226.out)) | (show (Addr.add _ _).block ≠ _; rw [add_block]; exact Nat.ne_of_lt (Nat.lt_of_lt_of_le (by have := World.block_lt_of_cell? _ _ hw213_0; first | rwa [add_block] at this | exact this) GW226.out)) | (dsimp only; exact Nat.ne_of_lt (Nat.lt_of_lt_of_le (by have := World.block_lt_of_cell? _ _ hw213_0; first | rwa [add_block] at this | exact this) GW226.out))) _).trans (hHeld.2.2.2.2.2.2.1)))))))))))), ((cell_far (p := ⟨gb226, _, none⟩) (by first | exact Nat.ne_of_lt (Nat.lt_of_lt_of_le (by have := World.block_lt_of_cell? _ _ hw214_0; first | rwa [add_block] at this | exact this) GW226.out) | (rw [add_block]; exact Nat.ne_of_lt (Nat.lt_of_lt_of_le (by have := World.block_lt_of_cell? _ _ hw214_0; first | rwa [add_block] at this | exact this) GW226.out)) | (show (Addr.add _ _).block ≠ _; rw [add_block]; exact Nat.ne_of_lt (Nat.lt_of_lt_of_le (by have := World.block_lt_of_cell? _ _ hw214_0; first | rwa [add_block] at this | exact this) GW226.out)) | (dsimp only; exact Nat.ne_of_lt (Nat.lt_of_lt_of_le (by have := World.block_lt_of_cell? _ _ hw214_0; first | rwa [add_block] at this | exact this) GW226.out))) _).trans (((cell_far (p := ⟨gb226, _, none⟩) (by first | exact Nat.ne_of_lt (Nat.lt_of_lt_of_le (by have := World.block_lt_of_cell? _ _ hw214_0; first | rwa [add_block] at this | exact this) GW226.out) | (rw [add_block]; exact Nat.ne_of_lt (Nat.lt_of_lt_of_le (by have := World.block_lt_of_cell? _ _ hw214_0; first | rwa [add_block] at this | exact this) GW226.out)) | (show (Addr.add _ _).block ≠ _; rw [add_block]; exact Nat.ne_of_lt (Nat.lt_of_lt_of_le (by have := World.block_lt_of_cell? _ _ hw214_0; first | rwa [add_block] at this | exact this) GW226.out)) | (dsimp only; exact Nat.ne_of_lt (Nat.lt_of_lt_of_le (by have := World.block_lt_of_cell? _ _ hw214_0; first | rwa [add_block] at this | exact this) GW226.out))) _).trans (((cell_far (p := ⟨gb226, _, none⟩) (by first | exact Nat.ne_of_lt (Nat.lt_of_lt_of_le (by have := World.block_lt_of_cell? _ _ hw214_0; first | rwa [add_block] at this | exact this) GW226.out) | (rw [add_block]; exact Nat.ne_of_lt (Nat.lt_of_lt_of_le (by have := World.block_lt_of_cell? _ _ hw214_0; first | rwa [add_block] at this | exact this) GW226.out)) | (show (Addr.add _ _).block ≠ _; rw [add_block]; exact Nat.ne_of_lt (Nat.lt_of_lt_of_le (by have := World.block_lt_of_cell? _ _ hw214_0; first | rwa [add_block] at this | exact this) GW226.out)) | (dsimp only; exact Nat.ne_of_lt (Nat.lt_of_lt_of_le (by have := World.block_lt_of_cell? _ _ hw214_0; first | rwa [add_block] at this | exact this) GW226.out))) _).trans (((cell_far (p := ⟨gb226, _, none⟩) (by first | exact Nat.ne_of_lt (Nat.lt_of_lt_of_le (by have := World.block_lt_of_cell? _ _ hw214_0; first | rwa [add_block] at this | exact this) GW226.out) | (rw [add_block]; exact Nat.ne_of_lt (Nat.lt_of_lt_of_le (by have := World.block_lt_of_cell? _ _ hw214_0; first | rwa [add_block] at this | exact this) GW226.out)) | (show (Addr.add _ _).block ≠ _; rw [add_block]; exact Nat.ne_of_lt (Nat.lt_of_lt_of_le (by have := World.block_lt_of_cell? _ _ hw214_0; first | rwa [add_block] at this | exact this) GW226.out)) | (dsimp only; exact Nat.ne_of_lt (Nat.lt_of_lt_of_le (by have := World.block_lt_of_cell? _ _ hw214_0; first | rwa [add_block] at this | exact this) GW226.out))) _).trans (((cell_far (p := ⟨gb226, _, none⟩) (by first | exact Nat.ne_of_lt (Nat.lt_of_lt_of_le (by have := World.block_lt_of_cell? _ _ hw214_0; first | rwa [add_block] at this | exact this) GW226.out) | (rw [add_block]; exact Nat.ne_of_lt (Nat.lt_of_lt_of_le (by have := World.block_lt_of_cell? _ _ hw214_0; first | rwa [add_block] at this | exact this) GW226.out)) | (show (Addr.add _ _).block ≠ _; rw [add_block]; exact Nat.ne_of_lt (Nat.lt_of_lt_of_le (by have := World.block_lt_of_cell? _ _ hw214_0; first | rwa [add_block] at this | exact this) GW226.out)) | (dsimp only; exact Nat.ne_of_lt (Nat.lt_of_lt_of_le (by have := World.block_lt_of_cell? _ _ hw214_0; first | rwa [add_block] at this | exact this) GW226.out))) _).trans (((cell_far (p := ⟨gb226, _, none⟩) (by first | exact Nat.ne_of_lt (Nat.lt_of_lt_of_le (by have := World.block_lt_of_cell? _ _ hw214_0; first | rwa [add_block] at this | exact this) GW226.out) | (rw [add_block]; exact Nat.ne_of_lt (Nat.lt_of_lt_of_le (by have := World.block_lt_of_cell? _ _ hw214_0; first | rwa [add_block] at this | exact this) GW226.out)) | (show (Addr.add _ _).block ≠ _; rw [add_block]; exact Nat.ne_of_lt (Nat.lt_of_lt_of_le (by have := World.block_lt_of_cell? _ _ hw214_0; first | rwa [add_block] at this | exact this) GW226.out)) | (dsimp only; exact Nat.ne_of_lt (Nat.lt_of_lt_of_le (by have := World.block_lt_of_cell? _ _ hw214_0; first | rwa [add_block] at this | exact this) GW226.out))) _).trans (hHeld.2.2.2.2.2.2.2.1)))))))))))), ((cell_far (p := ⟨gb226, _, none⟩) (by first | exact Nat.ne_of_lt (Nat.lt_of_lt_of_le (by have := World.block_lt_of_cell? _ _ hw215_0; first | rwa [add_block] at this | exact this) GW226.out) | (rw [add_block]; exact Nat.ne_of_lt (Nat.lt_of_lt_of_le (by have := World.block_lt_of_cell? _ _ hw215_0; first | rwa [add_block] at this | exact this) GW226.out)) | (show (Addr.add _ _).block ≠ _; rw [add_block]; exact Nat.ne_of_lt (Nat.lt_of_lt_of_le (by have := World.block_lt_of_cell? _ _ hw215_0; first | rwa [add_block] at this | exact this) GW226.out)) | (dsimp only; exact Nat.ne_of_lt (Nat.lt_of_lt_of_le (by have := World.block_lt_of_cell? _ _ hw215_0; first | rwa [add_block] at this | exact this) GW226.out))) _).trans (((cell_far (p := ⟨gb226, _, none⟩) (by first | exact Nat.ne_of_lt (Nat.lt_of_lt_of_le (by have := World.block_lt_of_cell? _ _ hw215_0; first | rwa [add_block] at this | exact this) GW226.out) | (rw [add_block]; exact Nat.ne_of_lt (Nat.lt_of_lt_of_le (by have := World.block_lt_of_cell? _ _ hw215_0; first | rwa [add_block] at this | exact this) GW226.out)) | (show (Addr.add _ _).block ≠ _; rw [add_block]; exact Nat.ne_of_lt (Nat.lt_of_lt_of_le (by have := World.block_lt_of_cell? _ _ hw215_0; first | rwa [add_block] at this | exact this) GW226.out)) | (dsimp only; exact Nat.ne_of_lt (Nat.lt_of_lt_of_le (by have := World.block_lt_of_cell? _ _ hw215_0; first | rwa [add_block] at this | exact this) GW226.out))) _).trans (((cell_far (p := ⟨gb226, _, none⟩) (by first | exact Nat.ne_of_lt (Nat.lt_of_lt_of_le (by have := World.block_lt_of_cell? _ _ hw215_0; first | rwa [add_block] at this | exact this) GW226.out) | (rw [add_block]; exact Nat.ne_of_lt (Nat.lt_of_lt_of_le (by have := World.block_lt_of_cell? _ _ hw215_0; first | rwa [add_block] at this | exact this) GW226.out)) | (show (Addr.add _ _).block ≠ _; rw [add_block]; exact Nat.ne_of_lt (Nat.lt_of_lt_of_le (by have := World.block_lt_of_cell? _ _ hw215_0; first | rwa [add_block] at this | exact this) GW226.out)) | (dsimp only; exact Nat.ne_of_lt (Nat.lt_of_lt_of_le (by have := World.block_lt_of_cell? _ _ hw215_0; first | rwa [add_block] at this | exact this) GW226.out))) _).trans (((cell_far (p := ⟨gb226, _, none⟩) (by first | exact Nat.ne_of_lt (Nat.lt_of_lt_of_le (by have := World.block_lt_of_cell? _ _ hw215_0; first | rwa [add_block] at this | exact this) GW226.out) | (rw [add_block]; exact Nat.ne_of_lt (Nat.lt_of_lt_of_le (by have := World.block_lt_of_cell? _ _ hw215_0; first | rwa [add_block] at this | exact this) GW226.out)) | (show (Addr.add _ _).block ≠ _; rw [add_block]; exact Nat.ne_of_lt (Nat.lt_of_lt_of_le (by have := World.block_lt_of_cell? _ _ hw215_0; first | rwa [add_block] at this | exact this) GW226.out)) | (dsimp only; exact Nat.ne_of_lt (Nat.lt_of_lt_of_le (by have := World.block_lt_of_cell? _ _ hw215_0; first | rwa [add_block] at this | exact this) GW226.out))) _).trans (((cell_far (p := ⟨gb226, _, none⟩) (by first | exact Nat.ne_of_lt (Nat.lt_of_lt_of_le (by have := World.block_lt_of_cell? _ _ hw215_0; first | rwa [add_block] at this | exact this) GW226.out) | (rw [add_block]; exact Nat.ne_of_lt (Nat.lt_of_lt_of_le (by have := World.block_lt_of_cell? _ _ hw215_0; first | rwa [add_block] at this | exact this) GW226.out)) | (show (Addr.add _ _).block ≠ _; rw [add_block]; exact Nat.ne_of_lt (Nat.lt_of_lt_of_le (by have := World.block_lt_of_cell? _ _ hw215_0; first | rwa [add_block] at this | exact this) GW226.out)) | (dsimp only; exact Nat.ne_of_lt (Nat.lt_of_lt_of_le (by have := World.block_lt_of_cell? _ _ hw215_0; first | rwa [add_block] at this | exact this) GW226.out))) _).trans (((cell_far (p := ⟨gb226, _, none⟩) (by first | exact Nat.ne_of_lt (Nat.lt_of_lt_of_le (by have := World.block_lt_of_cell? _ _ hw215_0; first | rwa [add_block] at this | exact this) GW226.out) | (rw [add_block]; exact Nat.ne_of_lt (Nat.lt_of_lt_of_le (by have := World.block_lt_of_cell? _ _ hw215_0; first | rwa [add_block] at this | exact this) GW226.out)) | (show (Addr.add _ _).block ≠ _; rw [add_block]; exact Nat.ne_of_lt (Nat.lt_of_lt_of_le (by have := World.block_lt_of_cell? _ _ hw215_0; first | rwa [add_block] at this | exact this) GW226.out)) | (dsimp only; exact Nat.ne_of_lt (Nat.lt_of_lt_of_le (by have := World.block_lt_of_cell? _ _ hw215_0; first | rwa [add_block] at this | exact this) GW226.out))) _).trans (hHeld.2.2.2.2.2.2.2.2.1)))))))))))), ((cell_far (p := ⟨gb226, _, none⟩) (by first | exact Nat.ne_of_lt (Nat.lt_of_lt_of_le (by have := World.block_lt_of_cell? _ _ hw216_0; first | rwa [add_block] at this | exact this) GW226.out) | (rw [add_block]; exact Nat.ne_of_lt (Nat.lt_of_lt_of_le (by have := World.block_lt_of_cell? _ _ hw216_0; first | rwa [add_block] at this | exact this) GW226.out)) | (show (Addr.add _ _).block ≠ _; rw [add_block]; exact Nat.ne_of_lt (Nat.lt_of_lt_of_le (by have := World.block_lt_of_cell? _ _ hw216_0; first | rwa [add_block] at this | exact this) GW226.out)) | (dsimp only; exact Nat.ne_of_lt (Nat.lt_of_lt_of_le (by have := World.block_lt_of_cell? _ _ hw216_0; first | rwa [add_block] at this | exact this) GW226.out))) _).trans (((cell_far (p := ⟨gb226, _, none⟩) (by first | exact Nat.ne_of_lt (Nat.lt_of_lt_of_le (by have := World.block_lt_of_cell? _ _ hw216_0; first | rwa [add_block] at this | exact this) GW226.out) | (rw [add_block]; exact Nat.ne_of_lt (Nat.lt_of_lt_of_le (by have := World.block_lt_of_cell? _ _ hw216_0; first | rwa [add_block] at this | exact this) GW226.out)) | (show (Addr.add _ _).block ≠ _; rw [add_block]; exact Nat.ne_of_lt (Nat.lt_of_lt_of_le (by have := World.block_lt_of_cell? _ _ hw216_0; first | rwa [add_block] at this | exact this) GW226.out)) | (dsimp only; exact Nat.ne_of_lt (Nat.lt_of_lt_of_le (by have := World.block_lt_of_cell? _ _ hw216_0; first | rwa [add_block] at this | exact this) GW226.out))) _).trans (((cell_far (p := ⟨gb226, _, none⟩) (by first | exact Nat.ne_of_lt (Nat.lt_of_lt_of_le (by have := World.block_lt_of_cell? _ _ hw216_0; first | rwa [add_block] at this | exact this) GW226.out) | (rw [add_block]; exact Nat.ne_of_lt (Nat.lt_of_lt_of_le (by have := World.block_lt_of_cell? _ _ hw216_0; first | rwa [add_block] at this | exact this) GW226.out)) | (show (Addr.add _ _).block ≠ _; rw [add_block]; exact Nat.ne_of_lt (Nat.lt_of_lt_of_le (by have := World.block_lt_of_cell? _ _ hw216_0; first | rwa [add_block] at this | exact this) GW226.out)) | (dsimp only; exact Nat.ne_of_lt (Nat.lt_of_lt_of_le (by have := World.block_lt_of_cell? _ _ hw216_0; first | rwa [add_block] at this | exact this) GW226.out))) _).trans (((cell_far (p := ⟨gb226, _, none⟩) (by first | exact Nat.ne_of_lt (Nat.lt_of_lt_of_le (by have := World.block_lt_of_cell? _ _ hw216_0; first | rwa [add_block] at this | exact this) GW226.out) | (rw [add_block]; exact Nat.ne_of_lt (Nat.lt_of_lt_of_le (by have := World.block_lt_of_cell? _ _ hw216_0; first | rwa [add_block] at this | exact this) GW226.out)) | (show (Addr.add _ _).block ≠ _; rw [add_block]; exact Nat.ne_of_lt (Nat.lt_of_lt_of_le (by have := World.block_lt_of_cell? _ _ hw216_0; first | rwa [add_block] at this | exact this) GW226.out)) | (dsimp only; exact Nat.ne_of_lt (Nat.lt_of_lt_of_le (by have := World.block_lt_of_cell? _ _ hw216_0; first | rwa [add_block] at this | exact this) GW226.out))) _).trans (((cell_far (p := ⟨gb226, _, none⟩) (by first | exact Nat.ne_of_lt (Nat.lt_of_lt_of_le (by have := World.block_lt_of_cell? _ _ hw216_0; first | rwa [add_block] at this | exact this) GW226.out) | (rw [add_block]; exact Nat.ne_of_lt (Nat.lt_of_lt_of_le (by have := World.block_lt_of_cell? _ _ hw216_0; first | rwa [add_block] at this | exact this) GW226.out)) | (show (Addr.add _ _).block ≠ _; rw [add_block]; exact Nat.ne_of_lt (Nat.lt_of_lt_of_le (by have := World.block_lt_of_cell? _ _ hw216_0; first | rwa [add_block] at this | exact this) GW226.out)) | (dsimp only; exact Nat.ne_of_lt (Nat.lt_of_lt_of_le (by have := World.block_lt_of_cell? _ _ hw216_0; first | rwa [add_block] at this | exact this) GW226.out))) _).trans (((cell_far (p := ⟨gb226, _, none⟩) (by first | exact Nat.ne_of_lt (Nat.lt_of_lt_of_le (by have := World.block_lt_of_cell? _ _ hw216_0; first | rwa [add_block] at this | exact this) GW226.out) | (rw [add_block]; exact Nat.ne_of_lt (Nat.lt_of_lt_of_le (by have := World.block_lt_of_cell? _ _ hw216_0; first | rwa [add_block] at this | exact this) GW226.out)) | (show (Addr.add _ _).block ≠ _; rw [add_block]; exact Nat.ne_of_lt (Nat.lt_of_lt_of_le (by have := World.block_lt_of_cell? _ _ hw216_0; first | rwa [add_block] at this | exact this) GW226.out)) | (dsimp only; exact Nat.ne_of_lt (Nat.lt_of_lt_of_le (by have := World.block_lt_of_cell? _ _ hw216_0; first | rwa [add_block] at this | exact this) GW226.out))) _).trans (hHeld.2.2.2.2.2.2.2.2.2.1)))))))))))), ((cell_far (p := ⟨gb226, _, none⟩) (by first | exact Nat.ne_of_lt (Nat.lt_of_lt_of_le (by have := World.block_lt_of_cell? _ _ hw217_0; first | rwa [add_block] at this | exact this) GW226.out) | (rw [add_block]; exact Nat.ne_of_lt (Nat.lt_of_lt_of_le (by have := World.block_lt_of_cell? _ _ hw217_0; first | rwa [add_block] at this | exact this) GW226.out)) | (show (Addr.add _ _).block ≠ _; rw [add_block]; exact Nat.ne_of_lt (Nat.lt_of_lt_of_le (by have := World.block_lt_of_cell? _ _ hw217_0; first | rwa [add_block] at this | exact this) GW226.out)) | (dsimp only; exact Nat.ne_of_lt (Nat.lt_of_lt_of_le (by have := World.block_lt_of_cell? _ _ hw217_0; first | rwa [add_block] at this | exact this) GW226.out))) _).trans (((cell_far (p := ⟨gb226, _, none⟩) (by first | exact Nat.ne_of_lt (Nat.lt_of_lt_of_le (by have := World.block_lt_of_cell? _ _ hw217_0; first | rwa [add_block] at this | exact this) GW226.out) | (rw [add_block]; exact Nat.ne_of_lt (Nat.lt_of_lt_of_le (by have := World.block_lt_of_cell? _ _ hw217_0; first | rwa [add_block] at this | exact this) GW226.out)) | (show (Addr.add _ _).block ≠ _; rw [add_block]; exact Nat.ne_of_lt (Nat.lt_of_lt_of_le (by have := World.block_lt_of_cell? _ _ hw217_0; first | rwa [add_block] at this | exact this) GW226.out)) | (dsimp only; exact Nat.ne_of_lt (Nat.lt_of_lt_of_le (by have := World.block_lt_of_cell? _ _ hw217_0; first | rwa [add_block] at this | exact this) GW226.out))) _).trans (((cell_far (p := ⟨gb226, _, none⟩) (by first | exact Nat.ne_of_lt (Nat.lt_of_lt_of_le (by have := World.block_lt_of_cell? _ _ hw217_0; first | rwa [add_block] at this | exact this) GW226.out) | (rw [add_block]; exact Nat.ne_of_lt (Nat.lt_of_lt_of_le (by have := World.block_lt_of_cell? _ _ hw217_0; first | rwa [add_block] at this | exact this) GW226.out)) | (show (Addr.add _ _).block ≠ _; rw [add_block]; exact Nat.ne_of_lt (Nat.lt_of_lt_of_le (by have := World.block_lt_of_cell? _ _ hw217_0; first | rwa [add_block] at this | exact this) GW226.out)) | (dsimp only; exact Nat.ne_of_lt (Nat.lt_of_lt_of_le (by have := World.block_lt_of_cell? _ _ hw217_0; first | rwa [add_block] at this | exact this) GW226.out))) _).trans (((cell_far (p := ⟨gb226, _, none⟩) (by first | exact Nat.ne_of_lt (Nat.lt_of_lt_of_le (by have := World.block_lt_of_cell? _ _ hw217_0; first | rwa [add_block] at this | exact this) GW226.out) | (rw [add_block]; exact Nat.ne_of_lt (Nat.lt_of_lt_of_le (by have := World.block_lt_of_cell? _ _ hw217_0; first | rwa [add_block] at this | exact this) GW226.out)) | (show (Addr.add _ _).block ≠ _; rw [add_block]; exact Nat.ne_of_lt (Nat.lt_of_lt_of_le (by have := World.block_lt_of_cell? _ _ hw217_0; first | rwa [add_block] at this | exact this) GW226.out)) | (dsimp only; exact Nat.ne_of_lt (Nat.lt_of_lt_of_le (by have := World.block_lt_of_cell? _ _ hw217_0; first | rwa [add_block] at this | exact this) GW226.out))) _).trans (((cell_far (p := ⟨gb226, _, none⟩) (by first | exact Nat.ne_of_lt (Nat.lt_of_lt_of_le (by have := World.block_lt_of_cell? _ _ hw217_0; first | rwa [add_block] at this | exact this) GW226.out) | (rw [add_block]; exact Nat.ne_of_lt (Nat.lt_of_lt_of_le (by have := World.block_lt_of_cell? _ _ hw217_0; first | rwa [add_block] at this | exact this) GW226.out)) | (show (Addr.add _ _).block ≠ _; rw [add_block]; exact Nat.ne_of_lt (Nat.lt_of_lt_of_le (by have := World.block_lt_of_cell? _ _ hw217_0; first | rwa [add_block] at this | exact this) GW226.out)) | (dsimp only; exact Nat.ne_of_lt (Nat.lt_of_lt_of_le (by have := World.block_lt_of_cell? _ _ hw217_0; first | rwa [add_block] at this | exact this) GW226.out))) _).trans (((cell_far (p := ⟨gb226, _, none⟩) (by first | exact Nat.ne_of_lt (Nat.lt_of_lt_of_le (by have := World.block_lt_of_cell? _ _ hw217_0; first | rwa [add_block] at this | exact this) GW226.out) | (rw [add_block]; exact Nat.ne_of_lt (Nat.lt_of_lt_of_le (by have := World.block_lt_of_cell? _ _ hw217_0; first | rwa [add_block] at this | exact this) GW226.out)) | (show (Addr.add _ _).block ≠ _; rw [add_block]; exact Nat.ne_of_lt (Nat.lt_of_lt_of_le (by have := World.block_lt_of_cell? _ _ hw217_0; first | rwa [add_block] at this | exact this) GW226.out)) | (dsimp only; exact Nat.ne_of_lt (Nat.lt_of_lt_of_le (by have := World.block_lt_of_cell? _ _ hw217_0; first | rwa [add_block] at this | exact this) GW226.out))) _).trans (hHeld.2.2.2.2.2.2.2.2.2.2.1)))))))))))), ((cell_far (p := ⟨gb226, _, none⟩) (by first | exact Nat.ne_of_lt (Nat.lt_of_lt_of_le (by have := World.block_lt_of_cell? _ _ hw218_0; first | rwa [add_block] at this | exact this) GW226.out) | (rw [add_block]; exact Nat.ne_of_lt (Nat.lt_of_lt_of_le (by have := World.block_lt_of_cell? _ _ hw218_0; first | rwa [add_block] at this | exact this) GW226.out)) | (show (Addr.add _ _).block ≠ _; rw [add_block]; exact Nat.ne_of_lt (Nat.lt_of_lt_of_le (by have := World.block_lt_of_cell? _ _ hw218_0; first | rwa [add_block] at this | exact this) GW226.out)) | (dsimp only; exact Nat.ne_of_lt (Nat.lt_of_lt_of_le (by have := World.block_lt_of_cell? _ _ hw218_0; first | rwa [add_block] at this | exact this) GW226.out))) _).trans (((cell_far (p := ⟨gb226, _, none⟩) (by first | exact Nat.ne_of_lt (Nat.lt_of_lt_of_le (by have := World.block_lt_of_cell? _ _ hw218_0; first | rwa [add_block] at this | exact this) GW226.out) | (rw [add_block]; exact Nat.ne_of_lt (Nat.lt_of_lt_of_le (by have := World.block_lt_of_cell? _ _ hw218_0; first | rwa [add_block] at this | exact this) GW226.out)) | (show (Addr.add _ _).block ≠ _; rw [add_block]; exact Nat.ne_of_lt (Nat.lt_of_lt_of_le (by have := World.block_lt_of_cell? _ _ hw218_0; first | rwa [add_block] at this | exact this) GW226.out)) | (dsimp only; exact Nat.ne_of_lt (Nat.lt_of_lt_of_le (by have := World.block_lt_of_cell? _ _ hw218_0; first | rwa [add_block] at this | exact this) GW226.out))) _).trans (((cell_far (p := ⟨gb226, _, none⟩) (by first | exact Nat.ne_of_lt (Nat.lt_of_lt_of_le (by have := World.block_lt_of_cell? _ _ hw218_0; first | rwa [add_block] at this | exact this) GW226.out) | (rw [add_block]; exact Nat.ne_of_lt (Nat.lt_of_lt_of_le (by have := World.block_lt_of_cell? _ _ hw218_0; first | rwa [add_block] at this | exact this) GW226.out)) | (show (Addr.add _ _).block ≠ _; rw [add_block]; exact Nat.ne_of_lt (Nat.lt_of_lt_of_le (by have := World.block_lt_of_cell? _ _ hw218_0; first | rwa [add_block] at this | exact this) GW226.out)) | (dsimp only; exact Nat.ne_of_lt (Nat.lt_of_lt_of_le (by have := World.block_lt_of_cell? _ _ hw218_0; first | rwa [add_block] at this | exact this) GW226.out))) _).trans (((cell_far (p := ⟨gb226, _, none⟩) (by first | exact Nat.ne_of_lt (Nat.lt_of_lt_of_le (by have := World.block_lt_of_cell? _ _ hw218_0; first | rwa [add_block] at this | exact this) GW226.out) | (rw [add_block]; exact Nat.ne_of_lt (Nat.lt_of_lt_of_le (by have := World.block_lt_of_cell? _ _ hw218_0; first | rwa [add_block] at this | exact this) GW226.out)) | (show (Addr.add _ _).block ≠ _; rw [add_block]; exact Nat.ne_of_lt (Nat.lt_of_lt_of_le (by have := World.block_lt_of_cell? _ _ hw218_0; first | rwa [add_block] at this | exact this) GW226.out)) | (dsimp only; exact Nat.ne_of_lt (Nat.lt_of_lt_of_le (by have := World.block_lt_of_cell? _ _ hw218_0; first | rwa [add_block] at this | exact this) GW226.out))) _).trans (((cell_far (p := ⟨gb226, _, none⟩) (by first | exact Nat.ne_of_lt (Nat.lt_of_lt_of_le (by have := World.block_lt_of_cell? _ _ hw218_0; first | rwa [add_block] at this | exact this) GW226.out) | (rw [add_block]; exact Nat.ne_of_lt (Nat.lt_of_lt_of_le (by have := World.block_lt_of_cell? _ _ hw218_0; first | rwa [add_block] at this | exact this) GW226.out)) | (show (Addr.add _ _).block ≠ _; rw [add_block]; exact Nat.ne_of_lt (Nat.lt_of_lt_of_le (by have := World.block_lt_of_cell? _ _ hw218_0; first | rwa [add_block] at this | exact this) GW226.out)) | (dsimp only; exact Nat.ne_of_lt (Nat.lt_of_lt_of_le (by have := World.block_lt_of_cell? _ _ hw218_0; first | rwa [add_block] at this | exact this) GW226.out))) _).trans (((cell_far (p := ⟨gb226, _, none⟩) (by first | exact Nat.ne_of_lt (Nat.lt_of_lt_of_le (by have := World.block_lt_of_cell? _ _ hw218_0; first | rwa [add_block] at this | exact this) GW226.out) | (rw [add_block]; exact Nat.ne_of_lt (Nat.lt_of_lt_of_le (by have := World.block_lt_of_cell? _ _ hw218_0; first | rwa [add_block] at this | exact this) GW226.out)) | (show (Addr.add _ _).block ≠ _; rw [add_block]; exact Nat.ne_of_lt (Nat.lt_of_lt_of_le (by have := World.block_lt_of_cell? _ _ hw218_0; first | rwa [add_block] at this | exact this) GW226.out)) | (dsimp only; exact Nat.ne_of_lt (Nat.lt_of_lt_of_le (by have := World.block_lt_of_cell? _ _ hw218_0; first | rwa [add_block] at this | exact this) GW226.out))) _).trans (hHeld.2.2.2.2.2.2.2.2.2.2.2))))))))))))⟩ (fun hHeld => ?_)
                            clear hK K
                            refine pure_ (i := 25) (N := some 12) (v := ?_) (a' := ?_) #[true, true, true, true, true, true, true, true, true, true, true, true, true, true, true, true, true, true, true, true, true, true, true, true, true, true] rfl rfl (any_of HT_.out (by kernel_rfl)) (fun _ _ _ h => h) (Or.inl ⟨by rfl, ?_⟩) ?_ ?_
                            rotate_left
                            · intro w'
                              go_simp
                              with_reducible rfl
                            rotate_left
                            · simp only [Act.put, List.setIfInBounds_toArray, List.set_cons_zero, List.set_cons_succ, i64_w, i32_w]
                              rfl
                            refine done_ (done_of HT_.out (by kernel_rfl)) ?_
                            have hnb35 := NB226_200.out
                            have hnc35 := NB200_226.out
                            have hnb36 := NB226_208.out
                            have hnc36 := NB208_226.out
                            have hcz37_0 : w28.cell? ⟨gb226, 0, none⟩ = some (.int .i64 0) := (blk_cell BK226.out 0).trans rfl
                            have hcz37_1 : w28.cell? ⟨gb226, 1, none⟩ = some (.int .i64 0) := (blk_cell BK226.out 1).trans rfl
                            have hcz37_2 : w28.cell? ⟨gb226, 2, none⟩ = some (.int .i64 0) := (blk_cell BK226.out 2).trans rfl
                            have hcz37_3 : w28.cell? ⟨gb226, 3, none⟩ = some (.int .i64 0) := (blk_cell BK226.out 3).trans rfl
                            have hcz37_4 : w28.cell? ⟨gb226, 4, none⟩ = some (.int .i64 0) := (blk_cell BK226.out 4).trans rfl
                            have hcz37_5 : w28.cell? ⟨gb226, 5, none⟩ = some (.bool false) := (blk_cell BK226.out 5).trans rfl
                            have hfz37_0 := blk_frozen BK226.out 0
                            have hfz37_1 := blk_frozen BK226.out 1
                            have hfz37_2 := blk_frozen BK226.out 2
                            have hfz37_3 := blk_frozen BK226.out 3
                            have hfz37_4 := blk_frozen BK226.out 4
                            have hfz37_5 := blk_frozen BK226.out 5
                            have hnb38 := NB208_200.out
                            have hnc38 := NB200_208.out
                            have hcz39_0 : w28.cell? ⟨gb208, 0, none⟩ = some (.int .i64 x209000_2) := (blk_cell BK208.out 0).trans rfl
                            have hcz39_1 : w28.cell? ⟨gb208, 1, none⟩ = some (.int .i64 x209001_2) := (blk_cell BK208.out 1).trans rfl
                            have hcz39_2 : w28.cell? ⟨gb208, 2, none⟩ = some (.int .i64 x209002_2) := (blk_cell BK208.out 2).trans rfl
                            have hcz39_3 : w28.cell? ⟨gb208, 3, none⟩ = some (.int .i64 x209003_2) := (blk_cell BK208.out 3).trans rfl
                            have hcz39_4 : w28.cell? ⟨gb208, 4, none⟩ = some (.int .i64 x209004_2) := (blk_cell BK208.out 4).trans rfl
                            have hcz39_5 : w28.cell? ⟨gb208, 5, none⟩ = some (.bool x209005_2) := (blk_cell BK208.out 5).trans rfl
                            have hfz39_0 := blk_frozen BK208.out 0
                            have hfz39_1 := blk_frozen BK208.out 1
                            have hfz39_2 := blk_frozen BK208.out 2
                            have hfz39_3 := blk_frozen BK208.out 3
                            have hfz39_4 := blk_frozen BK208.out 4
                            have hfz39_5 := blk_frozen BK208.out 5
                            try go_wp2_with (first | ((with_reducible refine gate_builtin (b := .append) (xs := #[.tmp 64, .tmp 66]) rfl ?_); (try (refine gate_guard (by rfl) ?_; dsimp only)); at_builtin; refine Kd.R_append (Kd.int .i64) (w0 := w) w.heap.size rfl (.tmp 64) (.tmp 66) 58 3 (.int .i64 0) 8 rfl Try.underlying58 info3 rfl (by decide) (by omega) u8 x8_2 1 [.int .i64 1] (fun _ => True) (fun _ => False) rfl (by first | (go_simp; done) | (go_simp; rfl)) ?aP (fun _ hk => hk.elim) ?aF ?aO ?aB ?aS ?aL ?_; (case aP => exact rfl); (case aB => exact (be_ HB.out)); (case aF => exact (fun _ _ => trivial)); (case aO => exact (by (with_reducible repeat (first | apply Kd.R_alloc | apply Kd.R_drewN | apply Kd.R_drew)); exact Kd.R_mono (Kd.R_far (p := ⟨gb208, 5, none⟩) (Kd.R_far (p := ⟨gb208, 4, none⟩) (Kd.R_far (p := ⟨gb208, 3, none⟩) (Kd.R_far (p := ⟨gb208, 2, none⟩) (Kd.R_far (p := ⟨gb208, 1, none⟩) (Kd.R_far (p := ⟨gb208, 0, none⟩) (Kd.R_far (p := ⟨gb226, 5, none⟩) (Kd.R_far (p := ⟨gb226, 4, none⟩) (Kd.R_far (p := ⟨gb226, 3, none⟩) (Kd.R_far (p := ⟨gb226, 2, none⟩) (Kd.R_far (p := ⟨gb226, 1, none⟩) (Kd.R_far (p := ⟨gb226, 0, none⟩) (Kd.R_types (Kd.R_types HO_8.out BK226.out (by decide)) BK208.out (by decide)) (fun _ hk => hk.1.2) (.int .i64 t219)) (fun _ hk => hk.1.2) (.int .i64 t220)) (fun _ hk => hk.1.2) (.int .i64 t221)) (fun _ hk => hk.1.2) (.int .i64 t222)) (fun _ hk => hk.1.2) (.int .i64 t223)) (fun _ hk => hk.1.2) (.bool t224)) (fun _ hk => hk.2) (.int .i64 t219)) (fun _ hk => hk.2) (.int .i64 t220)) (fun _ hk => hk.2) (.int .i64 t221)) (fun _ hk => hk.2) (.int .i64 t222)) (fun _ hk => hk.2) (.int .i64 t223)) (fun _ hk => hk.2) (.bool t224)) (fun _ hk => trivial))); (case aS => exact (below_size (be_ HB.out))); (case aL => have := LMc24.out; omega); intro v228 w40 ho hb hg hat; rw [← Ny227.out] at ho; have n0_ := Aside0.mk (blk_grown (g := gb200) (o := .cells #[.int .i64 0, .int .i64 0, .int .i64 0, .int .i64 0, .int .i64 0, .bool false] 24 (0, 0)) (by refine bl_ ?_; refine blk_far ?_ NB200_208.out _; refine bl_ ?_; refine blk_far ?_ NB200_208.out _; refine bl_ ?_; refine blk_far ?_ NB200_208.out _; refine bl_ ?_; refine blk_far ?_ NB200_208.out _; refine bl_ ?_; refine blk_far ?_ NB200_208.out _; refine bl_ ?_; refine blk_far ?_ NB200_208.out _; refine bl_ ?_; refine blk_far ?_ NB200_226.out _; refine bl_ ?_; refine blk_far ?_ NB200_226.out _; refine bl_ ?_; refine blk_far ?_ NB200_226.out _; refine bl_ ?_; refine blk_far ?_ NB200_226.out _; refine bl_ ?_; refine blk_far ?_ NB200_226.out _; refine bl_ ?_; refine blk_far ?_ NB200_226.out _; refine bl_ ?_; exact BK200.out) hg (Kd.R_ne HO_8.out BK200.out (by decide))); have n1_ := Aside0.mk (blk_grown (g := gb208) (o := .cells #[.int .i64 t219, .int .i64 t220, .int .i64 t221, .int .i64 t222, .int .i64 t223, .bool t224] 24 (0, 0)) (by refine bl_ ?_; refine blk_put (cs := #[.int .i64 t219, .int .i64 t220, .int .i64 t221, .int .i64 t222, .int .i64 t223, .bool x209005_2]) ?_ 5 _ rfl; refine bl_ ?_; refine blk_put (cs := #[.int .i64 t219, .int .i64 t220, .int .i64 t221, .int .i64 t222, .int .i64 x209004_2, .bool x209005_2]) ?_ 4 _ rfl; refine bl_ ?_; refine blk_put (cs := #[.int .i64 t219, .int .i64 t220, .int .i64 t221, .int .i64 x209003_2, .int .i64 x209004_2, .bool x209005_2]) ?_ 3 _ rfl; refine bl_ ?_; refine blk_put (cs := #[.int .i64 t219, .int .i64 t220, .int .i64 x209002_2, .int .i64 x209003_2, .int .i64 x209004_2, .bool x209005_2]) ?_ 2 _ rfl; refine bl_ ?_; refine blk_put (cs := #[.int .i64 t219, .int .i64 x209001_2, .int .i64 x209002_2, .int .i64 x209003_2, .int .i64 x209004_2, .bool x209005_2]) ?_ 1 _ rfl; refine bl_ ?_; refine blk_put (cs := #[.int .i64 x209000_2, .int .i64 x209001_2, .int .i64 x209002_2, .int .i64 x209003_2, .int .i64 x209004_2, .bool x209005_2]) ?_ 0 _ rfl; refine bl_ ?_; refine blk_far ?_ NB208_226.out _; refine bl_ ?_; refine blk_far ?_ NB208_226.out _; refine bl_ ?_; refine blk_far ?_ NB208_226.out _; refine bl_ ?_; refine blk_far ?_ NB208_226.out _; refine bl_ ?_; refine blk_far ?_ NB208_226.out _; refine bl_ ?_; refine blk_far ?_ NB208_226.out _; refine bl_ ?_; exact BK208.out) hg (Kd.R_ne HO_8.out BK208.out (by decide))); have n2_ := Aside0.mk (blk_grown (g := gb226) (o := .cells #[.int .i64 t219, .int .i64 t220, .int .i64 t221, .int .i64 t222, .int .i64 t223, .bool t224] 24 (0, 0)) (by refine bl_ ?_; refine blk_far ?_ NB226_208.out _; refine bl_ ?_; refine blk_far ?_ NB226_208.out _; refine bl_ ?_; refine blk_far ?_ NB226_208.out _; refine bl_ ?_; refine blk_far ?_ NB226_208.out _; refine bl_ ?_; refine blk_far ?_ NB226_208.out _; refine bl_ ?_; refine blk_far ?_ NB226_208.out _; refine bl_ ?_; refine blk_put (cs := #[.int .i64 t219, .int .i64 t220, .int .i64 t221, .int .i64 t222, .int .i64 t223, .bool false]) ?_ 5 _ rfl; refine bl_ ?_; refine blk_put (cs := #[.int .i64 t219, .int .i64 t220, .int .i64 t221, .int .i64 t222, .int .i64 0, .bool false]) ?_ 4 _ rfl; refine bl_ ?_; refine blk_put (cs := #[.int .i64 t219, .int .i64 t220, .int .i64 t221, .int .i64 0, .int .i64 0, .bool false]) ?_ 3 _ rfl; refine bl_ ?_; refine blk_put (cs := #[.int .i64 t219, .int .i64 t220, .int .i64 0, .int .i64 0, .int .i64 0, .bool false]) ?_ 2 _ rfl; refine bl_ ?_; refine blk_put (cs := #[.int .i64 t219, .int .i64 0, .int .i64 0, .int .i64 0, .int .i64 0, .bool false]) ?_ 1 _ rfl; refine bl_ ?_; refine blk_put (cs := #[.int .i64 0, .int .i64 0, .int .i64 0, .int .i64 0, .int .i64 0, .bool false]) ?_ 0 _ rfl; refine bl_ ?_; exact BK226.out) hg (Kd.R_ne HO_8.out BK226.out (by decide))); have n3_ := Aside0.mk (hb); have n4_ := Aside0.mk (ho); clear BK200 BK208 BK226 HB HO_8; have BK200 := n0_; have BK208 := n1_; have BK226 := n2_; have HB := n3_; have HO229 := n4_; clear n0_ n1_ n2_ n3_ n4_; clear ho hb hg hat))
                            go_roundg k2
                            case measure => have := HJ3.out; have := HK2.out; omega
                            case rel => exact ⟨(y227), (wrap64 (x9_2 + 1)), (t219), (t220), (t221), (t222), (t223), (t224), (by first | rfl | (simp; done) | (simp [*]; done)), H', ⟨by have := HJ3.out; have := HK2.out; omega⟩, ⟨by (with_reducible repeat (first | apply Kd.R_alloc | apply Kd.R_drewN | apply Kd.R_drew)); exact HO229.out⟩, ⟨by refine bl_ ?_; exact BK200.out⟩, ⟨by refine bl_ ?_; exact BK208.out⟩, ⟨be_ HB.out⟩⟩
                          · rw [if_neg c24] at H
                            exact absurd H (by simp)
                        · replace c23 := Bool.eq_false_iff.mpr c23
                          subst c23
                          have H1 : (if x8_2.length < 17592186044416 then (spec_PlayConn.l0 k2 l1 (x8_2 ++ [0]) (wrap64 (x9_2 + 1)) t219 t220 t221 t222 t223 t224) else (none)) = some (r1, r2, r3, r4, r5, r6, r7) := by rw [if_neg (show ¬ (false = true) by decide)] at H; exact H
                          clear H
                          have H := H1
                          clear H1
                          by_cases c41 : x8_2.length < 17592186044416
                          · rw [if_pos c41] at H
                            have LMc41 := Aside0.mk c41
                            clear c41
                            obtain ⟨y230, hy230⟩ : ∃ y_ : List Int, y_ = (x8_2 ++ [0]) := ⟨_, rfl⟩
                            replace H : (spec_PlayConn.l0 k2 l1 y230 (wrap64 (x9_2 + 1)) t219 t220 t221 t222 t223 t224) = some (r1, r2, r3, r4, r5, r6, r7) := by first | (rw [hy230]; with_reducible exact H) | (have H2_ := (Option.bind_some _ _).symm.trans H; rw [hy230]; with_reducible exact H2_) | (have H2_ := (Option.bind_some _ _).symm.trans H; with_reducible exact H2_) | with_reducible exact H | (rw [hy230]; exact H) | exact H
                            have Ny230 := Aside0.mk hy230
                            clear hy230
                            have H' := Aside0.mk H
                            clear H
                            have p212 : 0 ≤ (x9_2 : Int) := of_decide_eq_true (by first | (with_reducible assumption) | assumption)
                            have q212 : x9_2 < (l1.length : Int) := of_decide_eq_true (by first | (with_reducible assumption) | assumption)
                            obtain ⟨ad212, A212_0, c212_0, e212, hx212_0, hl212_0, hi212_0⟩ := at_L1 HR1.out x9_2 p212 q212
                            cases e212
                            replace hx212_0 := (HB.out.cell (World.block_lt_of_cell? w _ hx212_0)).trans hx212_0
                            have HR212_0 := Aside0.mk hi212_0
                            have HC212_0 := Aside0.mk hl212_0
                            clear hi212_0 hl212_0
                            replace p212 := eq_true p212
                            replace q212 := eq_true q212
                            try go_wp2
                            have n0_ := Aside0.mk (Kd.R_drew HO_8.out)
                            have n1_ := Aside0.mk (blk_drew BK200.out)
                            have n2_ := Aside0.mk (blk_drew BK208.out)
                            have n3_ := Aside0.mk (below_drew1 HB.out)
                            clear HO_8
                            clear BK200
                            clear BK208
                            clear HB
                            have HO_8 := n0_
                            have BK200 := n1_
                            have BK208 := n2_
                            have HB := n3_
                            clear n0_ n1_ n2_ n3_
                            have p213 : 0 ≤ (x9_2 : Int) := of_decide_eq_true (by first | (with_reducible assumption) | assumption)
                            have q213 : x9_2 < (l1.length : Int) := of_decide_eq_true (by first | (with_reducible assumption) | assumption)
                            obtain ⟨ad213, A213_0, c213_0, e213, hx213_0, hl213_0, hi213_0⟩ := at_L1 HR1.out x9_2 p213 q213
                            have hw213_0 := hx213_0
                            obtain rfl : ad212 = ad213 := (by injection e213)
                            replace hx213_0 := (HB.out.cell (World.block_lt_of_cell? w _ hx213_0)).trans hx213_0
                            have HR213_0 := Aside0.mk hi213_0
                            have HC213_0 := Aside0.mk hl213_0
                            clear hi213_0 hl213_0
                            replace p213 := eq_true p213
                            replace q213 := eq_true q213
                            have p214 : 0 ≤ (0 : Int) := (by omega)
                            have q214 : 0 < ((rd_L1 l1 x9_2).length : Int) := of_decide_eq_true (by first | (with_reducible assumption) | assumption)
                            obtain ⟨ad214, e214, hx214_0⟩ := Kd.at_int HR213_0.out 0 p214 q214
                            have hw214_0 := hx214_0
                            (try rw [show ((0 : Int)).toNat = 0 from rfl] at hw214_0)
                            (try rw [show 0 * 1 = 0 from rfl] at hw214_0)
                            (try rw [Addr.add_zero'] at hw214_0)
                            cases e214
                            have qi214 : (0 < (rd_L1 l1 x9_2).length) = True := eq_true (by omega)
                            (try rw [show ((0 : Int)).toNat = 0 from rfl] at hx214_0)
                            (try rw [Addr.add_zero'] at hx214_0)
                            replace hx214_0 := (HB.out.cell (World.block_lt_of_cell? w _ hx214_0)).trans hx214_0
                            replace p214 := eq_true p214
                            replace q214 := eq_true q214
                            have p215 : 0 ≤ (x9_2 : Int) := of_decide_eq_true (by first | (with_reducible assumption) | assumption)
                            have q215 : x9_2 < (l1.length : Int) := of_decide_eq_true (by first | (with_reducible assumption) | assumption)
                            obtain ⟨ad215, A215_0, c215_0, e215, hx215_0, hl215_0, hi215_0⟩ := at_L1 HR1.out x9_2 p215 q215
                            have hw215_0 := hx215_0
                            obtain rfl : ad212 = ad215 := (by injection e215)
                            replace hx215_0 := (HB.out.cell (World.block_lt_of_cell? w _ hx215_0)).trans hx215_0
                            have HR215_0 := Aside0.mk hi215_0
                            have HC215_0 := Aside0.mk hl215_0
                            clear hi215_0 hl215_0
                            replace p215 := eq_true p215
                            replace q215 := eq_true q215
                            have ea_ := Option.some.inj (hx213_0.symm.trans hx215_0)
                            injection ea_ with ea_ en_ ec_
                            subst ea_
                            subst ec_
                            clear en_
                            have p216 : 0 ≤ (1 : Int) := (by omega)
                            have q216 : 1 < ((rd_L1 l1 x9_2).length : Int) := of_decide_eq_true (by first | (with_reducible assumption) | assumption)
                            obtain ⟨ad214, e216, hx216_0⟩ := Kd.at_int HR215_0.out 1 p216 q216
                            have hw216_0 := hx216_0
                            (try rw [show ((1 : Int)).toNat = 1 from rfl] at hw216_0)
                            (try rw [show 1 * 1 = 1 from rfl] at hw216_0)
                            (try simp only [Nat.reduceMul, Nat.reduceEqDiff, Go.Addr.add, ↓reduceIte] at hw216_0)
                            cases e216
                            (try simp only [show (1 : Int).toNat = 1 from rfl, Nat.reduceMul, Nat.reduceEqDiff, Go.Addr.add, ↓reduceIte] at hx216_0)
                            have qi216 : (1 < (rd_L1 l1 x9_2).length) = True := eq_true (by omega)
                            (try rw [show ((1 : Int)).toNat = 1 from rfl] at hx216_0)
                            replace hx216_0 := (HB.out.cell (World.block_lt_of_cell? w _ hx216_0)).trans hx216_0
                            replace p216 := eq_true p216
                            replace q216 := eq_true q216
                            have p217 : 0 ≤ (x9_2 : Int) := of_decide_eq_true (by first | (with_reducible assumption) | assumption)
                            have q217 : x9_2 < (l1.length : Int) := of_decide_eq_true (by first | (with_reducible assumption) | assumption)
                            obtain ⟨ad217, A217_0, c217_0, e217, hx217_0, hl217_0, hi217_0⟩ := at_L1 HR1.out x9_2 p217 q217
                            have hw217_0 := hx217_0
                            obtain rfl : ad212 = ad217 := (by injection e217)
                            replace hx217_0 := (HB.out.cell (World.block_lt_of_cell? w _ hx217_0)).trans hx217_0
                            have HR217_0 := Aside0.mk hi217_0
                            have HC217_0 := Aside0.mk hl217_0
                            clear hi217_0 hl217_0
                            replace p217 := eq_true p217
                            replace q217 := eq_true q217
                            have ea_ := Option.some.inj (hx213_0.symm.trans hx217_0)
                            injection ea_ with ea_ en_ ec_
                            subst ea_
                            subst ec_
                            clear en_
                            have p218 : 0 ≤ (2 : Int) := (by omega)
                            have q218 : 2 < ((rd_L1 l1 x9_2).length : Int) := of_decide_eq_true (by first | (with_reducible assumption) | assumption)
                            obtain ⟨ad214, e218, hx218_0⟩ := Kd.at_int HR217_0.out 2 p218 q218
                            have hw218_0 := hx218_0
                            (try rw [show ((2 : Int)).toNat = 2 from rfl] at hw218_0)
                            (try rw [show 2 * 1 = 2 from rfl] at hw218_0)
                            (try simp only [Nat.reduceMul, Nat.reduceEqDiff, Go.Addr.add, ↓reduceIte] at hw218_0)
                            cases e218
                            (try simp only [show (2 : Int).toNat = 2 from rfl, Nat.reduceMul, Nat.reduceEqDiff, Go.Addr.add, ↓reduceIte] at hx218_0)
                            have qi218 : (2 < (rd_L1 l1 x9_2).length) = True := eq_true (by omega)
                            (try rw [show ((2 : Int)).toNat = 2 from rfl] at hx218_0)
                            replace hx218_0 := (HB.out.cell (World.block_lt_of_cell? w _ hx218_0)).trans hx218_0
                            replace p218 := eq_true p218
                            replace q218 := eq_true q218
                            refine start_ (n := 26) (S := fun w' => w'.cell? ⟨gb208, 0, none⟩ = some (.int .i64 x209000_2) ∧ w'.cell? ⟨gb208, 1, none⟩ = some (.int .i64 x209001_2) ∧ w'.cell? ⟨gb208, 2, none⟩ = some (.int .i64 x209002_2) ∧ w'.cell? ⟨gb208, 3, none⟩ = some (.int .i64 x209003_2) ∧ w'.cell? ⟨gb208, 4, none⟩ = some (.int .i64 x209004_2) ∧ w'.cell? ⟨gb208, 5, none⟩ = some (.bool x209005_2) ∧ w'.cell? (ad212.add (x9_2).toNat) = some (.slice (some ad214) (rd_L1 l1 x9_2).length c213_0) ∧ w'.cell? ad214 = some (.int .i64 (rd (rd_L1 l1 x9_2) 0)) ∧ w'.cell? (ad212.add (x9_2).toNat) = some (.slice (some ad214) (rd_L1 l1 x9_2).length c213_0) ∧ w'.cell? ⟨ad214.block, ad214.off + 1, none⟩ = some (.int .i64 (rd (rd_L1 l1 x9_2) 1)) ∧ w'.cell? (ad212.add (x9_2).toNat) = some (.slice (some ad214) (rd_L1 l1 x9_2).length c213_0) ∧ w'.cell? ⟨ad214.block, ad214.off + 2, none⟩ = some (.int .i64 (rd (rd_L1 l1 x9_2) 2))) (ds := []) #[false, false, false, false, false, false, false, false, false, false, false, false, false, false, false, false, false, false, false, false, false, false, false, false, false, false] (by kernel_rfl) rfl rfl ⟨(blk_cell BK208.out 0).trans rfl, (blk_cell BK208.out 1).trans rfl, (blk_cell BK208.out 2).trans rfl, (blk_cell BK208.out 3).trans rfl, (blk_cell BK208.out 4).trans rfl, (blk_cell BK208.out 5).trans rfl, ((HB.out.cell (World.block_lt_of_cell? w _ hw213_0)).trans hw213_0), ((HB.out.cell (World.block_lt_of_cell? w _ hw214_0)).trans hw214_0), ((HB.out.cell (World.block_lt_of_cell? w _ hw215_0)).trans hw215_0), ((HB.out.cell (World.block_lt_of_cell? w _ hw216_0)).trans hw216_0), ((HB.out.cell (World.block_lt_of_cell? w _ hw217_0)).trans hw217_0), ((HB.out.cell (World.block_lt_of_cell? w _ hw218_0)).trans hw218_0)⟩ (fun hHeld => ?_); refine with_tabW spec_PlayConn.tab10 spec_PlayConn.bits10 (fun HT_ HW_ => ?_)
                            generalize wr.drew = w42 at HO_8 BK200 BK208 HB HR213_0 HR215_0 HR217_0 hx213_0 hx214_0 hx215_0 hx216_0 hx217_0 hx218_0 hHeld ⊢
                            refine pure_ (i := 1) (N := some 41) (v := ?_) (a' := ?_) #[false, true, false, false, false, false, false, false, false, false, false, false, false, false, false, false, false, false, false, false, false, false, false, false, false, false] rfl rfl (any_of HT_.out (by kernel_rfl)) (fun _ _ _ h => h) (Or.inl ⟨by rfl, ?_⟩) ?_ ?_
                            rotate_left
                            · intro w'
                              go_simp
                              with_reducible rfl
                            rotate_left
                            · simp only [Act.put, List.setIfInBounds_toArray, List.set_cons_zero, List.set_cons_succ, i64_w, i32_w]
                              rfl
                            refine pure_ (i := 2) (N := some 42) (v := ?_) (a' := ?_) #[false, true, true, false, false, false, false, false, false, false, false, false, false, false, false, false, false, false, false, false, false, false, false, false, false, false] rfl rfl (any_of HT_.out (by kernel_rfl)) (fun _ _ _ h => h) (Or.inl ⟨by rfl, ?_⟩) ?_ ?_
                            rotate_left
                            · intro w'
                              go_simp
                              with_reducible rfl
                            rotate_left
                            · simp only [Act.put, List.setIfInBounds_toArray, List.set_cons_zero, List.set_cons_succ, i64_w, i32_w]
                              rfl
                            refine pure_ (i := 3) (N := some 43) (v := ?_) (a' := ?_) #[false, true, true, true, false, false, false, false, false, false, false, false, false, false, false, false, false, false, false, false, false, false, false, false, false, false] rfl rfl (any_of HT_.out (by kernel_rfl)) (fun _ _ _ h => h) (Or.inl ⟨by rfl, ?_⟩) ?_ ?_
                            rotate_left
                            · intro w'
                              go_simp
                              with_reducible rfl
                            rotate_left
                            · simp only [Act.put, List.setIfInBounds_toArray, List.set_cons_zero, List.set_cons_succ, i64_w, i32_w]
                              rfl
                            refine pure_ (i := 7) (N := some 47) (v := ?_) (a' := ?_) #[false, true, true, true, false, false, false, true, false, false, false, false, false, false, false, false, false, false, false, false, false, false, false, false, false, false] rfl rfl (any_of HT_.out (by kernel_rfl)) (fun _ _ _ h => h) (Or.inl ⟨by rfl, ?_⟩) ?_ ?_
                            rotate_left
                            · intro w'
                              go_simp
                              with_reducible rfl
                            rotate_left
                            · simp only [Act.put, List.setIfInBounds_toArray, List.set_cons_zero, List.set_cons_succ, i64_w, i32_w]
                              rfl
                            refine pure_ (i := 8) (N := some 48) (v := ?_) (a' := ?_) #[false, true, true, true, false, false, false, true, true, false, false, false, false, false, false, false, false, false, false, false, false, false, false, false, false, false] rfl rfl (any_of HT_.out (by kernel_rfl)) (fun _ _ _ h => h) (Or.inl ⟨by rfl, ?_⟩) ?_ ?_
                            rotate_left
                            · intro w'
                              go_simp
                              with_reducible rfl
                            rotate_left
                            · simp only [Act.put, List.setIfInBounds_toArray, List.set_cons_zero, List.set_cons_succ, i64_w, i32_w]
                              rfl
                            refine pure_ (i := 9) (N := some 49) (v := ?_) (a' := ?_) #[false, true, true, true, false, false, false, true, true, true, false, false, false, false, false, false, false, false, false, false, false, false, false, false, false, false] rfl rfl (any_of HT_.out (by kernel_rfl)) (fun _ _ _ h => h) (Or.inl ⟨by rfl, ?_⟩) ?_ ?_
                            rotate_left
                            · intro w'
                              go_simp
                              with_reducible rfl
                            rotate_left
                            · simp only [Act.put, List.setIfInBounds_toArray, List.set_cons_zero, List.set_cons_succ, i64_w, i32_w]
                              rfl
                            refine pure_ (i := 13) (N := some 53) (v := ?_) (a' := ?_) #[false, true, true, true, false, false, false, true, true, true, false, false, false, true, false, false, false, false, false, false, false, false, false, false, false, false] rfl rfl (any_of HT_.out (by kernel_rfl)) (fun _ _ _ h => h) (Or.inl ⟨by rfl, ?_⟩) ?_ ?_
                            rotate_left
                            · intro w'
                              go_simp
                              with_reducible rfl
                            rotate_left
                            · simp only [Act.put, List.setIfInBounds_toArray, List.set_cons_zero, List.set_cons_succ, i64_w, i32_w]
                              rfl
                            refine pure_ (i := 14) (N := some 54) (v := ?_) (a' := ?_) #[false, true, true, true, false, false, false, true, true, true, false, false, false, true, true, false, false, false, false, false, false, false, false, false, false, false] rfl rfl (any_of HT_.out (by kernel_rfl)) (fun _ _ _ h => h) (Or.inl ⟨by rfl, ?_⟩) ?_ ?_
                            rotate_left
                            · intro w'
                              go_simp
                              with_reducible rfl
                            rotate_left
                            · simp only [Act.put, List.setIfInBounds_toArray, List.set_cons_zero, List.set_cons_succ, i64_w, i32_w]
                              rfl
                            refine pure_ (i := 15) (N := some 55) (v := ?_) (a' := ?_) #[false, true, true, true, false, false, false, true, true, true, false, false, false, true, true, true, false, false, false, false, false, false, false, false, false, false] rfl rfl (any_of HT_.out (by kernel_rfl)) (fun _ _ _ h => h) (Or.inl ⟨by rfl, ?_⟩) ?_ ?_
                            rotate_left
                            · intro w'
                              go_simp
                              with_reducible rfl
                            rotate_left
                            · simp only [Act.put, List.setIfInBounds_toArray, List.set_cons_zero, List.set_cons_succ, i64_w, i32_w]
                              rfl
                            refine take_ (i := 0) (N := some 40) (v := ?_) (a' := ?_) #[true, true, true, true, false, false, false, true, true, true, false, false, false, true, true, true, false, false, false, false, false, false, false, false, false, false] rfl rfl (take_ofW HT_.out HW_.out (by kernel_rfl)) (fun _ _ _ h => h) (Or.inl ⟨by rfl, ?_⟩) hHeld ?_ ?_
                            rotate_left
                            · rintro w' ⟨s0, s1, s2, s3, s4, s5, s6, s7, s8, s9, s10, s11⟩
                              go_simp
                              with_reducible rfl
                            rotate_left
                            · simp only [Act.put, List.setIfInBounds_toArray, List.set_cons_zero, List.set_cons_succ, i64_w, i32_w]
                              rfl
                            refine take_ (i := 4) (N := some 44) (v := ?_) (a' := ?_) #[true, true, true, true, true, false, false, true, true, true, false, false, false, true, true, true, false, false, false, false, false, false, false, false, false, false] rfl rfl (take_ofW HT_.out HW_.out (by kernel_rfl)) (fun _ _ _ h => h) (Or.inl ⟨by rfl, ?_⟩) hHeld ?_ ?_
                            rotate_left
                            · rintro w' ⟨s0, s1, s2, s3, s4, s5, s6, s7, s8, s9, s10, s11⟩
                              go_simp
                              with_reducible rfl
                            rotate_left
                            · simp only [Act.put, List.setIfInBounds_toArray, List.set_cons_zero, List.set_cons_succ, i64_w, i32_w]
                              rfl
                            refine pure_ (i := 5) (N := some 45) (v := ?_) (a' := ?_) #[true, true, true, true, true, true, false, true, true, true, false, false, false, true, true, true, false, false, false, false, false, false, false, false, false, false] rfl rfl (any_of HT_.out (by kernel_rfl)) (fun _ _ _ h => h) (Or.inl ⟨by rfl, ?_⟩) ?_ ?_
                            rotate_left
                            · intro w'
                              go_simp
                              with_reducible rfl
                            rotate_left
                            · simp only [Act.put, List.setIfInBounds_toArray, List.set_cons_zero, List.set_cons_succ, i64_w, i32_w]
                              rfl
                            refine take_ (i := 6) (N := some 46) (v := ?_) (a' := ?_) #[true, true, true, true, true, true, true, true, true, true, false, false, false, true, true, true, false, false, false, false, false, false, false, false, false, false] rfl rfl (take_ofW HT_.out HW_.out (by kernel_rfl)) (fun _ _ _ h => h) (Or.inl ⟨by rfl, ?_⟩) hHeld ?_ ?_
                            rotate_left
                            · rintro w' ⟨s0, s1, s2, s3, s4, s5, s6, s7, s8, s9, s10, s11⟩
                              go_simp
                              with_reducible rfl
                            rotate_left
                            · simp only [Act.put, List.setIfInBounds_toArray, List.set_cons_zero, List.set_cons_succ, i64_w, i32_w]
                              rfl
                            refine take_ (i := 10) (N := some 50) (v := ?_) (a' := ?_) #[true, true, true, true, true, true, true, true, true, true, true, false, false, true, true, true, false, false, false, false, false, false, false, false, false, false] rfl rfl (take_ofW HT_.out HW_.out (by kernel_rfl)) (fun _ _ _ h => h) (Or.inl ⟨by rfl, ?_⟩) hHeld ?_ ?_
                            rotate_left
                            · rintro w' ⟨s0, s1, s2, s3, s4, s5, s6, s7, s8, s9, s10, s11⟩
                              go_simp
                              with_reducible rfl
                            rotate_left
                            · simp only [Act.put, List.setIfInBounds_toArray, List.set_cons_zero, List.set_cons_succ, i64_w, i32_w]
                              rfl
                            refine pure_ (i := 11) (N := some 51) (v := ?_) (a' := ?_) #[true, true, true, true, true, true, true, true, true, true, true, true, false, true, true, true, false, false, false, false, false, false, false, false, false, false] rfl rfl (any_of HT_.out (by kernel_rfl)) (fun _ _ _ h => h) (Or.inl ⟨by rfl, ?_⟩) ?_ ?_
                            rotate_left
                            · intro w'
                              go_simp
                              with_reducible rfl
                            rotate_left
                            · simp only [Act.put, List.setIfInBounds_toArray, List.set_cons_zero, List.set_cons_succ, i64_w, i32_w]
                              rfl
                            refine take_ (i := 12) (N := some 52) (v := ?_) (a' := ?_) #[true, true, true, true, true, true, true, true, true, true, true, true, true, true, true, true, false, false, false, false, false, false, false, false, false, false] rfl rfl (take_ofW HT_.out HW_.out (by kernel_rfl)) (fun _ _ _ h => h) (Or.inl ⟨by rfl, ?_⟩) hHeld ?_ ?_
                            rotate_left
                            · rintro w' ⟨s0, s1, s2, s3, s4, s5, s6, s7, s8, s9, s10, s11⟩
                              go_simp
                              with_reducible rfl
                            rotate_left
                            · simp only [Act.put, List.setIfInBounds_toArray, List.set_cons_zero, List.set_cons_succ, i64_w, i32_w]
                              rfl
                            refine take_ (i := 16) (N := some 56) (v := ?_) (a' := ?_) #[true, true, true, true, true, true, true, true, true, true, true, true, true, true, true, true, true, false, false, false, false, false, false, false, false, false] rfl rfl (take_ofW HT_.out HW_.out (by kernel_rfl)) (fun _ _ _ h => h) (Or.inl ⟨by rfl, ?_⟩) hHeld ?_ ?_
                            rotate_left
                            · rintro w' ⟨s0, s1, s2, s3, s4, s5, s6, s7, s8, s9, s10, s11⟩
                              go_simp
                              with_reducible rfl
                            rotate_left
                            · simp only [Act.put, List.setIfInBounds_toArray, List.set_cons_zero, List.set_cons_succ, i64_w, i32_w]
                              rfl
                            refine pure_ (i := 17) (N := some 57) (v := ?_) (a' := ?_) #[true, true, true, true, true, true, true, true, true, true, true, true, true, true, true, true, true, true, false, false, false, false, false, false, false, false] rfl rfl (any_of HT_.out (by kernel_rfl)) (fun _ _ _ h => h) (Or.inl ⟨by rfl, ?_⟩) ?_ ?_
                            rotate_left
                            · intro w'
                              go_simp
                              with_reducible rfl
                            rotate_left
                            · simp only [Act.put, List.setIfInBounds_toArray, List.set_cons_zero, List.set_cons_succ, i64_w, i32_w]
                              rfl
                            refine take_ (i := 18) (N := some 58) (v := ?_) (a' := ?_) #[true, true, true, true, true, true, true, true, true, true, true, true, true, true, true, true, true, true, true, false, false, false, false, false, false, false] rfl rfl (take_ofW HT_.out HW_.out (by kernel_rfl)) (fun _ _ _ h => h) (Or.inl ⟨by rfl, ?_⟩) hHeld ?_ ?_
                            rotate_left
                            · rintro w' ⟨s0, s1, s2, s3, s4, s5, s6, s7, s8, s9, s10, s11⟩
                              go_simp
                              with_reducible rfl
                            rotate_left
                            · simp only [Act.put, List.setIfInBounds_toArray, List.set_cons_zero, List.set_cons_succ, i64_w, i32_w]
                              rfl
                            refine join_ (σ := Nat) 2 #[true, true, true, true, true, true, true, true, true, true, true, true, true, true, true, true, true, true, true, true, true, true, true, true, false, false] (fun s_ => [(59, .tuple #[.agg #[.int .i64 t219, .int .i64 t220, .int .i64 t221, .int .i64 t222, .int .i64 t223, .bool t224], .bool false]), (11, .pointer (some ⟨s_, 0, none⟩)), (39, .tuple #[.agg #[.int .i64 t219, .int .i64 t220, .int .i64 t221, .int .i64 t222, .int .i64 t223, .bool t224], .bool false]), (60, .agg #[.int .i64 t219, .int .i64 t220, .int .i64 t221, .int .i64 t222, .int .i64 t223, .bool t224]), (61, .bool false)]) (fun s_ w' => (w'.cell? ⟨gb208, 0, none⟩ = some (.int .i64 x209000_2) ∧ w'.cell? ⟨gb208, 1, none⟩ = some (.int .i64 x209001_2) ∧ w'.cell? ⟨gb208, 2, none⟩ = some (.int .i64 x209002_2) ∧ w'.cell? ⟨gb208, 3, none⟩ = some (.int .i64 x209003_2) ∧ w'.cell? ⟨gb208, 4, none⟩ = some (.int .i64 x209004_2) ∧ w'.cell? ⟨gb208, 5, none⟩ = some (.bool x209005_2) ∧ w'.cell? (ad212.add (x9_2).toNat) = some (.slice (some ad214) (rd_L1 l1 x9_2).length c213_0) ∧ w'.cell? ad214 = some (.int .i64 (rd (rd_L1 l1 x9_2) 0)) ∧ w'.cell? (ad212.add (x9_2).toNat) = some (.slice (some ad214) (rd_L1 l1 x9_2).length c213_0) ∧ w'.cell? ⟨ad214.block, ad214.off + 1, none⟩ = some (.int .i64 (rd (rd_L1 l1 x9_2) 1)) ∧ w'.cell? (ad212.add (x9_2).toNat) = some (.slice (some ad214) (rd_L1 l1 x9_2).length c213_0) ∧ w'.cell? ⟨ad214.block, ad214.off + 2, none⟩ = some (.int .i64 (rd (rd_L1 l1 x9_2) 2))) ∧ (Kd.R (Kd.int .i64) 3 w' w.heap.size (fun _ => True) u8 x8_2) ∧ (w'.heap[gb200]? = some (.cells #[.int .i64 0, .int .i64 0, .int .i64 0, .int .i64 0, .int .i64 0, .bool false] 24 (0, 0))) ∧ (w'.heap[gb208]? = some (.cells #[.int .i64 x209000_2, .int .i64 x209001_2, .int .i64 x209002_2, .int .i64 x209003_2, .int .i64 x209004_2, .bool x209005_2] 24 (0, 0))) ∧ (w'.heap[s_]? = some (.cells #[.int .i64 0, .int .i64 0, .int .i64 0, .int .i64 0, .int .i64 0, .bool false] 24 (0, 0))) ∧ (w.heap.size ≤ s_) ∧ (w.heap.size ≤ s_) ∧ (gb200 ≠ s_) ∧ (s_ ≠ gb200) ∧ (gb208 ≠ s_) ∧ (s_ ≠ gb208) ∧ (Below w.heap.size w w')) ?_ ?_
                            rotate_left
                            · intro hCont
                              refine two_ (i := 19) (j := 23) (Ni := some 59) (Nj := some 11) #[true, true, true, true, true, true, true, true, true, true, true, true, true, true, true, true, true, true, true, true, false, false, false, false, false, false] #[true, true, true, true, true, true, true, true, true, true, true, true, true, true, true, true, true, true, true, false, false, false, false, true, false, false] rfl rfl rfl rfl (two_of HT_.out (by kernel_rfl)) (by decide) (by decide) (fun K hK => ?_) (fun K hK => ?_)
                              · skip
                                refine goes_ Try.func11 (by kernel_rfl) rfl #[.agg #[.int .i64 x209000_2, .int .i64 x209001_2, .int .i64 x209002_2, .int .i64 x209003_2, .int .i64 x209004_2, .bool x209005_2], .int .i64 (rd (rd_L1 l1 x9_2) 0), .int .i64 (rd (rd_L1 l1 x9_2) 1), .int .i64 (rd (rd_L1 l1 x9_2) 2)] (by rfl) rfl rfl (by (try simp only [List.map_toArray, List.map_cons, List.map_nil]); first | done | rfl | (simp only [List.length_drop, List.length_take]; rfl)) ?_
                                with_reducible refine (spec_StepConn.calls k2 x209000_2 x209001_2 x209002_2 x209003_2 x209004_2 x209005_2 (rd (rd_L1 l1 x9_2) 0) (rd (rd_L1 l1 x9_2) 1) (rd (rd_L1 l1 x9_2) 2) t219 t220 t221 t222 t223 t224 false _ A22.out).mono ?_
                                rintro e w43 ⟨rfl, hb⟩
                                refine ⟨_, rfl, ?_⟩
                                have n0_ := Aside0.mk (Kd.R_below (ro_ HO_8.out) hb)
                                have n1_ := Aside0.mk (blk_below (g := gb200) (o := .cells #[.int .i64 0, .int .i64 0, .int .i64 0, .int .i64 0, .int .i64 0, .bool false] 24 (0, 0)) (bl_ BK200.out) hb)
                                have n2_ := Aside0.mk (blk_below (g := gb208) (o := .cells #[.int .i64 x209000_2, .int .i64 x209001_2, .int .i64 x209002_2, .int .i64 x209003_2, .int .i64 x209004_2, .bool x209005_2] 24 (0, 0)) (bl_ BK208.out) hb)
                                have n3_ := Aside0.mk (below_step (be_ HB.out) hb)
                                clear HO_8
                                clear BK200
                                clear BK208
                                clear HB
                                have HO_8 := n0_
                                have BK200 := n1_
                                have BK208 := n2_
                                have HB := n3_
                                clear n0_ n1_ n2_ n3_
                                (try clear hb)
                                (try clear hb2)
                                (try clear hk)
                                (try clear hi)
                                refine hK.out _ _ ⟨(blk_cell BK208.out 0).trans rfl, (blk_cell BK208.out 1).trans rfl, (blk_cell BK208.out 2).trans rfl, (blk_cell BK208.out 3).trans rfl, (blk_cell BK208.out 4).trans rfl, (blk_cell BK208.out 5).trans rfl, ((HB.out.cell (World.block_lt_of_cell? w _ hw213_0)).trans hw213_0), ((HB.out.cell (World.block_lt_of_cell? w _ hw214_0)).trans hw214_0), ((HB.out.cell (World.block_lt_of_cell? w _ hw215_0)).trans hw215_0), ((HB.out.cell (World.block_lt_of_cell? w _ hw216_0)).trans hw216_0), ((HB.out.cell (World.block_lt_of_cell? w _ hw217_0)).trans hw217_0), ((HB.out.cell (World.block_lt_of_cell? w _ hw218_0)).trans hw218_0)⟩ (fun hHeld => ?_)
                                clear hK K
                                refine norm_ (a' := ?_) ?_ ?_
                                rotate_left
                                · show Act.put _ (some 59) _ = _
                                  simp only [Act.put, List.setIfInBounds_toArray, List.set_cons_zero, List.set_cons_succ, i64_w, i32_w]
                                  rfl
                                refine pure_ (i := 20) (N := some 39) (v := ?_) (a' := ?_) #[true, true, true, true, true, true, true, true, true, true, true, true, true, true, true, true, true, true, true, true, true, false, false, false, false, false] rfl rfl (any_of HT_.out (by kernel_rfl)) (fun _ _ _ h => h) (Or.inl ⟨by rfl, ?_⟩) ?_ ?_
                                rotate_left
                                · intro w'
                                  go_simp
                                  with_reducible rfl
                                rotate_left
                                · simp only [Act.put, List.setIfInBounds_toArray, List.set_cons_zero, List.set_cons_succ, i64_w, i32_w]
                                  rfl
                                refine pure_ (i := 21) (N := some 60) (v := ?_) (a' := ?_) #[true, true, true, true, true, true, true, true, true, true, true, true, true, true, true, true, true, true, true, true, true, true, false, false, false, false] rfl rfl (any_of HT_.out (by kernel_rfl)) (fun _ _ _ h => h) (Or.inl ⟨by rfl, ?_⟩) ?_ ?_
                                rotate_left
                                · intro w'
                                  go_simp
                                  with_reducible rfl
                                rotate_left
                                · simp only [Act.put, List.setIfInBounds_toArray, List.set_cons_zero, List.set_cons_succ, i64_w, i32_w]
                                  rfl
                                refine pure_ (i := 22) (N := some 61) (v := ?_) (a' := ?_) #[true, true, true, true, true, true, true, true, true, true, true, true, true, true, true, true, true, true, true, true, true, true, true, false, false, false] rfl rfl (any_of HT_.out (by kernel_rfl)) (fun _ _ _ h => h) (Or.inl ⟨by rfl, ?_⟩) ?_ ?_
                                rotate_left
                                · intro w'
                                  go_simp
                                  with_reducible rfl
                                rotate_left
                                · simp only [Act.put, List.setIfInBounds_toArray, List.set_cons_zero, List.set_cons_succ, i64_w, i32_w]
                                  rfl
                                refine one_ (i := 23) (N := some 11) #[true, true, true, true, true, true, true, true, true, true, true, true, true, true, true, true, true, true, true, true, true, true, true, true, false, false] rfl rfl (one_of HT_.out (by kernel_rfl)) (by decide) (fun K hK => ?_)
                                refine box_step ?hg (N := 11) ?hd (cs := #[.int .i64 0, .int .i64 0, .int .i64 0, .int .i64 0, .int .i64 0, .bool false]) (t := 24) ?hr ?_; (case hd => rfl); (case hg => rfl); (case hr => first | (go_simp; done) | (go_simp; rfl))
                                intro gb226 hg w44 hbox hb
                                have n0_ := Aside0.mk (Kd.R_below (ro_ HO_8.out) hb)
                                have n1_ := Aside0.mk (blk_below (g := gb200) (o := .cells #[.int .i64 0, .int .i64 0, .int .i64 0, .int .i64 0, .int .i64 0, .bool false] 24 (0, 0)) (bl_ BK200.out) hb)
                                have n2_ := Aside0.mk (blk_below (g := gb208) (o := .cells #[.int .i64 x209000_2, .int .i64 x209001_2, .int .i64 x209002_2, .int .i64 x209003_2, .int .i64 x209004_2, .bool x209005_2] 24 (0, 0)) (bl_ BK208.out) hb)
                                have n3_ := Aside0.mk (below_step (be_ HB.out) hb)
                                have n4_ := Aside0.mk (hbox)
                                have n5_ := Aside0.mk ((by rw [hg]; exact (below_size (be_ HB.out)) : w.heap.size ≤ gb226))
                                have n6_ := Aside0.mk ((by rw [hg]; exact (below_size (be_ HB.out)) : w.heap.size ≤ gb226))
                                have n7_ := Aside0.mk ((by rw [hg]; exact Nat.ne_of_lt (blk_lt (g := gb200) (o := .cells #[.int .i64 0, .int .i64 0, .int .i64 0, .int .i64 0, .int .i64 0, .bool false] 24 (0, 0)) (bl_ BK200.out)) : gb200 ≠ gb226))
                                have n8_ := Aside0.mk ((by rw [hg]; exact Nat.ne_of_gt (blk_lt (g := gb200) (o := .cells #[.int .i64 0, .int .i64 0, .int .i64 0, .int .i64 0, .int .i64 0, .bool false] 24 (0, 0)) (bl_ BK200.out)) : gb226 ≠ gb200))
                                have n9_ := Aside0.mk ((by rw [hg]; exact Nat.ne_of_lt (blk_lt (g := gb208) (o := .cells #[.int .i64 x209000_2, .int .i64 x209001_2, .int .i64 x209002_2, .int .i64 x209003_2, .int .i64 x209004_2, .bool x209005_2] 24 (0, 0)) (bl_ BK208.out)) : gb208 ≠ gb226))
                                have n10_ := Aside0.mk ((by rw [hg]; exact Nat.ne_of_gt (blk_lt (g := gb208) (o := .cells #[.int .i64 x209000_2, .int .i64 x209001_2, .int .i64 x209002_2, .int .i64 x209003_2, .int .i64 x209004_2, .bool x209005_2] 24 (0, 0)) (bl_ BK208.out)) : gb226 ≠ gb208))
                                clear HO_8
                                clear BK200
                                clear BK208
                                clear HB
                                have HO_8 := n0_
                                have BK200 := n1_
                                have BK208 := n2_
                                have HB := n3_
                                have BK226 := n4_
                                have GW226 := n5_
                                have GE226 := n6_
                                have NB200_226 := n7_
                                have NB226_200 := n8_
                                have NB208_226 := n9_
                                have NB226_208 := n10_
                                clear n0_ n1_ n2_ n3_ n4_ n5_ n6_ n7_ n8_ n9_ n10_
                                clear hb hbox hg
                                refine hK.out _ _ ⟨(blk_cell BK208.out 0).trans rfl, (blk_cell BK208.out 1).trans rfl, (blk_cell BK208.out 2).trans rfl, (blk_cell BK208.out 3).trans rfl, (blk_cell BK208.out 4).trans rfl, (blk_cell BK208.out 5).trans rfl, ((HB.out.cell (World.block_lt_of_cell? w _ hw213_0)).trans hw213_0), ((HB.out.cell (World.block_lt_of_cell? w _ hw214_0)).trans hw214_0), ((HB.out.cell (World.block_lt_of_cell? w _ hw215_0)).trans hw215_0), ((HB.out.cell (World.block_lt_of_cell? w _ hw216_0)).trans hw216_0), ((HB.out.cell (World.block_lt_of_cell? w _ hw217_0)).trans hw217_0), ((HB.out.cell (World.block_lt_of_cell? w _ hw218_0)).trans hw218_0)⟩ (fun hHeld => ?_)
                                clear hK K
                                refine norm_ (a' := ?_) ?_ ?_
                                rotate_left
                                · show Act.put _ (some 11) _ = _
                                  simp only [Act.put, List.setIfInBounds_toArray, List.set_cons_zero, List.set_cons_succ, i64_w, i32_w]
                                  rfl
                                exact norm_ (by simp only [putAll, Act.put, List.setIfInBounds_toArray, List.set_cons_zero, List.set_cons_succ]) (hCont (gb226) _ ⟨hHeld, (ro_ HO_8.out), (bl_ BK200.out), (bl_ BK208.out), (bl_ BK226.out), GW226.out, GE226.out, NB200_226.out, NB226_200.out, NB208_226.out, NB226_208.out, (be_ HB.out)⟩)
                              · skip
                                refine box_step ?hg (N := 11) ?hd (cs := #[.int .i64 0, .int .i64 0, .int .i64 0, .int .i64 0, .int .i64 0, .bool false]) (t := 24) ?hr ?_; (case hd => rfl); (case hg => rfl); (case hr => first | (go_simp; done) | (go_simp; rfl))
                                intro gb226 hg w43 hbox hb
                                have n0_ := Aside0.mk (Kd.R_below (ro_ HO_8.out) hb)
                                have n1_ := Aside0.mk (blk_below (g := gb200) (o := .cells #[.int .i64 0, .int .i64 0, .int .i64 0, .int .i64 0, .int .i64 0, .bool false] 24 (0, 0)) (bl_ BK200.out) hb)
                                have n2_ := Aside0.mk (blk_below (g := gb208) (o := .cells #[.int .i64 x209000_2, .int .i64 x209001_2, .int .i64 x209002_2, .int .i64 x209003_2, .int .i64 x209004_2, .bool x209005_2] 24 (0, 0)) (bl_ BK208.out) hb)
                                have n3_ := Aside0.mk (below_step (be_ HB.out) hb)
                                have n4_ := Aside0.mk (hbox)
                                have n5_ := Aside0.mk ((by rw [hg]; exact (below_size (be_ HB.out)) : w.heap.size ≤ gb226))
                                have n6_ := Aside0.mk ((by rw [hg]; exact (below_size (be_ HB.out)) : w.heap.size ≤ gb226))
                                have n7_ := Aside0.mk ((by rw [hg]; exact Nat.ne_of_lt (blk_lt (g := gb200) (o := .cells #[.int .i64 0, .int .i64 0, .int .i64 0, .int .i64 0, .int .i64 0, .bool false] 24 (0, 0)) (bl_ BK200.out)) : gb200 ≠ gb226))
                                have n8_ := Aside0.mk ((by rw [hg]; exact Nat.ne_of_gt (blk_lt (g := gb200) (o := .cells #[.int .i64 0, .int .i64 0, .int .i64 0, .int .i64 0, .int .i64 0, .bool false] 24 (0, 0)) (bl_ BK200.out)) : gb226 ≠ gb200))
                                have n9_ := Aside0.mk ((by rw [hg]; exact Nat.ne_of_lt (blk_lt (g := gb208) (o := .cells #[.int .i64 x209000_2, .int .i64 x209001_2, .int .i64 x209002_2, .int .i64 x209003_2, .int .i64 x209004_2, .bool x209005_2] 24 (0, 0)) (bl_ BK208.out)) : gb208 ≠ gb226))
                                have n10_ := Aside0.mk ((by rw [hg]; exact Nat.ne_of_gt (blk_lt (g := gb208) (o := .cells #[.int .i64 x209000_2, .int .i64 x209001_2, .int .i64 x209002_2, .int .i64 x209003_2, .int .i64 x209004_2, .bool x209005_2] 24 (0, 0)) (bl_ BK208.out)) : gb226 ≠ gb208))
                                clear HO_8
                                clear BK200
                                clear BK208
                                clear HB
                                have HO_8 := n0_
                                have BK200 := n1_
                                have BK208 := n2_
                                have HB := n3_
                                have BK226 := n4_
                                have GW226 := n5_
                                have GE226 := n6_
                                have NB200_226 := n7_
                                have NB226_200 := n8_
                                have NB208_226 := n9_
                                have NB226_208 := n10_
                                clear n0_ n1_ n2_ n3_ n4_ n5_ n6_ n7_ n8_ n9_ n10_
                                clear hb hbox hg
                                refine hK.out _ _ ⟨(blk_cell BK208.out 0).trans rfl, (blk_cell BK208.out 1).trans rfl, (blk_cell BK208.out 2).trans rfl, (blk_cell BK208.out 3).trans rfl, (blk_cell BK208.out 4).trans rfl, (blk_cell BK208.out 5).trans rfl, ((HB.out.cell (World.block_lt_of_cell? w _ hw213_0)).trans hw213_0), ((HB.out.cell (World.block_lt_of_cell? w _ hw214_0)).trans hw214_0), ((HB.out.cell (World.block_lt_of_cell? w _ hw215_0)).trans hw215_0), ((HB.out.cell (World.block_lt_of_cell? w _ hw216_0)).trans hw216_0), ((HB.out.cell (World.block_lt_of_cell? w _ hw217_0)).trans hw217_0), ((HB.out.cell (World.block_lt_of_cell? w _ hw218_0)).trans hw218_0)⟩ (fun hHeld => ?_)
                                clear hK K
                                refine norm_ (a' := ?_) ?_ ?_
                                rotate_left
                                · show Act.put _ (some 11) _ = _
                                  simp only [Act.put, List.setIfInBounds_toArray, List.set_cons_zero, List.set_cons_succ, i64_w, i32_w]
                                  rfl
                                refine one_ (i := 19) (N := some 59) #[true, true, true, true, true, true, true, true, true, true, true, true, true, true, true, true, true, true, true, true, false, false, false, true, false, false] rfl rfl (one_of HT_.out (by kernel_rfl)) (by decide) (fun K hK => ?_)
                                refine goes_ Try.func11 (by kernel_rfl) rfl #[.agg #[.int .i64 x209000_2, .int .i64 x209001_2, .int .i64 x209002_2, .int .i64 x209003_2, .int .i64 x209004_2, .bool x209005_2], .int .i64 (rd (rd_L1 l1 x9_2) 0), .int .i64 (rd (rd_L1 l1 x9_2) 1), .int .i64 (rd (rd_L1 l1 x9_2) 2)] (by rfl) rfl rfl (by (try simp only [List.map_toArray, List.map_cons, List.map_nil]); first | done | rfl | (simp only [List.length_drop, List.length_take]; rfl)) ?_
                                with_reducible refine (spec_StepConn.calls k2 x209000_2 x209001_2 x209002_2 x209003_2 x209004_2 x209005_2 (rd (rd_L1 l1 x9_2) 0) (rd (rd_L1 l1 x9_2) 1) (rd (rd_L1 l1 x9_2) 2) t219 t220 t221 t222 t223 t224 false _ A22.out).mono ?_
                                rintro e w44 ⟨rfl, hb⟩
                                refine ⟨_, rfl, ?_⟩
                                have n0_ := Aside0.mk (Kd.R_below (ro_ HO_8.out) hb)
                                have n1_ := Aside0.mk (blk_below (g := gb200) (o := .cells #[.int .i64 0, .int .i64 0, .int .i64 0, .int .i64 0, .int .i64 0, .bool false] 24 (0, 0)) (bl_ BK200.out) hb)
                                have n2_ := Aside0.mk (blk_below (g := gb208) (o := .cells #[.int .i64 x209000_2, .int .i64 x209001_2, .int .i64 x209002_2, .int .i64 x209003_2, .int .i64 x209004_2, .bool x209005_2] 24 (0, 0)) (bl_ BK208.out) hb)
                                have n3_ := Aside0.mk (blk_below (g := gb226) (o := .cells #[.int .i64 0, .int .i64 0, .int .i64 0, .int .i64 0, .int .i64 0, .bool false] 24 (0, 0)) (bl_ BK226.out) hb)
                                have n4_ := Aside0.mk (below_step (be_ HB.out) hb)
                                clear HO_8
                                clear BK200
                                clear BK208
                                clear BK226
                                clear HB
                                have HO_8 := n0_
                                have BK200 := n1_
                                have BK208 := n2_
                                have BK226 := n3_
                                have HB := n4_
                                clear n0_ n1_ n2_ n3_ n4_
                                (try clear hb)
                                (try clear hb2)
                                (try clear hk)
                                (try clear hi)
                                refine hK.out _ _ ⟨(blk_cell BK208.out 0).trans rfl, (blk_cell BK208.out 1).trans rfl, (blk_cell BK208.out 2).trans rfl, (blk_cell BK208.out 3).trans rfl, (blk_cell BK208.out 4).trans rfl, (blk_cell BK208.out 5).trans rfl, ((HB.out.cell (World.block_lt_of_cell? w _ hw213_0)).trans hw213_0), ((HB.out.cell (World.block_lt_of_cell? w _ hw214_0)).trans hw214_0), ((HB.out.cell (World.block_lt_of_cell? w _ hw215_0)).trans hw215_0), ((HB.out.cell (World.block_lt_of_cell? w _ hw216_0)).trans hw216_0), ((HB.out.cell (World.block_lt_of_cell? w _ hw217_0)).trans hw217_0), ((HB.out.cell (World.block_lt_of_cell? w _ hw218_0)).trans hw218_0)⟩ (fun hHeld => ?_)
                                clear hK K
                                refine norm_ (a' := ?_) ?_ ?_
                                rotate_left
                                · show Act.put _ (some 59) _ = _
                                  simp only [Act.put, List.setIfInBounds_toArray, List.set_cons_zero, List.set_cons_succ, i64_w, i32_w]
                                  rfl
                                refine pure_ (i := 20) (N := some 39) (v := ?_) (a' := ?_) #[true, true, true, true, true, true, true, true, true, true, true, true, true, true, true, true, true, true, true, true, true, false, false, true, false, false] rfl rfl (any_of HT_.out (by kernel_rfl)) (fun _ _ _ h => h) (Or.inl ⟨by rfl, ?_⟩) ?_ ?_
                                rotate_left
                                · intro w'
                                  go_simp
                                  with_reducible rfl
                                rotate_left
                                · simp only [Act.put, List.setIfInBounds_toArray, List.set_cons_zero, List.set_cons_succ, i64_w, i32_w]
                                  rfl
                                refine pure_ (i := 21) (N := some 60) (v := ?_) (a' := ?_) #[true, true, true, true, true, true, true, true, true, true, true, true, true, true, true, true, true, true, true, true, true, true, false, true, false, false] rfl rfl (any_of HT_.out (by kernel_rfl)) (fun _ _ _ h => h) (Or.inl ⟨by rfl, ?_⟩) ?_ ?_
                                rotate_left
                                · intro w'
                                  go_simp
                                  with_reducible rfl
                                rotate_left
                                · simp only [Act.put, List.setIfInBounds_toArray, List.set_cons_zero, List.set_cons_succ, i64_w, i32_w]
                                  rfl
                                refine pure_ (i := 22) (N := some 61) (v := ?_) (a' := ?_) #[true, true, true, true, true, true, true, true, true, true, true, true, true, true, true, true, true, true, true, true, true, true, true, true, false, false] rfl rfl (any_of HT_.out (by kernel_rfl)) (fun _ _ _ h => h) (Or.inl ⟨by rfl, ?_⟩) ?_ ?_
                                rotate_left
                                · intro w'
                                  go_simp
                                  with_reducible rfl
                                rotate_left
                                · simp only [Act.put, List.setIfInBounds_toArray, List.set_cons_zero, List.set_cons_succ, i64_w, i32_w]
                                  rfl
                                exact norm_ (by simp only [putAll, Act.put, List.setIfInBounds_toArray, List.set_cons_zero, List.set_cons_succ]) (hCont (gb226) _ ⟨hHeld, (ro_ HO_8.out), (bl_ BK200.out), (bl_ BK208.out), (bl_ BK226.out), GW226.out, GE226.out, NB200_226.out, NB226_200.out, NB208_226.out, NB226_208.out, (be_ HB.out)⟩)
                            rintro gb226 w45 ⟨hS_, h0_, h1_, h2_, h3_, h4_, h5_, h6_, h7_, h8_, h9_, h10_⟩
                            have n0_ : Aside0 (Kd.R (Kd.int .i64) 3 w45 w.heap.size (fun _ => True) u8 x8_2) := ⟨h0_⟩
                            have n1_ : Aside0 (w45.heap[gb200]? = some (.cells #[.int .i64 0, .int .i64 0, .int .i64 0, .int .i64 0, .int .i64 0, .bool false] 24 (0, 0))) := ⟨h1_⟩
                            have n2_ : Aside0 (w45.heap[gb208]? = some (.cells #[.int .i64 x209000_2, .int .i64 x209001_2, .int .i64 x209002_2, .int .i64 x209003_2, .int .i64 x209004_2, .bool x209005_2] 24 (0, 0))) := ⟨h2_⟩
                            have n3_ : Aside0 (w45.heap[gb226]? = some (.cells #[.int .i64 0, .int .i64 0, .int .i64 0, .int .i64 0, .int .i64 0, .bool false] 24 (0, 0))) := ⟨h3_⟩
                            have n4_ : Aside0 (w.heap.size ≤ gb226) := ⟨h4_⟩
                            have n5_ : Aside0 (w.heap.size ≤ gb226) := ⟨h5_⟩
                            have n6_ : Aside0 (gb200 ≠ gb226) := ⟨h6_⟩
                            have n7_ : Aside0 (gb226 ≠ gb200) := ⟨h7_⟩
                            have n8_ : Aside0 (gb208 ≠ gb226) := ⟨h8_⟩
                            have n9_ : Aside0 (gb226 ≠ gb208) := ⟨h9_⟩
                            have n10_ : Aside0 (Below w.heap.size w w45) := ⟨h10_⟩
                            clear HO_8
                            clear BK200
                            clear BK208
                            clear HB
                            clear h0_ h1_ h2_ h3_ h4_ h5_ h6_ h7_ h8_ h9_ h10_
                            have HO_8 := n0_
                            have BK200 := n1_
                            have BK208 := n2_
                            have BK226 := n3_
                            have GW226 := n4_
                            have GE226 := n5_
                            have NB200_226 := n6_
                            have NB226_200 := n7_
                            have NB208_226 := n8_
                            have NB226_208 := n9_
                            have HB := n10_
                            clear n0_ n1_ n2_ n3_ n4_ n5_ n6_ n7_ n8_ n9_ n10_
                            have hHeld : w45.cell? ⟨gb208, 0, none⟩ = some (.int .i64 x209000_2) ∧ w45.cell? ⟨gb208, 1, none⟩ = some (.int .i64 x209001_2) ∧ w45.cell? ⟨gb208, 2, none⟩ = some (.int .i64 x209002_2) ∧ w45.cell? ⟨gb208, 3, none⟩ = some (.int .i64 x209003_2) ∧ w45.cell? ⟨gb208, 4, none⟩ = some (.int .i64 x209004_2) ∧ w45.cell? ⟨gb208, 5, none⟩ = some (.bool x209005_2) ∧ w45.cell? (ad212.add (x9_2).toNat) = some (.slice (some ad214) (rd_L1 l1 x9_2).length c213_0) ∧ w45.cell? ad214 = some (.int .i64 (rd (rd_L1 l1 x9_2) 0)) ∧ w45.cell? (ad212.add (x9_2).toNat) = some (.slice (some ad214) (rd_L1 l1 x9_2).length c213_0) ∧ w45.cell? ⟨ad214.block, ad214.off + 1, none⟩ = some (.int .i64 (rd (rd_L1 l1 x9_2) 1)) ∧ w45.cell? (ad212.add (x9_2).toNat) = some (.slice (some ad214) (rd_L1 l1 x9_2).length c213_0) ∧ w45.cell? ⟨ad214.block, ad214.off + 2, none⟩ = some (.int .i64 (rd (rd_L1 l1 x9_2) 2)) := hS_
                            refine norm_ (a' := ?_) ?_ ?_
                            rotate_left
                            · simp only [putAll, Act.put, List.setIfInBounds_toArray, List.set_cons_zero, List.set_cons_succ]
                              rfl
                            refine one_ (i := 24) (N := none) #[true, true, true, true, true, true, true, true, true, true, true, true, true, true, true, true, true, true, true, true, true, true, true, true, true, false] rfl rfl (one_of HT_.out (by kernel_rfl)) (by decide) (fun K hK => ?_)
                            have hs46 : w45.cell? ⟨gb226, 0, none⟩ = some (.int .i64 0) := (blk_cell BK226.out 0).trans rfl
                            have hfs46 := blk_frozen BK226.out 0
                            have hns46_0 := NB200_226.out
                            have hns46_1 := NB208_226.out
                            have hms46_0 := NB226_200.out
                            have hms46_1 := NB226_208.out
                            have hs47 : w45.cell? ⟨gb226, 1, none⟩ = some (.int .i64 0) := (blk_cell BK226.out 1).trans rfl
                            have hfs47 := blk_frozen BK226.out 1
                            have hns47_0 := NB200_226.out
                            have hns47_1 := NB208_226.out
                            have hms47_0 := NB226_200.out
                            have hms47_1 := NB226_208.out
                            have hs48 : w45.cell? ⟨gb226, 2, none⟩ = some (.int .i64 0) := (blk_cell BK226.out 2).trans rfl
                            have hfs48 := blk_frozen BK226.out 2
                            have hns48_0 := NB200_226.out
                            have hns48_1 := NB208_226.out
                            have hms48_0 := NB226_200.out
                            have hms48_1 := NB226_208.out
                            have hs49 : w45.cell? ⟨gb226, 3, none⟩ = some (.int .i64 0) := (blk_cell BK226.out 3).trans rfl
                            have hfs49 := blk_frozen BK226.out 3
                            have hns49_0 := NB200_226.out
                            have hns49_1 := NB208_226.out
                            have hms49_0 := NB226_200.out
                            have hms49_1 := NB226_208.out
                            have hs50 : w45.cell? ⟨gb226, 4, none⟩ = some (.int .i64 0) := (blk_cell BK226.out 4).trans rfl
                            have hfs50 := blk_frozen BK226.out 4
                            have hns50_0 := NB200_226.out
                            have hns50_1 := NB208_226.out
                            have hms50_0 := NB226_200.out
                            have hms50_1 := NB226_208.out
                            have hs51 : w45.cell? ⟨gb226, 5, none⟩ = some (.bool false) := (blk_cell BK226.out 5).trans rfl
                            have hfs51 := blk_frozen BK226.out 5
                            have hns51_0 := NB200_226.out
                            have hns51_1 := NB208_226.out
                            have hms51_0 := NB226_200.out
                            have hms51_1 := NB226_208.out
                            refine skip_ (w1 := ?_) (by rfl) rfl ?_ ?_
                            rotate_left
                            · go_simp
                              rfl
                            refine hK.out _ _ ⟨((cell_far (p := ⟨gb226, _, none⟩) NB208_226.out _).trans (((cell_far (p := ⟨gb226, _, none⟩) NB208_226.out _).trans (((cell_far (p := ⟨gb226, _, none⟩) NB208_226.out _).trans (((cell_far (p := ⟨gb226, _, none⟩) NB208_226.out _).trans (((cell_far (p := ⟨gb226, _, none⟩) NB208_226.out _).trans (((cell_far (p := ⟨gb226, _, none⟩) NB208_226.out _).trans (hHeld.1)))))))))))), ((cell_far (p := ⟨gb226, _, none⟩) NB208_226.out _).trans (((cell_far (p := ⟨gb226, _, none⟩) NB208_226.out _).trans (((cell_far (p := ⟨gb226, _, none⟩) NB208_226.out _).trans (((cell_far (p := ⟨gb226, _, none⟩) NB208_226.out _).trans (((cell_far (p := ⟨gb226, _, none⟩) NB208_226.out _).trans (((cell_far (p := ⟨gb226, _, none⟩) NB208_226.out _).trans (hHeld.2.1)))))))))))), ((cell_far (p := ⟨gb226, _, none⟩) NB208_226.out _).trans (((cell_far (p := ⟨gb226, _, none⟩) NB208_226.out _).trans (((cell_far (p := ⟨gb226, _, none⟩) NB208_226.out _).trans (((cell_far (p := ⟨gb226, _, none⟩) NB208_226.out _).trans (((cell_far (p := ⟨gb226, _, none⟩) NB208_226.out _).trans (((cell_far (p := ⟨gb226, _, none⟩) NB208_226.out _).trans (hHeld.2.2.1)))))))))))), ((cell_far (p := ⟨gb226, _, none⟩) NB208_226.out _).trans (((cell_far (p := ⟨gb226, _, none⟩) NB208_226.out _).trans (((cell_far (p := ⟨gb226, _, none⟩) NB208_226.out _).trans (((cell_far (p := ⟨gb226, _, none⟩) NB208_226.out _).trans (((cell_far (p := ⟨gb226, _, none⟩) NB208_226.out _).trans (((cell_far (p := ⟨gb226, _, none⟩) NB208_226.out _).trans (hHeld.2.2.2.1)))))))))))), ((cell_far (p := ⟨gb226, _, none⟩) NB208_226.out _).trans (((cell_far (p := ⟨gb226, _, none⟩) NB208_226.out _).trans (((cell_far (p := ⟨gb226, _, none⟩) NB208_226.out _).trans (((cell_far (p := ⟨gb226, _, none⟩) NB208_226.out _).trans (((cell_far (p := ⟨gb226, _, none⟩) NB208_226.out _).trans (((cell_far (p := ⟨gb226, _, none⟩) NB208_226.out _).trans (hHeld.2.2.2.2.1)))))))))))), ((cell_far (p := ⟨gb226, _, none⟩) NB208_226.out _).trans (((cell_far (p := ⟨gb226, _, none⟩) NB208_226.out _).trans (((cell_far (p := ⟨gb226, _, none⟩) NB208_226.out _).trans (((cell_far (p := ⟨gb226, _, none⟩) NB208_226.out _).trans (((cell_far (p := ⟨gb226, _, none⟩) NB208_226.out _).trans (((cell_far (p := ⟨gb226, _, none⟩) NB208_226.out _).trans (hHeld.2.2.2.2.2.1)))))))))))), ((cell_far (p := ⟨gb226, _, none⟩) (by first | exact Nat.ne_of_lt (Nat.lt_of_lt_of_le (by have := World.block_lt_of_cell? _ _ hw213_0; first | rwa [add_block] at this | exact this) GW226.out) | (rw [add_block]; exact Nat.ne_of_lt (Nat.lt_of_lt_of_le (by have := World.block_lt_of_cell? _ _ hw213_0; first | rwa [add_block] at this | exact this) GW226.out)) | (show (Addr.add _ _).block ≠ _; rw [add_block]; exact Nat.ne_of_lt (Nat.lt_of_lt_of_le (by have := World.block_lt_of_cell? _ _ hw213_0; first | rwa [add_block] at this | exact this) GW226.out)) | (dsimp only; exact Nat.ne_of_lt (Nat.lt_of_lt_of_le (by have := World.block_lt_of_cell? _ _ hw213_0; first | rwa [add_block] at this | exact this) GW226.out))) _).trans (((cell_far (p := ⟨gb226, _, none⟩) (by first | exact Nat.ne_of_lt (Nat.lt_of_lt_of_le (by have := World.block_lt_of_cell? _ _ hw213_0; first | rwa [add_block] at this | exact this) GW226.out) | (rw [add_block]; exact Nat.ne_of_lt (Nat.lt_of_lt_of_le (by have := World.block_lt_of_cell? _ _ hw213_0; first | rwa [add_block] at this | exact this) GW226.out)) | (show (Addr.add _ _).block ≠ _; rw [add_block]; exact Nat.ne_of_lt (Nat.lt_of_lt_of_le (by have := World.block_lt_of_cell? _ _ hw213_0; first | rwa [add_block] at this | exact this) GW226.out)) | (dsimp only; exact Nat.ne_of_lt (Nat.lt_of_lt_of_le (by have := World.block_lt_of_cell? _ _ hw213_0; first | rwa [add_block] at this | exact this) GW226.out))) _).trans (((cell_far (p := ⟨gb226, _, none⟩) (by first | exact Nat.ne_of_lt (Nat.lt_of_lt_of_le (by have := World.block_lt_of_cell? _ _ hw213_0; first | rwa [add_block] at this | exact this) GW226.out) | (rw [add_block]; exact Nat.ne_of_lt (Nat.lt_of_lt_of_le (by have := World.block_lt_of_cell? _ _ hw213_0; first | rwa [add_block] at this | exact this) GW226.out)) | (show (Addr.add _ _).block ≠ _; rw [add_block]; exact Nat.ne_of_lt (Nat.lt_of_lt_of_le (by have := World.block_lt_of_cell? _ _ hw213_0; first | rwa [add_block] at this | exact this) GW226.out)) | (dsimp only; exact Nat.ne_of_lt (Nat.lt_of_lt_of_le (by have := World.block_lt_of_cell? _ _ hw213_0; first | rwa [add_block] at this | exact this) GW226.out))) _).trans (((cell_far (p := ⟨gb226, _, none⟩) (by first | exact Nat.ne_of_lt (Nat.lt_of_lt_of_le (by have := World.block_lt_of_cell? _ _ hw213_0; first | rwa [add_block] at this | exact this) GW226.out) | (rw [add_block]; exact Nat.ne_of_lt (Nat.lt_of_lt_of_le (by have := World.block_lt_of_cell? _ _ hw213_0; first | rwa [add_block] at this | exact this) GW226.out)) | (show (Addr.add _ _).block ≠ _; rw [add_block]; exact Nat.ne_of_lt (Nat.lt_of_lt_of_le (by have := World.block_lt_of_cell? _ _ hw213_0; first | rwa [add_block] at this | exact this) GW226.out)) | (dsimp only; exact Nat.ne_of_lt (Nat.lt_of_lt_of_le (by have := World.block_lt_of_cell? _ _ hw213_0; first | rwa [add_block] at this | exact this) GW226.out))) _).trans (((cell_far (p := ⟨gb226, _, none⟩) (by first | exact Nat.ne_of_lt (Nat.lt_of_lt_of_le (by have := World.block_lt_of_cell? _ _ hw213_0; first | rwa [add_block] at this | exact this) GW226.out) | (rw [add_block]; exact Nat.ne_of_lt (Nat.lt_of_lt_of_le (by have := World.block_lt_of_cell? _ _ hw213_0; first | rwa [add_block] at this | exact this) GW226.out)) | (show (Addr.add _ _).block ≠ _; rw [add_block]; exact Nat.ne_of_lt (Nat.lt_of_lt_of_le (by have := World.block_lt_of_cell? _ _ hw213_0; first | rwa [add_block] at this | exact this) GW226.out)) | (dsimp only; exact Nat.ne_of_lt (Nat.lt_of_lt_of_le (by have := World.block_lt_of_cell? _ _ hw213_0; first | rwa [add_block] at this | exact this) GW226.out))) _).trans (((cell_far (p := ⟨gb226, _, none⟩) (by first | exact Nat.ne_of_lt (Nat.lt_of_lt_of_le (by have := World.block_lt_of_cell? _ _ hw213_0; first | rwa [add_block] at this | exact this) GW226.out) | (rw [add_block]; exact Nat.ne_of_lt (Nat.lt_of_lt_of_le (by have := World.block_lt_of_cell? _ _ hw213_0; first | rwa [add_block] at this | exact this) GW226.out)) | (show (Addr.add _ _).block ≠ _; rw [add_block]; exact Nat.ne_of_lt (Nat.lt_of_lt_of_le (by have := World.block_lt_of_cell? _ _ hw213_0; first | rwa [add_block] at this | exact this) GW226.out)) | (dsimp only; exact Nat.ne_of_lt (Nat.lt_of_lt_of_le (by have := World.block_lt_of_cell? _ _ hw213_0; first | rwa [add_block] at this | exact this) GW226.out))) _).trans (hHeld.2.2.2.2.2.2.1)))))))))))), ((cell_far (p := ⟨gb226, _, none⟩) (by first | exact Nat.ne_of_lt (Nat.lt_of_lt_of_le (by have := World.block_lt_of_cell? _ _ hw214_0; first | rwa [add_block] at this | exact this) GW226.out) | (rw [add_block]; exact Nat.ne_of_lt (Nat.lt_of_lt_of_le (by have := World.block_lt_of_cell? _ _ hw214_0; first | rwa [add_block] at this | exact this) GW226.out)) | (show (Addr.add _ _).block ≠ _; rw [add_block]; exact Nat.ne_of_lt (Nat.lt_of_lt_of_le (by have := World.block_lt_of_cell? _ _ hw214_0; first | rwa [add_block] at this | exact this) GW226.out)) | (dsimp only; exact Nat.ne_of_lt (Nat.lt_of_lt_of_le (by have := World.block_lt_of_cell? _ _ hw214_0; first | rwa [add_block] at this | exact this) GW226.out))) _).trans (((cell_far (p := ⟨gb226, _, none⟩) (by first | exact Nat.ne_of_lt (Nat.lt_of_lt_of_le (by have := World.block_lt_of_cell? _ _ hw214_0; first | rwa [add_block] at this | exact this) GW226.out) | (rw [add_block]; exact Nat.ne_of_lt (Nat.lt_of_lt_of_le (by have := World.block_lt_of_cell? _ _ hw214_0; first | rwa [add_block] at this | exact this) GW226.out)) | (show (Addr.add _ _).block ≠ _; rw [add_block]; exact Nat.ne_of_lt (Nat.lt_of_lt_of_le (by have := World.block_lt_of_cell? _ _ hw214_0; first | rwa [add_block] at this | exact this) GW226.out)) | (dsimp only; exact Nat.ne_of_lt (Nat.lt_of_lt_of_le (by have := World.block_lt_of_cell? _ _ hw214_0; first | rwa [add_block] at this | exact this) GW226.out))) _).trans (((cell_far (p := ⟨gb226, _, none⟩) (by first | exact Nat.ne_of_lt (Nat.lt_of_lt_of_le (by have := World.block_lt_of_cell? _ _ hw214_0; first | rwa [add_block] at this | exact this) GW226.out) | (rw [add_block]; exact Nat.ne_of_lt (Nat.lt_of_lt_of_le (by have := World.block_lt_of_cell? _ _ hw214_0; first | rwa [add_block] at this | exact this) GW226.out)) | (show (Addr.add _ _).block ≠ _; rw [add_block]; exact Nat.ne_of_lt (Nat.lt_of_lt_of_le (by have := World.block_lt_of_cell? _ _ hw214_0; first | rwa [add_block] at this | exact this) GW226.out)) | (dsimp only; exact Nat.ne_of_lt (Nat.lt_of_lt_of_le (by have := World.block_lt_of_cell? _ _ hw214_0; first | rwa [add_block] at this | exact this) GW226.out))) _).trans (((cell_far (p := ⟨gb226, _, none⟩) (by first | exact Nat.ne_of_lt (Nat.lt_of_lt_of_le (by have := World.block_lt_of_cell? _ _ hw214_0; first | rwa [add_block] at this | exact this) GW226.out) | (rw [add_block]; exact Nat.ne_of_lt (Nat.lt_of_lt_of_le (by have := World.block_lt_of_cell? _ _ hw214_0; first | rwa [add_block] at this | exact this) GW226.out)) | (show (Addr.add _ _).block ≠ _; rw [add_block]; exact Nat.ne_of_lt (Nat.lt_of_lt_of_le (by have := World.block_lt_of_cell? _ _ hw214_0; first | rwa [add_block] at this | exact this) GW226.out)) | (dsimp only; exact Nat.ne_of_lt (Nat.lt_of_lt_of_le (by have := World.block_lt_of_cell? _ _ hw214_0; first | rwa [add_block] at this | exact this) GW226.out))) _).trans (((cell_far (p := ⟨gb226, _, none⟩) (by first | exact Nat.ne_of_lt (Nat.lt_of_lt_of_le (by have := World.block_lt_of_cell? _ _ hw214_0; first | rwa [add_block] at this | exact this) GW226.out) | (rw [add_block]; exact Nat.ne_of_lt (Nat.lt_of_lt_of_le (by have := World.block_lt_of_cell? _ _ hw214_0; first | rwa [add_block] at this | exact this) GW226.out)) | (show (Addr.add _ _).block ≠ _; rw [add_block]; exact Nat.ne_of_lt (Nat.lt_of_lt_of_le (by have := World.block_lt_of_cell? _ _ hw214_0; first | rwa [add_block] at this | exact this) GW226.out)) | (dsimp only; exact Nat.ne_of_lt (Nat.lt_of_lt_of_le (by have := World.block_lt_of_cell? _ _ hw214_0; first | rwa [add_block] at this | exact this) GW226.out))) _).trans (((cell_far (p := ⟨gb226, _, none⟩) (by first | exact Nat.ne_of_lt (Nat.lt_of_lt_of_le (by have := World.block_lt_of_cell? _ _ hw214_0; first | rwa [add_block] at this | exact this) GW226.out) | (rw [add_block]; exact Nat.ne_of_lt (Nat.lt_of_lt_of_le (by have := World.block_lt_of_cell? _ _ hw214_0; first | rwa [add_block] at this | exact this) GW226.out)) | (show (Addr.add _ _).block ≠ _; rw [add_block]; exact Nat.ne_of_lt (Nat.lt_of_lt_of_le (by have := World.block_lt_of_cell? _ _ hw214_0; first | rwa [add_block] at this | exact this) GW226.out)) | (dsimp only; exact Nat.ne_of_lt (Nat.lt_of_lt_of_le (by have := World.block_lt_of_cell? _ _ hw214_0; first | rwa [add_block] at this | exact this) GW226.out))) _).trans (hHeld.2.2.2.2.2.2.2.1)))))))))))), ((cell_far (p := ⟨gb226, _, none⟩) (by first | exact Nat.ne_of_lt (Nat.lt_of_lt_of_le (by have := World.block_lt_of_cell? _ _ hw215_0; first | rwa [add_block] at this | exact this) GW226.out) | (rw [add_block]; exact Nat.ne_of_lt (Nat.lt_of_lt_of_le (by have := World.block_lt_of_cell? _ _ hw215_0; first | rwa [add_block] at this | exact this) GW226.out)) | (show (Addr.add _ _).block ≠ _; rw [add_block]; exact Nat.ne_of_lt (Nat.lt_of_lt_of_le (by have := World.block_lt_of_cell? _ _ hw215_0; first | rwa [add_block] at this | exact this) GW226.out)) | (dsimp only; exact Nat.ne_of_lt (Nat.lt_of_lt_of_le (by have := World.block_lt_of_cell? _ _ hw215_0; first | rwa [add_block] at this | exact this) GW226.out))) _).trans (((cell_far (p := ⟨gb226, _, none⟩) (by first | exact Nat.ne_of_lt (Nat.lt_of_lt_of_le (by have := World.block_lt_of_cell? _ _ hw215_0; first | rwa [add_block] at this | exact this) GW226.out) | (rw [add_block]; exact Nat.ne_of_lt (Nat.lt_of_lt_of_le (by have := World.block_lt_of_cell? _ _ hw215_0; first | rwa [add_block] at this | exact this) GW226.out)) | (show (Addr.add _ _).block ≠ _; rw [add_block]; exact Nat.ne_of_lt (Nat.lt_of_lt_of_le (by have := World.block_lt_of_cell? _ _ hw215_0; first | rwa [add_block] at this | exact this) GW226.out)) | (dsimp only; exact Nat.ne_of_lt (Nat.lt_of_lt_of_le (by have := World.block_lt_of_cell? _ _ hw215_0; first | rwa [add_block] at this | exact this) GW226.out))) _).trans (((cell_far (p := ⟨gb226, _, none⟩) (by first | exact Nat.ne_of_lt (Nat.lt_of_lt_of_le (by have := World.block_lt_of_cell? _ _ hw215_0; first | rwa [add_block] at this | exact this) GW226.out) | (rw [add_block]; exact Nat.ne_of_lt (Nat.lt_of_lt_of_le (by have := World.block_lt_of_cell? _ _ hw215_0; first | rwa [add_block] at this | exact this) GW226.out)) | (show (Addr.add _ _).block ≠ _; rw [add_block]; exact Nat.ne_of_lt (Nat.lt_of_lt_of_le (by have := World.block_lt_of_cell? _ _ hw215_0; first | rwa [add_block] at this | exact this) GW226.out)) | (dsimp only; exact Nat.ne_of_lt (Nat.lt_of_lt_of_le (by have := World.block_lt_of_cell? _ _ hw215_0; first | rwa [add_block] at this | exact this) GW226.out))) _).trans (((cell_far (p := ⟨gb226, _, none⟩) (by first | exact Nat.ne_of_lt (Nat.lt_of_lt_of_le (by have := World.block_lt_of_cell? _ _ hw215_0; first | rwa [add_block] at this | exact this) GW226.out) | (rw [add_block]; exact Nat.ne_of_lt (Nat.lt_of_lt_of_le (by have := World.block_lt_of_cell? _ _ hw215_0; first | rwa [add_block] at this | exact this) GW226.out)) | (show (Addr.add _ _).block ≠ _; rw [add_block]; exact Nat.ne_of_lt (Nat.lt_of_lt_of_le (by have := World.block_lt_of_cell? _ _ hw215_0; first | rwa [add_block] at this | exact this) GW226.out)) | (dsimp only; exact Nat.ne_of_lt (Nat.lt_of_lt_of_le (by have := World.block_lt_of_cell? _ _ hw215_0; first | rwa [add_block] at this | exact this) GW226.out))) _).trans (((cell_far (p := ⟨gb226, _, none⟩) (by first | exact Nat.ne_of_lt (Nat.lt_of_lt_of_le (by have := World.block_lt_of_cell? _ _ hw215_0; first | rwa [add_block] at this | exact this) GW226.out) | (rw [add_block]; exact Nat.ne_of_lt (Nat.lt_of_lt_of_le (by have := World.block_lt_of_cell? _ _ hw215_0; first | rwa [add_block] at this | exact this) GW226.out)) | (show (Addr.add _ _).block ≠ _; rw [add_block]; exact Nat.ne_of_lt (Nat.lt_of_lt_of_le (by have := World.block_lt_of_cell? _ _ hw215_0; first | rwa [add_block] at this | exact this) GW226.out)) | (dsimp only; exact Nat.ne_of_lt (Nat.lt_of_lt_of_le (by have := World.block_lt_of_cell? _ _ hw215_0; first | rwa [add_block] at this | exact this) GW226.out))) _).trans (((cell_far (p := ⟨gb226, _, none⟩) (by first | exact Nat.ne_of_lt (Nat.lt_of_lt_of_le (by have := World.block_lt_of_cell? _ _ hw215_0; first | rwa [add_block] at this | exact this) GW226.out) | (rw [add_block]; exact Nat.ne_of_lt (Nat.lt_of_lt_of_le (by have := World.block_lt_of_cell? _ _ hw215_0; first | rwa [add_block] at this | exact this) GW226.out)) | (show (Addr.add _ _).block ≠ _; rw [add_block]; exact Nat.ne_of_lt (Nat.lt_of_lt_of_le (by have := World.block_lt_of_cell? _ _ hw215_0; first | rwa [add_block] at this | exact this) GW226.out)) | (dsimp only; exact Nat.ne_of_lt (Nat.lt_of_lt_of_le (by have := World.block_lt_of_cell? _ _ hw215_0; first | rwa [add_block] at this | exact this) GW226.out))) _).trans (hHeld.2.2.2.2.2.2.2.2.1)))))))))))), ((cell_far (p := ⟨gb226, _, none⟩) (by first | exact Nat.ne_of_lt (Nat.lt_of_lt_of_le (by have := World.block_lt_of_cell? _ _ hw216_0; first | rwa [add_block] at this | exact this) GW226.out) | (rw [add_block]; exact Nat.ne_of_lt (Nat.lt_of_lt_of_le (by have := World.block_lt_of_cell? _ _ hw216_0; first | rwa [add_block] at this | exact this) GW226.out)) | (show (Addr.add _ _).block ≠ _; rw [add_block]; exact Nat.ne_of_lt (Nat.lt_of_lt_of_le (by have := World.block_lt_of_cell? _ _ hw216_0; first | rwa [add_block] at this | exact this) GW226.out)) | (dsimp only; exact Nat.ne_of_lt (Nat.lt_of_lt_of_le (by have := World.block_lt_of_cell? _ _ hw216_0; first | rwa [add_block] at this | exact this) GW226.out))) _).trans (((cell_far (p := ⟨gb226, _, none⟩) (by first | exact Nat.ne_of_lt (Nat.lt_of_lt_of_le (by have := World.block_lt_of_cell? _ _ hw216_0; first | rwa [add_block] at this | exact this) GW226.out) | (rw [add_block]; exact Nat.ne_of_lt (Nat.lt_of_lt_of_le (by have := World.block_lt_of_cell? _ _ hw216_0; first | rwa [add_block] at this | exact this) GW226.out)) | (show (Addr.add _ _).block ≠ _; rw [add_block]; exact Nat.ne_of_lt (Nat.lt_of_lt_of_le (by have := World.block_lt_of_cell? _ _ hw216_0; first | rwa [add_block] at this | exact this) GW226.out)) | (dsimp only; exact Nat.ne_of_lt (Nat.lt_of_lt_of_le (by have := World.block_lt_of_cell? _ _ hw216_0; first | rwa [add_block] at this | exact this) GW226.out))) _).trans (((cell_far (p := ⟨gb226, _, none⟩) (by first | exact Nat.ne_of_lt (Nat.lt_of_lt_of_le (by have := World.block_lt_of_cell? _ _ hw216_0; first | rwa [add_block] at this | exact this) GW226.out) | (rw [add_block]; exact Nat.ne_of_lt (Nat.lt_of_lt_of_le (by have := World.block_lt_of_cell? _ _ hw216_0; first | rwa [add_block] at this | exact this) GW226.out)) | (show (Addr.add _ _).block ≠ _; rw [add_block]; exact Nat.ne_of_lt (Nat.lt_of_lt_of_le (by have := World.block_lt_of_cell? _ _ hw216_0; first | rwa [add_block] at this | exact this) GW226.out)) | (dsimp only; exact Nat.ne_of_lt (Nat.lt_of_lt_of_le (by have := World.block_lt_of_cell? _ _ hw216_0; first | rwa [add_block] at this | exact this) GW226.out))) _).trans (((cell_far (p := ⟨gb226, _, none⟩) (by first | exact Nat.ne_of_lt (Nat.lt_of_lt_of_le (by have := World.block_lt_of_cell? _ _ hw216_0; first | rwa [add_block] at this | exact this) GW226.out) | (rw [add_block]; exact Nat.ne_of_lt (Nat.lt_of_lt_of_le (by have := World.block_lt_of_cell? _ _ hw216_0; first | rwa [add_block] at this | exact this) GW226.out)) | (show (Addr.add _ _).block ≠ _; rw [add_block]; exact Nat.ne_of_lt (Nat.lt_of_lt_of_le (by have := World.block_lt_of_cell? _ _ hw216_0; first | rwa [add_block] at this | exact this) GW226.out)) | (dsimp only; exact Nat.ne_of_lt (Nat.lt_of_lt_of_le (by have := World.block_lt_of_cell? _ _ hw216_0; first | rwa [add_block] at this | exact this) GW226.out))) _).trans (((cell_far (p := ⟨gb226, _, none⟩) (by first | exact Nat.ne_of_lt (Nat.lt_of_lt_of_le (by have := World.block_lt_of_cell? _ _ hw216_0; first | rwa [add_block] at this | exact this) GW226.out) | (rw [add_block]; exact Nat.ne_of_lt (Nat.lt_of_lt_of_le (by have := World.block_lt_of_cell? _ _ hw216_0; first | rwa [add_block] at this | exact this) GW226.out)) | (show (Addr.add _ _).block ≠ _; rw [add_block]; exact Nat.ne_of_lt (Nat.lt_of_lt_of_le (by have := World.block_lt_of_cell? _ _ hw216_0; first | rwa [add_block] at this | exact this) GW226.out)) | (dsimp only; exact Nat.ne_of_lt (Nat.lt_of_lt_of_le (by have := World.block_lt_of_cell? _ _ hw216_0; first | rwa [add_block] at this | exact this) GW226.out))) _).trans (((cell_far (p := ⟨gb226, _, none⟩) (by first | exact Nat.ne_of_lt (Nat.lt_of_lt_of_le (by have := World.block_lt_of_cell? _ _ hw216_0; first | rwa [add_block] at this | exact this) GW226.out) | (rw [add_block]; exact Nat.ne_of_lt (Nat.lt_of_lt_of_le (by have := World.block_lt_of_cell? _ _ hw216_0; first | rwa [add_block] at this | exact this) GW226.out)) | (show (Addr.add _ _).block ≠ _; rw [add_block]; exact Nat.ne_of_lt (Nat.lt_of_lt_of_le (by have := World.block_lt_of_cell? _ _ hw216_0; first | rwa [add_block] at this | exact this) GW226.out)) | (dsimp only; exact Nat.ne_of_lt (Nat.lt_of_lt_of_le (by have := World.block_lt_of_cell? _ _ hw216_0; first | rwa [add_block] at this | exact this) GW226.out))) _).trans (hHeld.2.2.2.2.2.2.2.2.2.1)))))))))))), ((cell_far (p := ⟨gb226, _, none⟩) (by first | exact Nat.ne_of_lt (Nat.lt_of_lt_of_le (by have := World.block_lt_of_cell? _ _ hw217_0; first | rwa [add_block] at this | exact this) GW226.out) | (rw [add_block]; exact Nat.ne_of_lt (Nat.lt_of_lt_of_le (by have := World.block_lt_of_cell? _ _ hw217_0; first | rwa [add_block] at this | exact this) GW226.out)) | (show (Addr.add _ _).block ≠ _; rw [add_block]; exact Nat.ne_of_lt (Nat.lt_of_lt_of_le (by have := World.block_lt_of_cell? _ _ hw217_0; first | rwa [add_block] at this | exact this) GW226.out)) | (dsimp only; exact Nat.ne_of_lt (Nat.lt_of_lt_of_le (by have := World.block_lt_of_cell? _ _ hw217_0; first | rwa [add_block] at this | exact this) GW226.out))) _).trans (((cell_far (p := ⟨gb226, _, none⟩) (by first | exact Nat.ne_of_lt (Nat.lt_of_lt_of_le (by have := World.block_lt_of_cell? _ _ hw217_0; first | rwa [add_block] at this | exact this) GW226.out) | (rw [add_block]; exact Nat.ne_of_lt (Nat.lt_of_lt_of_le (by have := World.block_lt_of_cell? _ _ hw217_0; first | rwa [add_block] at this | exact this) GW226.out)) | (show (Addr.add _ _).block ≠ _; rw [add_block]; exact Nat.ne_of_lt (Nat.lt_of_lt_of_le (by have := World.block_lt_of_cell? _ _ hw217_0; first | rwa [add_block] at this | exact this) GW226.out)) | (dsimp only; exact Nat.ne_of_lt (Nat.lt_of_lt_of_le (by have := World.block_lt_of_cell? _ _ hw217_0; first | rwa [add_block] at this | exact this) GW226.out))) _).trans (((cell_far (p := ⟨gb226, _, none⟩) (by first | exact Nat.ne_of_lt (Nat.lt_of_lt_of_le (by have := World.block_lt_of_cell? _ _ hw217_0; first | rwa [add_block] at this | exact this) GW226.out) | (rw [add_block]; exact Nat.ne_of_lt (Nat.lt_of_lt_of_le (by have := World.block_lt_of_cell? _ _ hw217_0; first | rwa [add_block] at this | exact this) GW226.out)) | (show (Addr.add _ _).block ≠ _; rw [add_block]; exact Nat.ne_of_lt (Nat.lt_of_lt_of_le (by have := World.block_lt_of_cell? _ _ hw217_0; first | rwa [add_block] at this | exact this) GW226.out)) | (dsimp only; exact Nat.ne_of_lt (Nat.lt_of_lt_of_le (by have := World.block_lt_of_cell? _ _ hw217_0; first | rwa [add_block] at this | exact this) GW226.out))) _).trans (((cell_far (p := ⟨gb226, _, none⟩) (by first | exact Nat.ne_of_lt (Nat.lt_of_lt_of_le (by have := World.block_lt_of_cell? _ _ hw217_0; first | rwa [add_block] at this | exact this) GW226.out) | (rw [add_block]; exact Nat.ne_of_lt (Nat.lt_of_lt_of_le (by have := World.block_lt_of_cell? _ _ hw217_0; first | rwa [add_block] at this | exact this) GW226.out)) | (show (Addr.add _ _).block ≠ _; rw [add_block]; exact Nat.ne_of_lt (Nat.lt_of_lt_of_le (by have := World.block_lt_of_cell? _ _ hw217_0; first | rwa [add_block] at this | exact this) GW226.out)) | (dsimp only; exact Nat.ne_of_lt (Nat.lt_of_lt_of_le (by have := World.block_lt_of_cell? _ _ hw217_0; first | rwa [add_block] at this | exact this) GW226.out))) _).trans (((cell_far (p := ⟨gb226, _, none⟩) (by first | exact Nat.ne_of_lt (Nat.lt_of_lt_of_le (by have := World.block_lt_of_cell? _ _ hw217_0; first | rwa [add_block] at this | exact this) GW226.out) | (rw [add_block]; exact Nat.ne_of_lt (Nat.lt_of_lt_of_le (by have := World.block_lt_of_cell? _ _ hw217_0; first | rwa [add_block] at this | exact this) GW226.out)) | (show (Addr.add _ _).block ≠ _; rw [add_block]; exact Nat.ne_of_lt (Nat.lt_of_lt_of_le (by have := World.block_lt_of_cell? _ _ hw217_0; first | rwa [add_block] at this | exact this) GW226.out)) | (dsimp only; exact Nat.ne_of_lt (Nat.lt_of_lt_of_le (by have := World.block_lt_of_cell? _ _ hw217_0; first | rwa [add_block] at this | exact this) GW226.out))) _).trans (((cell_far (p := ⟨gb226, _, none⟩) (by first | exact Nat.ne_of_lt (Nat.lt_of_lt_of_le (by have := World.block_lt_of_cell? _ _ hw217_0; first | rwa [add_block] at this | exact this) GW226.out) | (rw [add_block]; exact Nat.ne_of_lt (Nat.lt_of_lt_of_le (by have := World.block_lt_of_cell? _ _ hw217_0; first | rwa [add_block] at this | exact this) GW226.out)) | (show (Addr.add _ _).block ≠ _; rw [add_block]; exact Nat.ne_of_lt (Nat.lt_of_lt_of_le (by have := World.block_lt_of_cell? _ _ hw217_0; first | rwa [add_block] at this | exact this) GW226.out)) | (dsimp only; exact Nat.ne_of_lt (Nat.lt_of_lt_of_le (by have := World.block_lt_of_cell? _ _ hw217_0; first | rwa [add_block] at this | exact this) GW226.out))) _).trans (hHeld.2.2.2.2.2.2.2.2.2.2.1)))))))))))), ((cell_far (p := ⟨gb226, _, none⟩) (by first | exact Nat.ne_of_lt (Nat.lt_of_lt_of_le (by have := World.block_lt_of_cell? _ _ hw218_0; first | rwa [add_block] at this | exact this) GW226.out) | (rw [add_block]; exact Nat.ne_of_lt (Nat.lt_of_lt_of_le (by have := World.block_lt_of_cell? _ _ hw218_0; first | rwa [add_block] at this | exact this) GW226.out)) | (show (Addr.add _ _).block ≠ _; rw [add_block]; exact Nat.ne_of_lt (Nat.lt_of_lt_of_le (by have := World.block_lt_of_cell? _ _ hw218_0; first | rwa [add_block] at this | exact this) GW226.out)) | (dsimp only; exact Nat.ne_of_lt (Nat.lt_of_lt_of_le (by have := World.block_lt_of_cell? _ _ hw218_0; first | rwa [add_block] at this | exact this) GW226.out))) _).trans (((cell_far (p := ⟨gb226, _, none⟩) (by first | exact Nat.ne_of_lt (Nat.lt_of_lt_of_le (by have := World.block_lt_of_cell? _ _ hw218_0; first | rwa [add_block] at this | exact this) GW226.out) | (rw [add_block]; exact Nat.ne_of_lt (Nat.lt_of_lt_of_le (by have := World.block_lt_of_cell? _ _ hw218_0; first | rwa [add_block] at this | exact this) GW226.out)) | (show (Addr.add _ _).block ≠ _; rw [add_block]; exact Nat.ne_of_lt (Nat.lt_of_lt_of_le (by have := World.block_lt_of_cell? _ _ hw218_0; first | rwa [add_block] at this | exact this) GW226.out)) | (dsimp only; exact Nat.ne_of_lt (Nat.lt_of_lt_of_le (by have := World.block_lt_of_cell? _ _ hw218_0; first | rwa [add_block] at this | exact this) GW226.out))) _).trans (((cell_far (p := ⟨gb226, _, none⟩) (by first | exact Nat.ne_of_lt (Nat.lt_of_lt_of_le (by have := World.block_lt_of_cell? _ _ hw218_0; first | rwa [add_block] at this | exact this) GW226.out) | (rw [add_block]; exact Nat.ne_of_lt (Nat.lt_of_lt_of_le (by have := World.block_lt_of_cell? _ _ hw218_0; first | rwa [add_block] at this | exact this) GW226.out)) | (show (Addr.add _ _).block ≠ _; rw [add_block]; exact Nat.ne_of_lt (Nat.lt_of_lt_of_le (by have := World.block_lt_of_cell? _ _ hw218_0; first | rwa [add_block] at this | exact this) GW226.out)) | (dsimp only; exact Nat.ne_of_lt (Nat.lt_of_lt_of_le (by have := World.block_lt_of_cell? _ _ hw218_0; first | rwa [add_block] at this | exact this) GW226.out))) _).trans (((cell_far (p := ⟨gb226, _, none⟩) (by first | exact Nat.ne_of_lt (Nat.lt_of_lt_of_le (by have := World.block_lt_of_cell? _ _ hw218_0; first | rwa [add_block] at this | exact this) GW226.out) | (rw [add_block]; exact Nat.ne_of_lt (Nat.lt_of_lt_of_le (by have := World.block_lt_of_cell? _ _ hw218_0; first | rwa [add_block] at this | exact this) GW226.out)) | (show (Addr.add _ _).block ≠ _; rw [add_block]; exact Nat.ne_of_lt (Nat.lt_of_lt_of_le (by have := World.block_lt_of_cell? _ _ hw218_0; first | rwa [add_block] at this | exact this) GW226.out)) | (dsimp only; exact Nat.ne_of_lt (Nat.lt_of_lt_of_le (by have := World.block_lt_of_cell? _ _ hw218_0; first | rwa [add_block] at this | exact this) GW226.out))) _).trans (((cell_far (p := ⟨gb226, _, none⟩) (by first | exact Nat.ne_of_lt (Nat.lt_of_lt_of_le (by have := World.block_lt_of_cell? _ _ hw218_0; first | rwa [add_block] at this | exact this) GW226.out) | (rw [add_block]; exact Nat.ne_of_lt (Nat.lt_of_lt_of_le (by have := World.block_lt_of_cell? _ _ hw218_0; first | rwa [add_block] at this | exact this) GW226.out)) | (show (Addr.add _ _).block ≠ _; rw [add_block]; exact Nat.ne_of_lt (Nat.lt_of_lt_of_le (by have := World.block_lt_of_cell? _ _ hw218_0; first | rwa [add_block] at this | exact this) GW226.out)) | (dsimp only; exact Nat.ne_of_lt (Nat.lt_of_lt_of_le (by have := World.block_lt_of_cell? _ _ hw218_0; first | rwa [add_block] at this | exact this) GW226.out))) _).trans (((cell_far (p := ⟨gb226, _, none⟩) (by first | exact Nat.ne_of_lt (Nat.lt_of_lt_of_le (by have := World.block_lt_of_cell? _ _ hw218_0; first | rwa [add_block] at this | exact this) GW226.out) | (rw [add_block]; exact Nat.ne_of_lt (Nat.lt_of_lt_of_le (by have := World.block_lt_of_cell? _ _ hw218_0; first | rwa [add_block] at this | exact this) GW226.out)) | (show (Addr.add _ _).block ≠ _; rw [add_block]; exact Nat.ne_of_lt (Nat.lt_of_lt_of_le (by have := World.block_lt_of_cell? _ _ hw218_0; first | rwa [add_block] at this | exact this) GW226.out)) | (dsimp only; exact Nat.ne_of_lt (Nat.lt_of_lt_of_le (by have := World.block_lt_of_cell? _ _ hw218_0; first | rwa [add_block] at this | exact this) GW226.out))) _).trans (hHeld.2.2.2.2.2.2.2.2.2.2.2))))))))))))⟩ (fun hHeld => ?_)
                            clear hK K
                            refine pure_ (i := 25) (N := some 12) (v := ?_) (a' := ?_) #[true, true, true, true, true, true, true, true, true, true, true, true, true, true, true, true, true, true, true, true, true, true, true, true, true, true] rfl rfl (any_of HT_.out (by kernel_rfl)) (fun _ _ _ h => h) (Or.inl ⟨by rfl, ?_⟩) ?_ ?_
                            rotate_left
                            · intro w'
                              go_simp
                              with_reducible rfl
                            rotate_left
                            · simp only [Act.put, List.setIfInBounds_toArray, List.set_cons_zero, List.set_cons_succ, i64_w, i32_w]
                              rfl
                            refine done_ (done_of HT_.out (by kernel_rfl)) ?_
                            have hnb52 := NB226_200.out
                            have hnc52 := NB200_226.out
                            have hnb53 := NB226_208.out
                            have hnc53 := NB208_226.out
                            have hcz54_0 : w45.cell? ⟨gb226, 0, none⟩ = some (.int .i64 0) := (blk_cell BK226.out 0).trans rfl
                            have hcz54_1 : w45.cell? ⟨gb226, 1, none⟩ = some (.int .i64 0) := (blk_cell BK226.out 1).trans rfl
                            have hcz54_2 : w45.cell? ⟨gb226, 2, none⟩ = some (.int .i64 0) := (blk_cell BK226.out 2).trans rfl
                            have hcz54_3 : w45.cell? ⟨gb226, 3, none⟩ = some (.int .i64 0) := (blk_cell BK226.out 3).trans rfl
                            have hcz54_4 : w45.cell? ⟨gb226, 4, none⟩ = some (.int .i64 0) := (blk_cell BK226.out 4).trans rfl
                            have hcz54_5 : w45.cell? ⟨gb226, 5, none⟩ = some (.bool false) := (blk_cell BK226.out 5).trans rfl
                            have hfz54_0 := blk_frozen BK226.out 0
                            have hfz54_1 := blk_frozen BK226.out 1
                            have hfz54_2 := blk_frozen BK226.out 2
                            have hfz54_3 := blk_frozen BK226.out 3
                            have hfz54_4 := blk_frozen BK226.out 4
                            have hfz54_5 := blk_frozen BK226.out 5
                            have hnb55 := NB208_200.out
                            have hnc55 := NB200_208.out
                            have hcz56_0 : w45.cell? ⟨gb208, 0, none⟩ = some (.int .i64 x209000_2) := (blk_cell BK208.out 0).trans rfl
                            have hcz56_1 : w45.cell? ⟨gb208, 1, none⟩ = some (.int .i64 x209001_2) := (blk_cell BK208.out 1).trans rfl
                            have hcz56_2 : w45.cell? ⟨gb208, 2, none⟩ = some (.int .i64 x209002_2) := (blk_cell BK208.out 2).trans rfl
                            have hcz56_3 : w45.cell? ⟨gb208, 3, none⟩ = some (.int .i64 x209003_2) := (blk_cell BK208.out 3).trans rfl
                            have hcz56_4 : w45.cell? ⟨gb208, 4, none⟩ = some (.int .i64 x209004_2) := (blk_cell BK208.out 4).trans rfl
                            have hcz56_5 : w45.cell? ⟨gb208, 5, none⟩ = some (.bool x209005_2) := (blk_cell BK208.out 5).trans rfl
                            have hfz56_0 := blk_frozen BK208.out 0
                            have hfz56_1 := blk_frozen BK208.out 1
                            have hfz56_2 := blk_frozen BK208.out 2
                            have hfz56_3 := blk_frozen BK208.out 3
                            have hfz56_4 := blk_frozen BK208.out 4
                            have hfz56_5 := blk_frozen BK208.out 5
                            try go_wp2_with (first | ((with_reducible refine gate_builtin (b := .append) (xs := #[.tmp 64, .tmp 66]) rfl ?_); (try (refine gate_guard (by rfl) ?_; dsimp only)); at_builtin; refine Kd.R_append (Kd.int .i64) (w0 := w) w.heap.size rfl (.tmp 64) (.tmp 66) 58 3 (.int .i64 0) 8 rfl Try.underlying58 info3 rfl (by decide) (by omega) u8 x8_2 0 [.int .i64 0] (fun _ => True) (fun _ => False) rfl (by first | (go_simp; done) | (go_simp; rfl)) ?aP (fun _ hk => hk.elim) ?aF ?aO ?aB ?aS ?aL ?_; (case aP => exact rfl); (case aB => exact (be_ HB.out)); (case aF => exact (fun _ _ => trivial)); (case aO => exact (by (with_reducible repeat (first | apply Kd.R_alloc | apply Kd.R_drewN | apply Kd.R_drew)); exact Kd.R_mono (Kd.R_far (p := ⟨gb208, 5, none⟩) (Kd.R_far (p := ⟨gb208, 4, none⟩) (Kd.R_far (p := ⟨gb208, 3, none⟩) (Kd.R_far (p := ⟨gb208, 2, none⟩) (Kd.R_far (p := ⟨gb208, 1, none⟩) (Kd.R_far (p := ⟨gb208, 0, none⟩) (Kd.R_far (p := ⟨gb226, 5, none⟩) (Kd.R_far (p := ⟨gb226, 4, none⟩) (Kd.R_far (p := ⟨gb226, 3, none⟩) (Kd.R_far (p := ⟨gb226, 2, none⟩) (Kd.R_far (p := ⟨gb226, 1, none⟩) (Kd.R_far (p := ⟨gb226, 0, none⟩) (Kd.R_types (Kd.R_types HO_8.out BK226.out (by decide)) BK208.out (by decide)) (fun _ hk => hk.1.2) (.int .i64 t219)) (fun _ hk => hk.1.2) (.int .i64 t220)) (fun _ hk => hk.1.2) (.int .i64 t221)) (fun _ hk => hk.1.2) (.int .i64 t222)) (fun _ hk => hk.1.2) (.int .i64 t223)) (fun _ hk => hk.1.2) (.bool t224)) (fun _ hk => hk.2) (.int .i64 t219)) (fun _ hk => hk.2) (.int .i64 t220)) (fun _ hk => hk.2) (.int .i64 t221)) (fun _ hk => hk.2) (.int .i64 t222)) (fun _ hk => hk.2) (.int .i64 t223)) (fun _ hk => hk.2) (.bool t224)) (fun _ hk => trivial))); (case aS => exact (below_size (be_ HB.out))); (case aL => have := LMc41.out; omega); intro v231 w57 ho hb hg hat; rw [← Ny230.out] at ho; have n0_ := Aside0.mk (blk_grown (g := gb200) (o := .cells #[.int .i64 0, .int .i64 0, .int .i64 0, .int .i64 0, .int .i64 0, .bool false] 24 (0, 0)) (by refine bl_ ?_; refine blk_far ?_ NB200_208.out _; refine bl_ ?_; refine blk_far ?_ NB200_208.out _; refine bl_ ?_; refine blk_far ?_ NB200_208.out _; refine bl_ ?_; refine blk_far ?_ NB200_208.out _; refine bl_ ?_; refine blk_far ?_ NB200_208.out _; refine bl_ ?_; refine blk_far ?_ NB200_208.out _; refine bl_ ?_; refine blk_far ?_ NB200_226.out _; refine bl_ ?_; refine blk_far ?_ NB200_226.out _; refine bl_ ?_; refine blk_far ?_ NB200_226.out _; refine bl_ ?_; refine blk_far ?_ NB200_226.out _; refine bl_ ?_; refine blk_far ?_ NB200_226.out _; refine bl_ ?_; refine blk_far ?_ NB200_226.out _; refine bl_ ?_; exact BK200.out) hg (Kd.R_ne HO_8.out BK200.out (by decide))); have n1_ := Aside0.mk (blk_grown (g := gb208) (o := .cells #[.int .i64 t219, .int .i64 t220, .int .i64 t221, .int .i64 t222, .int .i64 t223, .bool t224] 24 (0, 0)) (by refine bl_ ?_; refine blk_put (cs := #[.int .i64 t219, .int .i64 t220, .int .i64 t221, .int .i64 t222, .int .i64 t223, .bool x209005_2]) ?_ 5 _ rfl; refine bl_ ?_; refine blk_put (cs := #[.int .i64 t219, .int .i64 t220, .int .i64 t221, .int .i64 t222, .int .i64 x209004_2, .bool x209005_2]) ?_ 4 _ rfl; refine bl_ ?_; refine blk_put (cs := #[.int .i64 t219, .int .i64 t220, .int .i64 t221, .int .i64 x209003_2, .int .i64 x209004_2, .bool x209005_2]) ?_ 3 _ rfl; refine bl_ ?_; refine blk_put (cs := #[.int .i64 t219, .int .i64 t220, .int .i64 x209002_2, .int .i64 x209003_2, .int .i64 x209004_2, .bool x209005_2]) ?_ 2 _ rfl; refine bl_ ?_; refine blk_put (cs := #[.int .i64 t219, .int .i64 x209001_2, .int .i64 x209002_2, .int .i64 x209003_2, .int .i64 x209004_2, .bool x209005_2]) ?_ 1 _ rfl; refine bl_ ?_; refine blk_put (cs := #[.int .i64 x209000_2, .int .i64 x209001_2, .int .i64 x209002_2, .int .i64 x209003_2, .int .i64 x209004_2, .bool x209005_2]) ?_ 0 _ rfl; refine bl_ ?_; refine blk_far ?_ NB208_226.out _; refine bl_ ?_; refine blk_far ?_ NB208_226.out _; refine bl_ ?_; refine blk_far ?_ NB208_226.out _; refine bl_ ?_; refine blk_far ?_ NB208_226.out _; refine bl_ ?_; refine blk_far ?_ NB208_226.out _; refine bl_ ?_; refine blk_far ?_ NB208_226.out _; refine bl_ ?_; exact BK208.out) hg (Kd.R_ne HO_8.out BK208.out (by decide))); have n2_ := Aside0.mk (blk_grown (g := gb226) (o := .cells #[.int .i64 t219, .int .i64 t220, .int .i64 t221, .int .i64 t222, .int .i64 t223, .bool t224] 24 (0, 0)) (by refine bl_ ?_; refine blk_far ?_ NB226_208.out _; refine bl_ ?_; refine blk_far ?_ NB226_208.out _; refine bl_ ?_; refine blk_far ?_ NB226_208.out _; refine bl_ ?_; refine blk_far ?_ NB226_208.out _; refine bl_ ?_; refine blk_far ?_ NB226_208.out _; refine bl_ ?_; refine blk_far ?_ NB226_208.out _; refine bl_ ?_; refine blk_put (cs := #[.int .i64 t219, .int .i64 t220, .int .i64 t221, .int .i64 t222, .int .i64 t223, .bool false]) ?_ 5 _ rfl; refine bl_ ?_; refine blk_put (cs := #[.int .i64 t219, .int .i64 t220, .int .i64 t221, .int .i64 t222, .int .i64 0, .bool false]) ?_ 4 _ rfl; refine bl_ ?_; refine blk_put (cs := #[.int .i64 t219, .int .i64 t220, .int .i64 t221, .int .i64 0, .int .i64 0, .bool false]) ?_ 3 _ rfl; refine bl_ ?_; refine blk_put (cs := #[.int .i64 t219, .int .i64 t220, .int .i64 0, .int .i64 0, .int .i64 0, .bool false]) ?_ 2 _ rfl; refine bl_ ?_; refine blk_put (cs := #[.int .i64 t219, .int .i64 0, .int .i64 0, .int .i64 0, .int .i64 0, .bool false]) ?_ 1 _ rfl; refine bl_ ?_; refine blk_put (cs := #[.int .i64 0, .int .i64 0, .int .i64 0, .int .i64 0, .int .i64 0, .bool false]) ?_ 0 _ rfl; refine bl_ ?_; exact BK226.out) hg (Kd.R_ne HO_8.out BK226.out (by decide))); have n3_ := Aside0.mk (hb); have n4_ := Aside0.mk (ho); clear BK200 BK208 BK226 HB HO_8; have BK200 := n0_; have BK208 := n1_; have BK226 := n2_; have HB := n3_; have HO232 := n4_; clear n0_ n1_ n2_ n3_ n4_; clear ho hb hg hat))
                            go_roundg k2
                            case measure => have := HJ3.out; have := HK2.out; omega
                            case rel => exact ⟨(y230), (wrap64 (x9_2 + 1)), (t219), (t220), (t221), (t222), (t223), (t224), (by first | rfl | (simp; done) | (simp [*]; done)), H', ⟨by have := HJ3.out; have := HK2.out; omega⟩, ⟨by (with_reducible repeat (first | apply Kd.R_alloc | apply Kd.R_drewN | apply Kd.R_drew)); exact HO232.out⟩, ⟨by refine bl_ ?_; exact BK200.out⟩, ⟨by refine bl_ ?_; exact BK208.out⟩, ⟨be_ HB.out⟩⟩
                          · rw [if_neg c41] at H
                            exact absurd H (by simp)
                      · rw [if_neg c21] at H
                        exact absurd H (by simp)
                    · rw [if_neg c20] at H
                      exact absurd H (by simp)
                  · rw [if_neg c19] at H
                    exact absurd H (by simp)
                · rw [if_neg c18] at H
                  have c18b0 : (((rd_L1 l1 x9_2).length : Int) == 3) = false := beq_eq_false_iff_ne.mpr c18
                  have c18b1 : (((rd_L1 l1 x9_2).length : Int) != 3) = true := bne_iff_ne.mpr c18
                  by_cases c58 : x8_2.length < 17592186044416
                  · rw [if_pos c58] at H
                    have LMc58 := Aside0.mk c58
                    clear c58
                    obtain ⟨y233, hy233⟩ : ∃ y_ : List Int, y_ = (x8_2 ++ [0]) := ⟨_, rfl⟩
                    replace H : (spec_PlayConn.l0 k2 l1 y233 (wrap64 (x9_2 + 1)) x209000_2 x209001_2 x209002_2 x209003_2 x209004_2 x209005_2) = some (r1, r2, r3, r4, r5, r6, r7) := by first | (rw [hy233]; with_reducible exact H) | (have H2_ := (Option.bind_some _ _).symm.trans H; rw [hy233]; with_reducible exact H2_) | (have H2_ := (Option.bind_some _ _).symm.trans H; with_reducible exact H2_) | with_reducible exact H | (rw [hy233]; exact H) | exact H
                    have Ny233 := Aside0.mk hy233
                    clear hy233
                    have H' := Aside0.mk H
                    clear H
                    have p212 : 0 ≤ (x9_2 : Int) := of_decide_eq_true (by first | (with_reducible assumption) | assumption)
                    have q212 : x9_2 < (l1.length : Int) := of_decide_eq_true (by first | (with_reducible assumption) | assumption)
                    obtain ⟨ad212, A212_0, c212_0, e212, hx212_0, hl212_0, hi212_0⟩ := at_L1 HR1.out x9_2 p212 q212
                    cases e212
                    replace hx212_0 := (HB.out.cell (World.block_lt_of_cell? w _ hx212_0)).trans hx212_0
                    have HR212_0 := Aside0.mk hi212_0
                    have HC212_0 := Aside0.mk hl212_0
                    clear hi212_0 hl212_0
                    replace p212 := eq_true p212
                    replace q212 := eq_true q212
                    go_wp2_with (first | ((with_reducible refine gate_builtin (b := .append) (xs := #[.tmp 64, .tmp 66]) rfl ?_); (try (refine gate_guard (by rfl) ?_; dsimp only)); at_builtin; refine Kd.R_append (Kd.int .i64) (w0 := w) w.heap.size rfl (.tmp 64) (.tmp 66) 58 3 (.int .i64 0) 8 rfl Try.underlying58 info3 rfl (by decide) (by omega) u8 x8_2 0 [.int .i64 0] (fun _ => True) (fun _ => False) rfl rfl ?aP (fun _ hk => hk.elim) ?aF ?aO ?aB ?aS ?aL ?_; (case aP => exact rfl); (case aB => exact (be_ HB.out)); (case aF => exact (fun _ _ => trivial)); (case aO => exact (ro_ HO_8.out)); (case aS => exact (below_size (be_ HB.out))); (case aL => have := LMc58.out; omega); intro v234 w59 ho hb hg hat; rw [← Ny233.out] at ho; have n0_ := Aside0.mk (blk_grown (g := gb200) (o := .cells #[.int .i64 0, .int .i64 0, .int .i64 0, .int .i64 0, .int .i64 0, .bool false] 24 (0, 0)) (bl_ BK200.out) hg (Kd.R_ne HO_8.out BK200.out (by decide))); have n1_ := Aside0.mk (blk_grown (g := gb208) (o := .cells #[.int .i64 x209000_2, .int .i64 x209001_2, .int .i64 x209002_2, .int .i64 x209003_2, .int .i64 x209004_2, .bool x209005_2] 24 (0, 0)) (bl_ BK208.out) hg (Kd.R_ne HO_8.out BK208.out (by decide))); have n2_ := Aside0.mk (hb); have n3_ := Aside0.mk (ho); clear BK200 BK208 HB HO_8; have BK200 := n0_; have BK208 := n1_; have HB := n2_; have HO235 := n3_; clear n0_ n1_ n2_ n3_; clear ho hb hg hat))
                    go_roundg k2
                    case measure => have := HJ3.out; have := HK2.out; omega
                    case rel => exact ⟨(y233), (wrap64 (x9_2 + 1)), (x209000_2), (x209001_2), (x209002_2), (x209003_2), (x209004_2), (x209005_2), (by first | rfl | (simp; done) | (simp [*]; done)), H', ⟨by have := HJ3.out; have := HK2.out; omega⟩, ⟨by (with_reducible repeat (first | apply Kd.R_alloc | apply Kd.R_drewN | apply Kd.R_drew)); exact HO235.out⟩, ⟨by refine bl_ ?_; exact BK200.out⟩, ⟨by refine bl_ ?_; exact BK208.out⟩, ⟨be_ HB.out⟩⟩
                  · rw [if_neg c58] at H
                    exact absurd H (by simp)
              · rw [if_neg c17] at H
                exact absurd H (by simp)
            · rw [if_neg c16] at H
              have c16b0 : decide (x9_2 < (l1.length : Int)) = false := decide_eq_false c16
              clear c16
              simp only [Option.some.injEq, Prod.mk.injEq] at H
              obtain ⟨rfl, rfl, rfl, rfl, rfl, rfl, rfl⟩ := H
              have hnb60 := NB208_200.out
              have hnc60 := NB200_208.out
              have hcz61_0 : wr.cell? ⟨gb208, 0, none⟩ = some (.int .i64 x209000_2) := (blk_cell BK208.out 0).trans rfl
              have hcz61_1 : wr.cell? ⟨gb208, 1, none⟩ = some (.int .i64 x209001_2) := (blk_cell BK208.out 1).trans rfl
              have hcz61_2 : wr.cell? ⟨gb208, 2, none⟩ = some (.int .i64 x209002_2) := (blk_cell BK208.out 2).trans rfl
              have hcz61_3 : wr.cell? ⟨gb208, 3, none⟩ = some (.int .i64 x209003_2) := (blk_cell BK208.out 3).trans rfl
              have hcz61_4 : wr.cell? ⟨gb208, 4, none⟩ = some (.int .i64 x209004_2) := (blk_cell BK208.out 4).trans rfl
              have hcz61_5 : wr.cell? ⟨gb208, 5, none⟩ = some (.bool x209005_2) := (blk_cell BK208.out 5).trans rfl
              have hfz61_0 := blk_frozen BK208.out 0
              have hfz61_1 := blk_frozen BK208.out 1
              have hfz61_2 := blk_frozen BK208.out 2
              have hfz61_3 := blk_frozen BK208.out 3
              have hfz61_4 := blk_frozen BK208.out 4
              have hfz61_5 := blk_frozen BK208.out 5
              have hcz62_0 : wr.cell? ⟨gb200, 0, none⟩ = some (.int .i64 0) := (blk_cell BK200.out 0).trans rfl
              have hcz62_1 : wr.cell? ⟨gb200, 1, none⟩ = some (.int .i64 0) := (blk_cell BK200.out 1).trans rfl
              have hcz62_2 : wr.cell? ⟨gb200, 2, none⟩ = some (.int .i64 0) := (blk_cell BK200.out 2).trans rfl
              have hcz62_3 : wr.cell? ⟨gb200, 3, none⟩ = some (.int .i64 0) := (blk_cell BK200.out 3).trans rfl
              have hcz62_4 : wr.cell? ⟨gb200, 4, none⟩ = some (.int .i64 0) := (blk_cell BK200.out 4).trans rfl
              have hcz62_5 : wr.cell? ⟨gb200, 5, none⟩ = some (.bool false) := (blk_cell BK200.out 5).trans rfl
              have hfz62_0 := blk_frozen BK200.out 0
              have hfz62_1 := blk_frozen BK200.out 1
              have hfz62_2 := blk_frozen BK200.out 2
              have hfz62_3 := blk_frozen BK200.out 3
              have hfz62_4 := blk_frozen BK200.out 4
              have hfz62_5 := blk_frozen BK200.out 5
              go_wp2
              refine bodyPost_ret (results_ct rfl _ _ gb200 24 #[.int .i64 x209000_2, .int .i64 x209001_2, .int .i64 x209002_2, .int .i64 x209003_2, .int .i64 x209004_2, .bool x209005_2] (0, 0) _ rfl (by refine bl_ ?_; refine blk_put (cs := #[.int .i64 x209000_2, .int .i64 x209001_2, .int .i64 x209002_2, .int .i64 x209003_2, .int .i64 x209004_2, .bool false]) ?_ 5 _ rfl; refine bl_ ?_; refine blk_put (cs := #[.int .i64 x209000_2, .int .i64 x209001_2, .int .i64 x209002_2, .int .i64 x209003_2, .int .i64 0, .bool false]) ?_ 4 _ rfl; refine bl_ ?_; refine blk_put (cs := #[.int .i64 x209000_2, .int .i64 x209001_2, .int .i64 x209002_2, .int .i64 0, .int .i64 0, .bool false]) ?_ 3 _ rfl; refine bl_ ?_; refine blk_put (cs := #[.int .i64 x209000_2, .int .i64 x209001_2, .int .i64 0, .int .i64 0, .int .i64 0, .bool false]) ?_ 2 _ rfl; refine bl_ ?_; refine blk_put (cs := #[.int .i64 x209000_2, .int .i64 0, .int .i64 0, .int .i64 0, .int .i64 0, .bool false]) ?_ 1 _ rfl; refine bl_ ?_; refine blk_put (cs := #[.int .i64 0, .int .i64 0, .int .i64 0, .int .i64 0, .int .i64 0, .bool false]) ?_ 0 _ rfl; refine bl_ ?_; exact BK200.out) Try.underlying24 rfl (by kernel_rfl)) rfl ?_
              exact ⟨_, by first | rfl | (simp [errW_none, errW_some] <;> rfl) | (simp [*, errW_none, errW_some] <;> rfl), by (with_reducible repeat (first | apply Kd.R_alloc | apply Kd.R_drewN | apply Kd.R_drew)); exact Kd.R_mono (Kd.R_far (p := ⟨gb200, 5, none⟩) (Kd.R_far (p := ⟨gb200, 4, none⟩) (Kd.R_far (p := ⟨gb200, 3, none⟩) (Kd.R_far (p := ⟨gb200, 2, none⟩) (Kd.R_far (p := ⟨gb200, 1, none⟩) (Kd.R_far (p := ⟨gb200, 0, none⟩) (Kd.R_types HO_8.out BK200.out (by decide)) (fun _ hk => hk.2) (.int .i64 x209000_2)) (fun _ hk => hk.2) (.int .i64 x209001_2)) (fun _ hk => hk.2) (.int .i64 x209002_2)) (fun _ hk => hk.2) (.int .i64 x209003_2)) (fun _ hk => hk.2) (.int .i64 x209004_2)) (fun _ hk => hk.2) (.bool x209005_2)) (fun _ hk => trivial), be_ HB.out⟩

end Go.Proofs.Ytpckdemamlhpdaa.MFnConns
