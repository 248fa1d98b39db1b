-- Written by a program of this session over the kit's print, with stand-ins for the functions that the print leaves; Lean checks it.
import Derived.Test.YtjjklpiiiihmlaaMFnExactOnDialx0
import Derived.Test.YtjjklpiiiihmlaaMFnExactOnDialx1
import Derived.Test.YtjjklpiiiihmlaaMFnExactOnDialx3
namespace Go.Proofs.Ytjjklpiiiihmlaa.MFnExactOnDial
open Go.RowKit Go.Proofs.YtjjklpiiiihmlaaW.PrintWords Go.Proofs.YtjjklpiiiihmlaaW.PrintLast Go.Proofs.YtjjklpiiiihmlaaW.PrintMore
attribute [local go_sem] max2_int min2_int max_two min_two max_three min_three max_four min_four   -- for this text's walks alone
set_option linter.unusedVariables false
set_option linter.unusedSimpArgs false

/-! ### laws_FnExactOnDial: function 10 -/
mutual
def laws_FnExactOnDial.j0 : Nat → Int → Bool → Bool → Bool → Int → List Int → Int → Int → List Int → Int → Int → List Int → Int → Int → List Int → Int → Option (Bool)
  | 0, _, _, _, _, _, _, _, _, _, _, _, _, _, _, _, _ => none
  | k + 1, x1, x7, x10, x44, x189000, x189001, x189002, x202000, x202001, x202002, x208000, x208001, x208002, x215000, x215001, x215002 => if x44 = true then (some false) else ((laws_toBreaker.f k x189000 x189001 x189002).bind fun bt216 => ((laws_eqBreaker.f k x208000 x208001 x208002 bt216.1 bt216.2.1 bt216.2.2).bind fun t221 => (if t221 = true then ((laws_markBreaker.f k x208000 x208001 x208002 1).bind fun bt222 => (if bt222.1 < 0 then (laws_FnExactOnDial.j1 k x1 x7 true x189000 x189001 x189002 x202000 x202001 x202002 x215000 x215001 x215002) else ((laws_eqBreaker.f k x215000 x215001 x215002 x202000 x202001 x202002).bind fun t224 => (if t224 = true then (laws_FnExactOnDial.j1 k x1 x7 (x10 != x7) x189000 x189001 x189002 x202000 x202001 x202002 x215000 x215001 x215002) else (laws_FnExactOnDial.j1 k x1 x7 true x189000 x189001 x189002 x202000 x202001 x202002 x215000 x215001 x215002))))) else (some false))))
def laws_FnExactOnDial.j1 : Nat → Int → Bool → Bool → Int → List Int → Int → Int → List Int → Int → Int → List Int → Int → Option (Bool)
  | 0, _, _, _, _, _, _, _, _, _, _, _, _ => none
  | k + 1, x1, x7, x65, x189000, x189001, x189002, x202000, x202001, x202002, x215000, x215001, x215002 => if x65 = true then (some false) else ((laws_markBreaker.f k x215000 x215001 x215002 1).bind fun bt225 => ((laws_heldBreaker.f k x215000 bt225.2 x215002 1).bind fun t227 => (if t227 < 0 then (some false) else (if t227 = bt225.1 then ((laws_toBreaker.f k x189000 x189001 x189002).bind fun bt228 => ((impl_OnDial.f k bt228.1 bt228.2.1 bt228.2.2 x1).bind fun bt233 => ((laws_eqBreaker.f k bt233.1 bt233.2.1 bt233.2.2.1 x202000 x202001 x202002).bind fun t240 => (if t240 = true then (laws_FnExactOnDial.j2 k bt225.1 (bt233.2.2.2 != x7) x215000 bt225.2 x215002) else (laws_FnExactOnDial.j2 k bt225.1 true x215000 bt225.2 x215002))))) else (some false)))))
def laws_FnExactOnDial.j2 : Nat → Int → Bool → Int → List Int → Int → Option (Bool)
  | 0, _, _, _, _, _ => none
  | k + 1, x12, x92, x215000, x215001, x215002 => if x92 = true then (some false) else ((laws_heldBreaker.f k x215000 x215001 x215002 1).bind fun t241 => (if t241 < 0 then (some false) else (if t241 = x12 then (some true) else (some false))))
end
def laws_FnExactOnDial.f (k : Nat) (a0_0 : Int) (l0_1 : List Int) (a0_2 : Int) (a1 : Int) : Option (Bool) := (laws_szBreaker.f a0_0 l0_1 a0_2 1048576).bind fun t189 => (if t189 < 0 then (some true) else ((laws_toBreaker.f k a0_0 l0_1 a0_2).bind fun bt190 => ((spec_OnDial.f k bt190.1 bt190.2.1 bt190.2.2 a1).bind fun bt195 => ((laws_toBreaker.f k a0_0 l0_1 a0_2).bind fun bt202 => ((impl_OnDial.f k bt202.1 bt202.2.1 bt202.2.2 a1).bind fun bt208 => ((laws_eqBreaker.f k bt208.1 bt208.2.1 bt208.2.2.1 bt195.1 bt195.2.1 bt195.2.2.1).bind fun t215 => (if t215 = true then (laws_FnExactOnDial.j0 k a1 bt195.2.2.2 bt208.2.2.2 (bt208.2.2.2 != bt195.2.2.2) a0_0 l0_1 a0_2 bt195.1 bt195.2.1 bt195.2.2.1 bt202.1 bt202.2.1 bt202.2.2 bt208.1 bt208.2.1 bt208.2.2.1) else (laws_FnExactOnDial.j0 k a1 bt195.2.2.2 bt208.2.2.2 true a0_0 l0_1 a0_2 bt195.1 bt195.2.1 bt195.2.2.1 bt202.1 bt202.2.1 bt202.2.2 bt208.1 bt208.2.1 bt208.2.2.1))))))))
theorem laws_FnExactOnDial.mono_l : ∀ k, (∀ y0 y1 y2 y3 y4 y5 y6 y7 y8 y9 y10 y11 y12 y13 y14 y15, LeO (laws_FnExactOnDial.j0 k y0 y1 y2 y3 y4 y5 y6 y7 y8 y9 y10 y11 y12 y13 y14 y15) (laws_FnExactOnDial.j0 (k + 1) y0 y1 y2 y3 y4 y5 y6 y7 y8 y9 y10 y11 y12 y13 y14 y15)) ∧ (∀ y0 y1 y2 y3 y4 y5 y6 y7 y8 y9 y10 y11, LeO (laws_FnExactOnDial.j1 k y0 y1 y2 y3 y4 y5 y6 y7 y8 y9 y10 y11) (laws_FnExactOnDial.j1 (k + 1) y0 y1 y2 y3 y4 y5 y6 y7 y8 y9 y10 y11)) ∧ (∀ y0 y1 y2 y3 y4, LeO (laws_FnExactOnDial.j2 k y0 y1 y2 y3 y4) (laws_FnExactOnDial.j2 (k + 1) y0 y1 y2 y3 y4))
  | 0 => ⟨fun _ _ _ _ _ _ _ _ _ _ _ _ _ _ _ _ r h => by simp [laws_FnExactOnDial.j0] at h, fun _ _ _ _ _ _ _ _ _ _ _ _ r h => by simp [laws_FnExactOnDial.j1] at h, fun _ _ _ _ _ r h => by simp [laws_FnExactOnDial.j2] at h⟩
  | k + 1 => by
    obtain ⟨ih0, ih1, ih2⟩ := laws_FnExactOnDial.mono_l k
    refine ⟨?_, ?_, ?_⟩
    · intro y0 y1 y2 y3 y4 y5 y6 y7 y8 y9 y10 y11 y12 y13 y14 y15
      unfold laws_FnExactOnDial.j0
      repeat' first
      | (with_reducible exact ih0 _ _ _ _ _ _ _ _ _ _ _ _ _ _ _ _)
      | (with_reducible exact ih1 _ _ _ _ _ _ _ _ _ _ _ _)
      | (with_reducible exact ih2 _ _ _ _ _)
      | (with_reducible exact impl_OnDial.mono _ _ _ _ _)
      | (with_reducible exact laws_eqBreaker.mono _ _ _ _ _ _ _)
      | (with_reducible exact laws_heldBreaker.mono _ _ _ _ _)
      | (with_reducible exact laws_markBreaker.mono _ _ _ _ _)
      | (with_reducible exact laws_toBreaker.mono _ _ _ _)
      | (with_reducible exact spec_OnDial.mono _ _ _ _ _)
      | (with_reducible exact LeO.refl _)
      | (with_reducible exact LeO.none _)
      | (with_reducible refine LeO.ite ?_ ?_)
      | (with_reducible refine LeO.bind ?_ (fun _ => ?_))
      | exact ih0 _ _ _ _ _ _ _ _ _ _ _ _ _ _ _ _
      | exact ih1 _ _ _ _ _ _ _ _ _ _ _ _
      | exact ih2 _ _ _ _ _
      | exact impl_OnDial.mono _ _ _ _ _
      | exact laws_eqBreaker.mono _ _ _ _ _ _ _
      | exact laws_heldBreaker.mono _ _ _ _ _
      | exact laws_markBreaker.mono _ _ _ _ _
      | exact laws_toBreaker.mono _ _ _ _
      | exact spec_OnDial.mono _ _ _ _ _
      | exact LeO.none _
      | refine LeO.ite ?_ ?_
      | refine LeO.bind ?_ (fun _ => ?_)
    · intro y0 y1 y2 y3 y4 y5 y6 y7 y8 y9 y10 y11
      unfold laws_FnExactOnDial.j1
      repeat' first
      | (with_reducible exact ih0 _ _ _ _ _ _ _ _ _ _ _ _ _ _ _ _)
      | (with_reducible exact ih1 _ _ _ _ _ _ _ _ _ _ _ _)
      | (with_reducible exact ih2 _ _ _ _ _)
      | (with_reducible exact impl_OnDial.mono _ _ _ _ _)
      | (with_reducible exact laws_eqBreaker.mono _ _ _ _ _ _ _)
      | (with_reducible exact laws_heldBreaker.mono _ _ _ _ _)
      | (with_reducible exact laws_markBreaker.mono _ _ _ _ _)
      | (with_reducible exact laws_toBreaker.mono _ _ _ _)
      | (with_reducible exact spec_OnDial.mono _ _ _ _ _)
      | (with_reducible exact LeO.refl _)
      | (with_reducible exact LeO.none _)
      | (with_reducible refine LeO.ite ?_ ?_)
      | (with_reducible refine LeO.bind ?_ (fun _ => ?_))
      | exact ih0 _ _ _ _ _ _ _ _ _ _ _ _ _ _ _ _
      | exact ih1 _ _ _ _ _ _ _ _ _ _ _ _
      | exact ih2 _ _ _ _ _
      | exact impl_OnDial.mono _ _ _ _ _
      | exact laws_eqBreaker.mono _ _ _ _ _ _ _
      | exact laws_heldBreaker.mono _ _ _ _ _
      | exact laws_markBreaker.mono _ _ _ _ _
      | exact laws_toBreaker.mono _ _ _ _
      | exact spec_OnDial.mono _ _ _ _ _
      | exact LeO.none _
      | refine LeO.ite ?_ ?_
      | refine LeO.bind ?_ (fun _ => ?_)
    · intro y0 y1 y2 y3 y4
      unfold laws_FnExactOnDial.j2
      repeat' first
      | (with_reducible exact ih0 _ _ _ _ _ _ _ _ _ _ _ _ _ _ _ _)
      | (with_reducible exact ih1 _ _ _ _ _ _ _ _ _ _ _ _)
      | (with_reducible exact ih2 _ _ _ _ _)
      | (with_reducible exact impl_OnDial.mono _ _ _ _ _)
      | (with_reducible exact laws_eqBreaker.mono _ _ _ _ _ _ _)
      | (with_reducible exact laws_heldBreaker.mono _ _ _ _ _)
      | (with_reducible exact laws_markBreaker.mono _ _ _ _ _)
      | (with_reducible exact laws_toBreaker.mono _ _ _ _)
      | (with_reducible exact spec_OnDial.mono _ _ _ _ _)
      | (with_reducible exact LeO.refl _)
      | (with_reducible exact LeO.none _)
      | (with_reducible refine LeO.ite ?_ ?_)
      | (with_reducible refine LeO.bind ?_ (fun _ => ?_))
      | exact ih0 _ _ _ _ _ _ _ _ _ _ _ _ _ _ _ _
      | exact ih1 _ _ _ _ _ _ _ _ _ _ _ _
      | exact ih2 _ _ _ _ _
      | exact impl_OnDial.mono _ _ _ _ _
      | exact laws_eqBreaker.mono _ _ _ _ _ _ _
      | exact laws_heldBreaker.mono _ _ _ _ _
      | exact laws_markBreaker.mono _ _ _ _ _
      | exact laws_toBreaker.mono _ _ _ _
      | exact spec_OnDial.mono _ _ _ _ _
      | exact LeO.none _
      | refine LeO.ite ?_ ?_
      | refine LeO.bind ?_ (fun _ => ?_)
theorem laws_FnExactOnDial.mono : ∀ a0 a1 a2 a3 k, LeO (laws_FnExactOnDial.f k a0 a1 a2 a3) (laws_FnExactOnDial.f (k + 1) a0 a1 a2 a3) := by
  intro a0 a1 a2 a3 k
  obtain ⟨ih0, ih1, ih2⟩ := laws_FnExactOnDial.mono_l k
  unfold laws_FnExactOnDial.f
  repeat' first
      | (with_reducible exact ih0 _ _ _ _ _ _ _ _ _ _ _ _ _ _ _ _)
      | (with_reducible exact ih1 _ _ _ _ _ _ _ _ _ _ _ _)
      | (with_reducible exact ih2 _ _ _ _ _)
      | (with_reducible exact impl_OnDial.mono _ _ _ _ _)
      | (with_reducible exact laws_eqBreaker.mono _ _ _ _ _ _ _)
      | (with_reducible exact laws_heldBreaker.mono _ _ _ _ _)
      | (with_reducible exact laws_markBreaker.mono _ _ _ _ _)
      | (with_reducible exact laws_toBreaker.mono _ _ _ _)
      | (with_reducible exact spec_OnDial.mono _ _ _ _ _)
      | (with_reducible exact LeO.refl _)
      | (with_reducible exact LeO.none _)
      | (with_reducible refine LeO.ite ?_ ?_)
      | (with_reducible refine LeO.bind ?_ (fun _ => ?_))
      | exact ih0 _ _ _ _ _ _ _ _ _ _ _ _ _ _ _ _
      | exact ih1 _ _ _ _ _ _ _ _ _ _ _ _
      | exact ih2 _ _ _ _ _
      | exact impl_OnDial.mono _ _ _ _ _
      | exact laws_eqBreaker.mono _ _ _ _ _ _ _
      | exact laws_heldBreaker.mono _ _ _ _ _
      | exact laws_markBreaker.mono _ _ _ _ _
      | exact laws_toBreaker.mono _ _ _ _
      | exact spec_OnDial.mono _ _ _ _ _
      | exact LeO.none _
      | refine LeO.ite ?_ ?_
      | refine LeO.bind ?_ (fun _ => ?_)
set_option maxHeartbeats 8000000 in
set_option maxRecDepth 100000 in
theorem laws_FnExactOnDial.calls (k : Nat) (a0_0 : Int) (A0_1 : Option Addr) (c0_1 : Nat) (l0_1 : List Int) (a0_2 : Int) (a1 : Int) (r : Bool) (w : World) (hr0_1 : Kd.C (Kd.int .i64) w A0_1 l0_1.length l0_1) (hc0_1 : l0_1.length ≤ c0_1) (h : laws_FnExactOnDial.f k a0_0 l0_1 a0_2 a1 = some r) :
    Calls Try.prog 10 #[.agg #[.int .i64 a0_0, .slice A0_1 l0_1.length c0_1, .int .i64 a0_2], .int .i64 a1] w fun e w' => e = .returned (.bool r) ∧ Below w.heap.size w w' := by
  have hu27 := Try.underlying27
  have hu30 := Try.underlying30
  have HR0_1 := Aside0.mk hr0_1
  have HC0_1 := Aside0.mk hc0_1
  clear hr0_1 hc0_1
  have HB := Aside0.mk (Below.refl w.heap.size w)
  have H : ((laws_szBreaker.f a0_0 l0_1 a0_2 1048576).bind fun t189 => (if t189 < 0 then (some true) else ((laws_toBreaker.f k a0_0 l0_1 a0_2).bind fun bt190 => ((spec_OnDial.f k bt190.1 bt190.2.1 bt190.2.2 a1).bind fun bt195 => ((laws_toBreaker.f k a0_0 l0_1 a0_2).bind fun bt202 => ((impl_OnDial.f k bt202.1 bt202.2.1 bt202.2.2 a1).bind fun bt208 => ((laws_eqBreaker.f k bt208.1 bt208.2.1 bt208.2.2.1 bt195.1 bt195.2.1 bt195.2.2.1).bind fun t215 => (if t215 = true then (laws_FnExactOnDial.j0 k a1 bt195.2.2.2 bt208.2.2.2 (bt208.2.2.2 != bt195.2.2.2) a0_0 l0_1 a0_2 bt195.1 bt195.2.1 bt195.2.2.1 bt202.1 bt202.2.1 bt202.2.2 bt208.1 bt208.2.1 bt208.2.2.1) else (laws_FnExactOnDial.j0 k a1 bt195.2.2.2 bt208.2.2.2 true a0_0 l0_1 a0_2 bt195.1 bt195.2.1 bt195.2.2.1 bt202.1 bt202.2.1 bt202.2.2 bt208.1 bt208.2.1 bt208.2.2.1))))))))) = some r := h
  clear h
  replace H := Option.bind_eq_some_iff.mp H
  obtain ⟨t189, A30, H⟩ := H
  replace H : (if t189 < 0 then (some true) else ((laws_toBreaker.f k a0_0 l0_1 a0_2).bind fun bt190 => ((spec_OnDial.f k bt190.1 bt190.2.1 bt190.2.2 a1).bind fun bt195 => ((laws_toBreaker.f k a0_0 l0_1 a0_2).bind fun bt202 => ((impl_OnDial.f k bt202.1 bt202.2.1 bt202.2.2 a1).bind fun bt208 => ((laws_eqBreaker.f k bt208.1 bt208.2.1 bt208.2.2.1 bt195.1 bt195.2.1 bt195.2.2.1).bind fun t215 => (if t215 = true then (laws_FnExactOnDial.j0 k a1 bt195.2.2.2 bt208.2.2.2 (bt208.2.2.2 != bt195.2.2.2) a0_0 l0_1 a0_2 bt195.1 bt195.2.1 bt195.2.2.1 bt202.1 bt202.2.1 bt202.2.2 bt208.1 bt208.2.1 bt208.2.2.1) else (laws_FnExactOnDial.j0 k a1 bt195.2.2.2 bt208.2.2.2 true a0_0 l0_1 a0_2 bt195.1 bt195.2.1 bt195.2.2.1 bt202.1 bt202.2.1 bt202.2.2 bt208.1 bt208.2.1 bt208.2.2.1)))))))) = some r := H
  have A3 := Aside0.mk A30
  clear A30
  by_cases c4 : t189 < 0
  · rw [if_pos c4] at H
    have c4b0 : decide (t189 < 0) = true := decide_eq_true c4
    clear c4
    obtain rfl := Option.some.inj H
    go_enter Try.func10, Try.ntmps10
    go_wp2_with (first | ((with_reducible refine gate_dst (N := 2) rfl ?_); refine box_event ?hg (N := 2) ?hd (cs := #[.int .i64 a0_0, .slice A0_1 l0_1.length c0_1, .int .i64 a0_2]) (t := 27) ?hr ?_; (case hd => rfl); (case hg => rfl); (case hr => first | (go_simp; done) | (go_simp; rfl)); intro gb188 hg w5 hbox hb; have n0_ := Aside0.mk (below_step (by repeat (first | (with_reducible first | exact HB.out | apply below_alloc | apply pw_below_drewN | apply below_drew1) | exact HB.out)) hb); have n1_ := Aside0.mk (hbox); have n2_ := Aside0.mk ((by rw [hg]; exact (below_size (by repeat (first | (with_reducible first | exact HB.out | apply below_alloc | apply pw_below_drewN | apply below_drew1) | exact HB.out))) : w.heap.size ≤ gb188)); have n3_ := Aside0.mk ((by rw [hg]; exact (below_size (by repeat (first | (with_reducible first | exact HB.out | apply below_alloc | apply pw_below_drewN | apply below_drew1) | exact HB.out))) : w.heap.size ≤ gb188)); clear HB; have HB := n0_; have BK188 := n1_; have GW188 := n2_; have GE188 := n3_; clear n0_ n1_ n2_ n3_; clear hb hbox hg; have hcz6_0 : w5.cell? ⟨gb188, 0, none⟩ = some (.int .i64 a0_0) := (blk_cell BK188.out 0).trans rfl; have hcz6_1 : w5.cell? ⟨gb188, 1, none⟩ = some (.slice A0_1 l0_1.length c0_1) := (blk_cell BK188.out 1).trans rfl; have hcz6_2 : w5.cell? ⟨gb188, 2, none⟩ = some (.int .i64 a0_2) := (blk_cell BK188.out 2).trans rfl; have hfz6_0 := blk_frozen BK188.out 0; have hfz6_1 := blk_frozen BK188.out 1; have hfz6_2 := blk_frozen BK188.out 2) | ((with_reducible refine gate_callee (f := 16) rfl ?_); refine goesL_ (some 18) rfl rfl Try.func16 (by kernel_rfl) rfl #[.agg #[.int .i64 a0_0, .slice A0_1 l0_1.length c0_1, .int .i64 a0_2], .int .i64 1048576] rfl (by (try simp only [List.map_toArray, List.map_cons, List.map_nil]); first | done | rfl | (simp only [List.length_drop, List.length_take]; rfl)) ?_; (with_reducible refine (laws_szBreaker.calls a0_0 _ _ l0_1 a0_2 1048576 t189 _ ?side1 ?side2 A3.out).mono ?_); (case side1 => repeat (first | exact (Kd.C_below HR0_1.out HB.out) | (with_reducible refine Kd.C_alloc ?_ _) | (with_reducible refine Kd.C_drewN ?_ _) | (with_reducible refine Kd.C_drew ?_))); (case side2 => exact HC0_1.out); rintro e w7 ⟨rfl, hb⟩; refine ⟨_, rfl, ?_⟩; have n0_ := Aside0.mk (blk_below (g := gb188) (o := .cells #[.int .i64 a0_0, .slice A0_1 l0_1.length c0_1, .int .i64 a0_2] 27 (0, 0)) (by (with_reducible repeat (first | refine blk_drewN ?_ _ | refine blk_drew ?_ | refine blk_alloc ?_ _)); exact BK188.out) hb); have n1_ := Aside0.mk (below_step (by repeat (first | (with_reducible first | exact HB.out | apply below_alloc | apply pw_below_drewN | apply below_drew1 | refine below_set ?_ GE188.out) | exact HB.out)) hb); clear BK188; clear HB; have BK188 := n0_; have HB := n1_; clear n0_ n1_; (try clear hb); (try clear hb2); (try clear hk); (try clear hi)))
    go_ret
    exact ⟨by first | rfl | (simp [errW_none, errW_some] <;> rfl) | (simp [*, errW_none, errW_some] <;> rfl), by repeat (first | (with_reducible first | exact HB.out | apply below_alloc | apply pw_below_drewN | apply below_drew1 | refine below_set ?_ GE188.out) | exact HB.out)⟩
  · rw [if_neg c4] at H
    have c4b0 : decide (t189 < 0) = false := decide_eq_false c4
    clear c4
    replace H := Option.bind_eq_some_iff.mp H
    obtain ⟨⟨t190, t191, t194⟩, A80, H⟩ := H
    replace H : ((spec_OnDial.f k t190 t191 t194 a1).bind fun bt195 => ((laws_toBreaker.f k a0_0 l0_1 a0_2).bind fun bt202 => ((impl_OnDial.f k bt202.1 bt202.2.1 bt202.2.2 a1).bind fun bt208 => ((laws_eqBreaker.f k bt208.1 bt208.2.1 bt208.2.2.1 bt195.1 bt195.2.1 bt195.2.2.1).bind fun t215 => (if t215 = true then (laws_FnExactOnDial.j0 k a1 bt195.2.2.2 bt208.2.2.2 (bt208.2.2.2 != bt195.2.2.2) a0_0 l0_1 a0_2 bt195.1 bt195.2.1 bt195.2.2.1 bt202.1 bt202.2.1 bt202.2.2 bt208.1 bt208.2.1 bt208.2.2.1) else (laws_FnExactOnDial.j0 k a1 bt195.2.2.2 bt208.2.2.2 true a0_0 l0_1 a0_2 bt195.1 bt195.2.1 bt195.2.2.1 bt202.1 bt202.2.1 bt202.2.2 bt208.1 bt208.2.1 bt208.2.2.1)))))) = some r := H
    have A8 := Aside0.mk A80
    clear A80
    replace H := Option.bind_eq_some_iff.mp H
    obtain ⟨⟨t195, t196, t199, t200⟩, A90, H⟩ := H
    replace H : ((laws_toBreaker.f k a0_0 l0_1 a0_2).bind fun bt202 => ((impl_OnDial.f k bt202.1 bt202.2.1 bt202.2.2 a1).bind fun bt208 => ((laws_eqBreaker.f k bt208.1 bt208.2.1 bt208.2.2.1 t195 t196 t199).bind fun t215 => (if t215 = true then (laws_FnExactOnDial.j0 k a1 t200 bt208.2.2.2 (bt208.2.2.2 != t200) a0_0 l0_1 a0_2 t195 t196 t199 bt202.1 bt202.2.1 bt202.2.2 bt208.1 bt208.2.1 bt208.2.2.1) else (laws_FnExactOnDial.j0 k a1 t200 bt208.2.2.2 true a0_0 l0_1 a0_2 t195 t196 t199 bt202.1 bt202.2.1 bt202.2.2 bt208.1 bt208.2.1 bt208.2.2.1))))) = some r := H
    have A9 := Aside0.mk A90
    clear A90
    replace H := Option.bind_eq_some_iff.mp H
    obtain ⟨⟨t202, t203, t206⟩, A100, H⟩ := H
    replace H : ((impl_OnDial.f k t202 t203 t206 a1).bind fun bt208 => ((laws_eqBreaker.f k bt208.1 bt208.2.1 bt208.2.2.1 t195 t196 t199).bind fun t215 => (if t215 = true then (laws_FnExactOnDial.j0 k a1 t200 bt208.2.2.2 (bt208.2.2.2 != t200) a0_0 l0_1 a0_2 t195 t196 t199 t202 t203 t206 bt208.1 bt208.2.1 bt208.2.2.1) else (laws_FnExactOnDial.j0 k a1 t200 bt208.2.2.2 true a0_0 l0_1 a0_2 t195 t196 t199 t202 t203 t206 bt208.1 bt208.2.1 bt208.2.2.1)))) = some r := H
    have A10 := Aside0.mk A100
    clear A100
    replace H := Option.bind_eq_some_iff.mp H
    obtain ⟨⟨t208, t209, t212, t213⟩, A110, H⟩ := H
    replace H : ((laws_eqBreaker.f k t208 t209 t212 t195 t196 t199).bind fun t215 => (if t215 = true then (laws_FnExactOnDial.j0 k a1 t200 t213 (t213 != t200) a0_0 l0_1 a0_2 t195 t196 t199 t202 t203 t206 t208 t209 t212) else (laws_FnExactOnDial.j0 k a1 t200 t213 true a0_0 l0_1 a0_2 t195 t196 t199 t202 t203 t206 t208 t209 t212))) = some r := H
    have A11 := Aside0.mk A110
    clear A110
    have HC12 := Aside0.mk H
    clear H
    go_enter Try.func10, Try.ntmps10
    go_upto_region 8 with (first | ((with_reducible refine gate_dst (N := 2) rfl ?_); refine box_event ?hg (N := 2) ?hd (cs := #[.int .i64 a0_0, .slice A0_1 l0_1.length c0_1, .int .i64 a0_2]) (t := 27) ?hr ?_; (case hd => rfl); (case hg => rfl); (case hr => first | (go_simp; done) | (go_simp; rfl)); intro gb188 hg w13 hbox hb; have n0_ := Aside0.mk (below_step (by repeat (first | (with_reducible first | exact HB.out | apply below_alloc | apply pw_below_drewN | apply below_drew1) | exact HB.out)) hb); have n1_ := Aside0.mk (hbox); have n2_ := Aside0.mk ((by rw [hg]; exact (below_size (by repeat (first | (with_reducible first | exact HB.out | apply below_alloc | apply pw_below_drewN | apply below_drew1) | exact HB.out))) : w.heap.size ≤ gb188)); have n3_ := Aside0.mk ((by rw [hg]; exact (below_size (by repeat (first | (with_reducible first | exact HB.out | apply below_alloc | apply pw_below_drewN | apply below_drew1) | exact HB.out))) : w.heap.size ≤ gb188)); clear HB; have HB := n0_; have BK188 := n1_; have GW188 := n2_; have GE188 := n3_; clear n0_ n1_ n2_ n3_; clear hb hbox hg; have hcz14_0 : w13.cell? ⟨gb188, 0, none⟩ = some (.int .i64 a0_0) := (blk_cell BK188.out 0).trans rfl; have hcz14_1 : w13.cell? ⟨gb188, 1, none⟩ = some (.slice A0_1 l0_1.length c0_1) := (blk_cell BK188.out 1).trans rfl; have hcz14_2 : w13.cell? ⟨gb188, 2, none⟩ = some (.int .i64 a0_2) := (blk_cell BK188.out 2).trans rfl; have hfz14_0 := blk_frozen BK188.out 0; have hfz14_1 := blk_frozen BK188.out 1; have hfz14_2 := blk_frozen BK188.out 2) | ((with_reducible refine gate_callee (f := 16) rfl ?_); refine goesL_ (some 18) rfl rfl Try.func16 (by kernel_rfl) rfl #[.agg #[.int .i64 a0_0, .slice A0_1 l0_1.length c0_1, .int .i64 a0_2], .int .i64 1048576] rfl (by (try simp only [List.map_toArray, List.map_cons, List.map_nil]); first | done | rfl | (simp only [List.length_drop, List.length_take]; rfl)) ?_; (with_reducible refine (laws_szBreaker.calls a0_0 _ _ l0_1 a0_2 1048576 t189 _ ?side1 ?side2 A3.out).mono ?_); (case side1 => repeat (first | exact (Kd.C_below HR0_1.out HB.out) | (with_reducible refine Kd.C_alloc ?_ _) | (with_reducible refine Kd.C_drewN ?_ _) | (with_reducible refine Kd.C_drew ?_))); (case side2 => exact HC0_1.out); rintro e w15 ⟨rfl, hb⟩; refine ⟨_, rfl, ?_⟩; have n0_ := Aside0.mk (blk_below (g := gb188) (o := .cells #[.int .i64 a0_0, .slice A0_1 l0_1.length c0_1, .int .i64 a0_2] 27 (0, 0)) (by (with_reducible repeat (first | refine blk_drewN ?_ _ | refine blk_drew ?_ | refine blk_alloc ?_ _)); exact BK188.out) hb); have n1_ := Aside0.mk (below_step (by repeat (first | (with_reducible first | exact HB.out | apply below_alloc | apply pw_below_drewN | apply below_drew1 | refine below_set ?_ GE188.out) | exact HB.out)) hb); clear BK188; clear HB; have BK188 := n0_; have HB := n1_; clear n0_ n1_; (try clear hb); (try clear hb2); (try clear hk); (try clear hi); have hcz16_0 : w15.cell? ⟨gb188, 0, none⟩ = some (.int .i64 a0_0) := (blk_cell BK188.out 0).trans rfl; have hcz16_1 : w15.cell? ⟨gb188, 1, none⟩ = some (.slice A0_1 l0_1.length c0_1) := (blk_cell BK188.out 1).trans rfl; have hcz16_2 : w15.cell? ⟨gb188, 2, none⟩ = some (.int .i64 a0_2) := (blk_cell BK188.out 2).trans rfl; have hfz16_0 := blk_frozen BK188.out 0; have hfz16_1 := blk_frozen BK188.out 1; have hfz16_2 := blk_frozen BK188.out 2) | ((with_reducible refine gate_callee (f := 18) rfl ?_); refine goesL_ (some 23) rfl rfl Try.func18 (by kernel_rfl) rfl #[.agg #[.int .i64 a0_0, .slice A0_1 l0_1.length c0_1, .int .i64 a0_2]] rfl (by (try simp only [List.map_toArray, List.map_cons, List.map_nil]); first | done | rfl | (simp only [List.length_drop, List.length_take]; rfl)) ?_; (with_reducible refine (laws_toBreaker.calls k a0_0 _ _ l0_1 a0_2 t190 t191 t194 _ ?side1 ?side2 A8.out).mono ?_); (case side1 => repeat (first | exact (Kd.C_below HR0_1.out HB.out) | (with_reducible refine Kd.C_alloc ?_ _) | (with_reducible refine Kd.C_drewN ?_ _) | (with_reducible refine Kd.C_drew ?_))); (case side2 => exact HC0_1.out); rintro e w17 ⟨v192, rfl, ho0, hb⟩; refine ⟨_, rfl, ?_⟩; have n0_ := Aside0.mk (Kd.R_lower ho0 (below_size (by repeat (first | (with_reducible first | exact HB.out | apply below_alloc | apply pw_below_drewN | apply below_drew1 | refine below_set ?_ GE188.out) | exact HB.out)))); have n1_ := Aside0.mk (blk_below (g := gb188) (o := .cells #[.int .i64 a0_0, .slice A0_1 l0_1.length c0_1, .int .i64 a0_2] 27 (0, 0)) (by (with_reducible repeat (first | refine blk_drewN ?_ _ | refine blk_drew ?_ | refine blk_alloc ?_ _)); exact BK188.out) hb); have n2_ := Aside0.mk (below_step (by repeat (first | (with_reducible first | exact HB.out | apply below_alloc | apply pw_below_drewN | apply below_drew1 | refine below_set ?_ GE188.out) | exact HB.out)) hb); clear BK188; clear HB; have HO193 := n0_; have BK188 := n1_; have HB := n2_; clear n0_ n1_ n2_; (try clear hb); (try clear hb2); (try clear hk); (try clear hi); (try clear ho0); obtain ⟨Ao18, co18, eo18⟩ := Kd.R_slice HO193.out; subst eo18) | ((with_reducible refine gate_callee (f := 37) rfl ?_); refine goesL_ (some 25) rfl rfl Try.func37 (by kernel_rfl) rfl #[.agg #[.int .i64 t190, .slice Ao18 t191.length co18, .int .i64 t194], .int .i64 a1] rfl (by (try simp only [List.map_toArray, List.map_cons, List.map_nil]); first | done | rfl | (simp only [List.length_drop, List.length_take]; rfl)) ?_; (with_reducible refine (spec_OnDial.calls k t190 _ _ t191 t194 a1 t195 t196 t199 t200 _ ?side1 ?side2 A9.out).mono ?_); (case side1 => repeat (first | exact (Kd.R_reads' HO193.out).2.2 | (with_reducible refine Kd.C_alloc ?_ _) | (with_reducible refine Kd.C_drewN ?_ _) | (with_reducible refine Kd.C_drew ?_))); (case side2 => exact (Kd.R_reads' HO193.out).2.1); rintro e w19 ⟨v197, rfl, ho0, hb⟩; refine ⟨_, rfl, ?_⟩; have n0_ := Aside0.mk (Kd.R_elder' (by (with_reducible repeat (first | apply Kd.R_alloc | apply Kd.R_drewN | apply Kd.R_drew)); exact HO193.out) (Kd.R_base ho0) hb); have n1_ := Aside0.mk (Kd.R_lower (Kd.R_new' ho0 (Kd.R_lt (by (with_reducible repeat (first | apply Kd.R_alloc | apply Kd.R_drewN | apply Kd.R_drew)); exact HO193.out))) (below_size (by repeat (first | (with_reducible first | exact HB.out | apply below_alloc | apply pw_below_drewN | apply below_drew1 | refine below_set ?_ GE188.out) | exact HB.out)))); have n2_ := Aside0.mk (blk_below (g := gb188) (o := .cells #[.int .i64 a0_0, .slice A0_1 l0_1.length c0_1, .int .i64 a0_2] 27 (0, 0)) (by (with_reducible repeat (first | refine blk_drewN ?_ _ | refine blk_drew ?_ | refine blk_alloc ?_ _)); exact BK188.out) hb); have n3_ := Aside0.mk (below_step (by repeat (first | (with_reducible first | exact HB.out | apply below_alloc | apply pw_below_drewN | apply below_drew1 | refine below_set ?_ GE188.out) | exact HB.out)) hb); clear HO193; clear BK188; clear HB; have HO193 := n0_; have HO198 := n1_; have BK188 := n2_; have HB := n3_; clear n0_ n1_ n2_ n3_; (try clear hb); (try clear hb2); (try clear hk); (try clear hi); (try clear ho0)) | ((with_reducible refine gate_dst (N := 6) rfl ?_); refine box_event ?hg (N := 6) ?hd (cs := #[.int .i64 0, .slice none 0 0, .int .i64 0]) (t := 30) ?hr ?_; (case hd => rfl); (case hg => rfl); (case hr => first | (go_simp; done) | (go_simp; rfl)); intro gb201 hg w20 hbox hb; have n0_ := Aside0.mk (Kd.R_below (by (with_reducible repeat (first | apply Kd.R_alloc | apply Kd.R_drewN | apply Kd.R_drew)); exact HO193.out) hb); have n1_ := Aside0.mk (Kd.R_below (by (with_reducible repeat (first | apply Kd.R_alloc | apply Kd.R_drewN | apply Kd.R_drew)); exact HO198.out) hb); have n2_ := Aside0.mk (blk_below (g := gb188) (o := .cells #[.int .i64 a0_0, .slice A0_1 l0_1.length c0_1, .int .i64 a0_2] 27 (0, 0)) (by (with_reducible repeat (first | refine blk_drewN ?_ _ | refine blk_drew ?_ | refine blk_alloc ?_ _)); exact BK188.out) hb); have n3_ := Aside0.mk (below_step (by repeat (first | (with_reducible first | exact HB.out | apply below_alloc | apply pw_below_drewN | apply below_drew1 | refine below_set ?_ GE188.out) | exact HB.out)) hb); have n4_ := Aside0.mk (hbox); have n5_ := Aside0.mk ((by rw [hg]; exact (below_size (by repeat (first | (with_reducible first | exact HB.out | apply below_alloc | apply pw_below_drewN | apply below_drew1 | refine below_set ?_ GE188.out) | exact HB.out))) : w.heap.size ≤ gb201)); have n6_ := Aside0.mk ((by rw [hg]; exact (below_size (by repeat (first | (with_reducible first | exact HB.out | apply below_alloc | apply pw_below_drewN | apply below_drew1 | refine below_set ?_ GE188.out) | exact HB.out))) : w.heap.size ≤ gb201)); have n7_ := Aside0.mk ((by rw [hg]; exact Nat.ne_of_lt (blk_lt (g := gb188) (o := .cells #[.int .i64 a0_0, .slice A0_1 l0_1.length c0_1, .int .i64 a0_2] 27 (0, 0)) (by (with_reducible repeat (first | refine blk_drewN ?_ _ | refine blk_drew ?_ | refine blk_alloc ?_ _)); exact BK188.out)) : gb188 ≠ gb201)); have n8_ := Aside0.mk ((by rw [hg]; exact Nat.ne_of_gt (blk_lt (g := gb188) (o := .cells #[.int .i64 a0_0, .slice A0_1 l0_1.length c0_1, .int .i64 a0_2] 27 (0, 0)) (by (with_reducible repeat (first | refine blk_drewN ?_ _ | refine blk_drew ?_ | refine blk_alloc ?_ _)); exact BK188.out)) : gb201 ≠ gb188)); clear HO193; clear HO198; clear BK188; clear HB; have HO193 := n0_; have HO198 := n1_; have BK188 := n2_; have HB := n3_; have BK201 := n4_; have GW201 := n5_; have GE201 := n6_; have NB188_201 := n7_; have NB201_188 := n8_; clear n0_ n1_ n2_ n3_ n4_ n5_ n6_ n7_ n8_; clear hb hbox hg; have hnb21 := NB201_188.out; have hnc21 := NB188_201.out; have hcz22_0 : w20.cell? ⟨gb201, 0, none⟩ = some (.int .i64 0) := (blk_cell BK201.out 0).trans rfl; have hcz22_1 : w20.cell? ⟨gb201, 1, none⟩ = some (.slice none 0 0) := (blk_cell BK201.out 1).trans rfl; have hcz22_2 : w20.cell? ⟨gb201, 2, none⟩ = some (.int .i64 0) := (blk_cell BK201.out 2).trans rfl; have hfz22_0 := blk_frozen BK201.out 0; have hfz22_1 := blk_frozen BK201.out 1; have hfz22_2 := blk_frozen BK201.out 2; obtain ⟨Ao23, co23, eo23⟩ := Kd.R_slice HO198.out; subst eo23; have hcz24_0 : w20.cell? ⟨gb188, 0, none⟩ = some (.int .i64 a0_0) := (blk_cell BK188.out 0).trans rfl; have hcz24_1 : w20.cell? ⟨gb188, 1, none⟩ = some (.slice A0_1 l0_1.length c0_1) := (blk_cell BK188.out 1).trans rfl; have hcz24_2 : w20.cell? ⟨gb188, 2, none⟩ = some (.int .i64 a0_2) := (blk_cell BK188.out 2).trans rfl; have hfz24_0 := blk_frozen BK188.out 0; have hfz24_1 := blk_frozen BK188.out 1; have hfz24_2 := blk_frozen BK188.out 2) | ((with_reducible refine gate_callee (f := 18) rfl ?_); refine goesL_ (some 29) rfl rfl Try.func18 (by kernel_rfl) rfl #[.agg #[.int .i64 a0_0, .slice A0_1 l0_1.length c0_1, .int .i64 a0_2]] rfl (by (try simp only [List.map_toArray, List.map_cons, List.map_nil]); first | done | rfl | (simp only [List.length_drop, List.length_take]; rfl)) ?_; (with_reducible refine (laws_toBreaker.calls k a0_0 _ _ l0_1 a0_2 t202 t203 t206 _ ?side1 ?side2 A10.out).mono ?_); (case side1 => exact Kd.C_below HR0_1.out (by repeat (first | (with_reducible first | exact HB.out | apply below_alloc | apply pw_below_drewN | apply below_drew1 | refine below_set ?_ GE188.out | refine below_set ?_ GE201.out) | exact HB.out))); (case side2 => exact HC0_1.out); rintro e w25 ⟨v204, rfl, ho0, hb⟩; refine ⟨_, rfl, ?_⟩; have n0_ := Aside0.mk (Kd.R_elder' (by (with_reducible repeat (first | apply Kd.R_alloc | apply Kd.R_drewN | apply Kd.R_drew)); exact (Kd.R_mono (Kd.R_far (p := ⟨gb201, 2, none⟩) (Kd.R_far (p := ⟨gb201, 1, none⟩) (Kd.R_far (p := ⟨gb201, 0, none⟩) (Kd.R_types HO193.out BK201.out (by decide)) (fun _ hk => hk.2) (.int .i64 t195)) (fun _ hk => hk.2) (.slice Ao23 t196.length co23)) (fun _ hk => hk.2) (.int .i64 t199)) (fun _ h_ => h_.1))) (Kd.R_base ho0) hb); have n1_ := Aside0.mk (Kd.R_elder' (by (with_reducible repeat (first | apply Kd.R_alloc | apply Kd.R_drewN | apply Kd.R_drew)); exact (Kd.R_mono (Kd.R_far (p := ⟨gb201, 2, none⟩) (Kd.R_far (p := ⟨gb201, 1, none⟩) (Kd.R_far (p := ⟨gb201, 0, none⟩) (Kd.R_types HO198.out BK201.out (by decide)) (fun _ hk => hk.2) (.int .i64 t195)) (fun _ hk => hk.2) (.slice Ao23 t196.length co23)) (fun _ hk => hk.2) (.int .i64 t199)) (fun _ h_ => h_.1))) (Kd.R_base ho0) hb); have n2_ := Aside0.mk (Kd.R_lower (Kd.R_new' (Kd.R_new' ho0 (Kd.R_lt (by (with_reducible repeat (first | apply Kd.R_alloc | apply Kd.R_drewN | apply Kd.R_drew)); exact (Kd.R_mono (Kd.R_far (p := ⟨gb201, 2, none⟩) (Kd.R_far (p := ⟨gb201, 1, none⟩) (Kd.R_far (p := ⟨gb201, 0, none⟩) (Kd.R_types HO193.out BK201.out (by decide)) (fun _ hk => hk.2) (.int .i64 t195)) (fun _ hk => hk.2) (.slice Ao23 t196.length co23)) (fun _ hk => hk.2) (.int .i64 t199)) (fun _ h_ => h_.1))))) (Kd.R_lt (by (with_reducible repeat (first | apply Kd.R_alloc | apply Kd.R_drewN | apply Kd.R_drew)); exact (Kd.R_mono (Kd.R_far (p := ⟨gb201, 2, none⟩) (Kd.R_far (p := ⟨gb201, 1, none⟩) (Kd.R_far (p := ⟨gb201, 0, none⟩) (Kd.R_types HO198.out BK201.out (by decide)) (fun _ hk => hk.2) (.int .i64 t195)) (fun _ hk => hk.2) (.slice Ao23 t196.length co23)) (fun _ hk => hk.2) (.int .i64 t199)) (fun _ h_ => h_.1))))) (below_size (by repeat (first | (with_reducible first | exact HB.out | apply below_alloc | apply pw_below_drewN | apply below_drew1 | refine below_set ?_ GE188.out | refine below_set ?_ GE201.out) | exact HB.out)))); have n3_ := Aside0.mk (blk_below (g := gb188) (o := .cells #[.int .i64 a0_0, .slice A0_1 l0_1.length c0_1, .int .i64 a0_2] 27 (0, 0)) (by (with_reducible repeat (first | refine blk_drewN ?_ _ | refine blk_drew ?_ | refine blk_alloc ?_ _)); refine blk_far ?_ NB188_201.out _; (with_reducible repeat (first | refine blk_drewN ?_ _ | refine blk_drew ?_ | refine blk_alloc ?_ _)); refine blk_far ?_ NB188_201.out _; (with_reducible repeat (first | refine blk_drewN ?_ _ | refine blk_drew ?_ | refine blk_alloc ?_ _)); refine blk_far ?_ NB188_201.out _; (with_reducible repeat (first | refine blk_drewN ?_ _ | refine blk_drew ?_ | refine blk_alloc ?_ _)); exact BK188.out) hb); have n4_ := Aside0.mk (blk_below (g := gb201) (o := .cells #[.int .i64 t195, .slice Ao23 t196.length co23, .int .i64 t199] 30 (0, 0)) (by (with_reducible repeat (first | refine blk_drewN ?_ _ | refine blk_drew ?_ | refine blk_alloc ?_ _)); refine blk_put (cs := #[.int .i64 t195, .slice Ao23 t196.length co23, .int .i64 0]) ?_ 2 _ rfl; (with_reducible repeat (first | refine blk_drewN ?_ _ | refine blk_drew ?_ | refine blk_alloc ?_ _)); refine blk_put (cs := #[.int .i64 t195, .slice none 0 0, .int .i64 0]) ?_ 1 _ rfl; (with_reducible repeat (first | refine blk_drewN ?_ _ | refine blk_drew ?_ | refine blk_alloc ?_ _)); refine blk_put (cs := #[.int .i64 0, .slice none 0 0, .int .i64 0]) ?_ 0 _ rfl; (with_reducible repeat (first | refine blk_drewN ?_ _ | refine blk_drew ?_ | refine blk_alloc ?_ _)); exact BK201.out) hb); have n5_ := Aside0.mk (below_step (by repeat (first | (with_reducible first | exact HB.out | apply below_alloc | apply pw_below_drewN | apply below_drew1 | refine below_set ?_ GE188.out | refine below_set ?_ GE201.out) | exact HB.out)) hb); clear HO193; clear HO198; clear BK188; clear BK201; clear HB; have HO193 := n0_; have HO198 := n1_; have HO205 := n2_; have BK188 := n3_; have BK201 := n4_; have HB := n5_; clear n0_ n1_ n2_ n3_ n4_ n5_; (try clear hb); (try clear hb2); (try clear hk); (try clear hi); (try clear ho0)) | ((with_reducible refine gate_dst (N := 8) rfl ?_); refine box_event ?hg (N := 8) ?hd (cs := #[.int .i64 0, .slice none 0 0, .int .i64 0]) (t := 30) ?hr ?_; (case hd => rfl); (case hg => rfl); (case hr => first | (go_simp; done) | (go_simp; rfl)); intro gb207 hg w26 hbox hb; have n0_ := Aside0.mk (Kd.R_below (by (with_reducible repeat (first | apply Kd.R_alloc | apply Kd.R_drewN | apply Kd.R_drew)); exact HO193.out) hb); have n1_ := Aside0.mk (Kd.R_below (by (with_reducible repeat (first | apply Kd.R_alloc | apply Kd.R_drewN | apply Kd.R_drew)); exact HO198.out) hb); have n2_ := Aside0.mk (Kd.R_below (by (with_reducible repeat (first | apply Kd.R_alloc | apply Kd.R_drewN | apply Kd.R_drew)); exact HO205.out) hb); have n3_ := Aside0.mk (blk_below (g := gb188) (o := .cells #[.int .i64 a0_0, .slice A0_1 l0_1.length c0_1, .int .i64 a0_2] 27 (0, 0)) (by (with_reducible repeat (first | refine blk_drewN ?_ _ | refine blk_drew ?_ | refine blk_alloc ?_ _)); exact BK188.out) hb); have n4_ := Aside0.mk (blk_below (g := gb201) (o := .cells #[.int .i64 t195, .slice Ao23 t196.length co23, .int .i64 t199] 30 (0, 0)) (by (with_reducible repeat (first | refine blk_drewN ?_ _ | refine blk_drew ?_ | refine blk_alloc ?_ _)); exact BK201.out) hb); have n5_ := Aside0.mk (below_step (by repeat (first | (with_reducible first | exact HB.out | apply below_alloc | apply pw_below_drewN | apply below_drew1 | refine below_set ?_ GE188.out | refine below_set ?_ GE201.out) | exact HB.out)) hb); have n6_ := Aside0.mk (hbox); have n7_ := Aside0.mk ((by rw [hg]; exact (below_size (by repeat (first | (with_reducible first | exact HB.out | apply below_alloc | apply pw_below_drewN | apply below_drew1 | refine below_set ?_ GE188.out | refine below_set ?_ GE201.out) | exact HB.out))) : w.heap.size ≤ gb207)); have n8_ := Aside0.mk ((by rw [hg]; exact (below_size (by repeat (first | (with_reducible first | exact HB.out | apply below_alloc | apply pw_below_drewN | apply below_drew1 | refine below_set ?_ GE188.out | refine below_set ?_ GE201.out) | exact HB.out))) : w.heap.size ≤ gb207)); have n9_ := Aside0.mk ((by rw [hg]; exact Nat.ne_of_lt (blk_lt (g := gb188) (o := .cells #[.int .i64 a0_0, .slice A0_1 l0_1.length c0_1, .int .i64 a0_2] 27 (0, 0)) (by (with_reducible repeat (first | refine blk_drewN ?_ _ | refine blk_drew ?_ | refine blk_alloc ?_ _)); exact BK188.out)) : gb188 ≠ gb207)); have n10_ := Aside0.mk ((by rw [hg]; exact Nat.ne_of_gt (blk_lt (g := gb188) (o := .cells #[.int .i64 a0_0, .slice A0_1 l0_1.length c0_1, .int .i64 a0_2] 27 (0, 0)) (by (with_reducible repeat (first | refine blk_drewN ?_ _ | refine blk_drew ?_ | refine blk_alloc ?_ _)); exact BK188.out)) : gb207 ≠ gb188)); have n11_ := Aside0.mk ((by rw [hg]; exact Nat.ne_of_lt (blk_lt (g := gb201) (o := .cells #[.int .i64 t195, .slice Ao23 t196.length co23, .int .i64 t199] 30 (0, 0)) (by (with_reducible repeat (first | refine blk_drewN ?_ _ | refine blk_drew ?_ | refine blk_alloc ?_ _)); exact BK201.out)) : gb201 ≠ gb207)); have n12_ := Aside0.mk ((by rw [hg]; exact Nat.ne_of_gt (blk_lt (g := gb201) (o := .cells #[.int .i64 t195, .slice Ao23 t196.length co23, .int .i64 t199] 30 (0, 0)) (by (with_reducible repeat (first | refine blk_drewN ?_ _ | refine blk_drew ?_ | refine blk_alloc ?_ _)); exact BK201.out)) : gb207 ≠ gb201)); clear HO193; clear HO198; clear HO205; clear BK188; clear BK201; clear HB; have HO193 := n0_; have HO198 := n1_; have HO205 := n2_; have BK188 := n3_; have BK201 := n4_; have HB := n5_; have BK207 := n6_; have GW207 := n7_; have GE207 := n8_; have NB188_207 := n9_; have NB207_188 := n10_; have NB201_207 := n11_; have NB207_201 := n12_; clear n0_ n1_ n2_ n3_ n4_ n5_ n6_ n7_ n8_ n9_ n10_ n11_ n12_; clear hb hbox hg; have hnb27 := NB207_188.out; have hnc27 := NB188_207.out; have hnb28 := NB207_201.out; have hnc28 := NB201_207.out; have hcz29_0 : w26.cell? ⟨gb207, 0, none⟩ = some (.int .i64 0) := (blk_cell BK207.out 0).trans rfl; have hcz29_1 : w26.cell? ⟨gb207, 1, none⟩ = some (.slice none 0 0) := (blk_cell BK207.out 1).trans rfl; have hcz29_2 : w26.cell? ⟨gb207, 2, none⟩ = some (.int .i64 0) := (blk_cell BK207.out 2).trans rfl; have hfz29_0 := blk_frozen BK207.out 0; have hfz29_1 := blk_frozen BK207.out 1; have hfz29_2 := blk_frozen BK207.out 2; obtain ⟨Ao30, co30, eo30⟩ := Kd.R_slice HO205.out; subst eo30) | ((with_reducible refine gate_callee (f := 38) rfl ?_); refine goesL_ (some 33) rfl rfl Try.func38 (by kernel_rfl) rfl #[.agg #[.int .i64 t202, .slice Ao30 t203.length co30, .int .i64 t206], .int .i64 a1] rfl (by (try simp only [List.map_toArray, List.map_cons, List.map_nil]); first | done | rfl | (simp only [List.length_drop, List.length_take]; rfl)) ?_; (with_reducible refine (impl_OnDial.calls k t202 _ _ t203 t206 a1 t208 t209 t212 t213 _ ?side1 ?side2 A11.out).mono ?_); (case side1 => refine (Kd.R_reads' (e := 3) (base := w.heap.size) (ok := fun k_ => ((True ∧ some k_ ≠ (.slice Ao18 t191.length co18 : Value).ownBlock) ∧ some k_ ≠ (.slice Ao23 t196.length co23 : Value).ownBlock)) (n := t203.length) (c := co30) ?_).2.2; exact (by (with_reducible repeat (first | apply Kd.R_alloc | apply Kd.R_drewN | apply Kd.R_drew)); exact (Kd.R_mono (Kd.R_far (p := ⟨gb207, 2, none⟩) (Kd.R_far (p := ⟨gb207, 1, none⟩) (Kd.R_far (p := ⟨gb207, 0, none⟩) (Kd.R_types HO205.out BK207.out (by decide)) (fun _ hk => hk.2) (.int .i64 t202)) (fun _ hk => hk.2) (.slice Ao30 t203.length co30)) (fun _ hk => hk.2) (.int .i64 t206)) (fun _ h_ => h_.1)))); (case side2 => exact (Kd.R_reads' HO205.out).2.1); rintro e w31 ⟨v210, rfl, ho0, hb⟩; refine ⟨_, rfl, ?_⟩; have n0_ := Aside0.mk (Kd.R_elder' (by (with_reducible repeat (first | apply Kd.R_alloc | apply Kd.R_drewN | apply Kd.R_drew)); exact (Kd.R_mono (Kd.R_far (p := ⟨gb207, 2, none⟩) (Kd.R_far (p := ⟨gb207, 1, none⟩) (Kd.R_far (p := ⟨gb207, 0, none⟩) (Kd.R_types HO193.out BK207.out (by decide)) (fun _ hk => hk.2) (.int .i64 t202)) (fun _ hk => hk.2) (.slice Ao30 t203.length co30)) (fun _ hk => hk.2) (.int .i64 t206)) (fun _ h_ => h_.1))) (Kd.R_base ho0) hb); have n1_ := Aside0.mk (Kd.R_elder' (by (with_reducible repeat (first | apply Kd.R_alloc | apply Kd.R_drewN | apply Kd.R_drew)); exact (Kd.R_mono (Kd.R_far (p := ⟨gb207, 2, none⟩) (Kd.R_far (p := ⟨gb207, 1, none⟩) (Kd.R_far (p := ⟨gb207, 0, none⟩) (Kd.R_types HO198.out BK207.out (by decide)) (fun _ hk => hk.2) (.int .i64 t202)) (fun _ hk => hk.2) (.slice Ao30 t203.length co30)) (fun _ hk => hk.2) (.int .i64 t206)) (fun _ h_ => h_.1))) (Kd.R_base ho0) hb); have n2_ := Aside0.mk (Kd.R_elder' (by (with_reducible repeat (first | apply Kd.R_alloc | apply Kd.R_drewN | apply Kd.R_drew)); exact (Kd.R_mono (Kd.R_far (p := ⟨gb207, 2, none⟩) (Kd.R_far (p := ⟨gb207, 1, none⟩) (Kd.R_far (p := ⟨gb207, 0, none⟩) (Kd.R_types HO205.out BK207.out (by decide)) (fun _ hk => hk.2) (.int .i64 t202)) (fun _ hk => hk.2) (.slice Ao30 t203.length co30)) (fun _ hk => hk.2) (.int .i64 t206)) (fun _ h_ => h_.1))) (Kd.R_base ho0) hb); have n3_ := Aside0.mk (Kd.R_lower (Kd.R_new' (Kd.R_new' (Kd.R_new' ho0 (Kd.R_lt (by (with_reducible repeat (first | apply Kd.R_alloc | apply Kd.R_drewN | apply Kd.R_drew)); exact (Kd.R_mono (Kd.R_far (p := ⟨gb207, 2, none⟩) (Kd.R_far (p := ⟨gb207, 1, none⟩) (Kd.R_far (p := ⟨gb207, 0, none⟩) (Kd.R_types HO193.out BK207.out (by decide)) (fun _ hk => hk.2) (.int .i64 t202)) (fun _ hk => hk.2) (.slice Ao30 t203.length co30)) (fun _ hk => hk.2) (.int .i64 t206)) (fun _ h_ => h_.1))))) (Kd.R_lt (by (with_reducible repeat (first | apply Kd.R_alloc | apply Kd.R_drewN | apply Kd.R_drew)); exact (Kd.R_mono (Kd.R_far (p := ⟨gb207, 2, none⟩) (Kd.R_far (p := ⟨gb207, 1, none⟩) (Kd.R_far (p := ⟨gb207, 0, none⟩) (Kd.R_types HO198.out BK207.out (by decide)) (fun _ hk => hk.2) (.int .i64 t202)) (fun _ hk => hk.2) (.slice Ao30 t203.length co30)) (fun _ hk => hk.2) (.int .i64 t206)) (fun _ h_ => h_.1))))) (Kd.R_lt (by (with_reducible repeat (first | apply Kd.R_alloc | apply Kd.R_drewN | apply Kd.R_drew)); exact (Kd.R_mono (Kd.R_far (p := ⟨gb207, 2, none⟩) (Kd.R_far (p := ⟨gb207, 1, none⟩) (Kd.R_far (p := ⟨gb207, 0, none⟩) (Kd.R_types HO205.out BK207.out (by decide)) (fun _ hk => hk.2) (.int .i64 t202)) (fun _ hk => hk.2) (.slice Ao30 t203.length co30)) (fun _ hk => hk.2) (.int .i64 t206)) (fun _ h_ => h_.1))))) (below_size (by repeat (first | (with_reducible first | exact HB.out | apply below_alloc | apply pw_below_drewN | apply below_drew1 | refine below_set ?_ GE188.out | refine below_set ?_ GE201.out | refine below_set ?_ GE207.out) | exact HB.out)))); have n4_ := Aside0.mk (blk_below (g := gb188) (o := .cells #[.int .i64 a0_0, .slice A0_1 l0_1.length c0_1, .int .i64 a0_2] 27 (0, 0)) (by (with_reducible repeat (first | refine blk_drewN ?_ _ | refine blk_drew ?_ | refine blk_alloc ?_ _)); refine blk_far ?_ NB188_207.out _; (with_reducible repeat (first | refine blk_drewN ?_ _ | refine blk_drew ?_ | refine blk_alloc ?_ _)); refine blk_far ?_ NB188_207.out _; (with_reducible repeat (first | refine blk_drewN ?_ _ | refine blk_drew ?_ | refine blk_alloc ?_ _)); refine blk_far ?_ NB188_207.out _; (with_reducible repeat (first | refine blk_drewN ?_ _ | refine blk_drew ?_ | refine blk_alloc ?_ _)); exact BK188.out) hb); have n5_ := Aside0.mk (blk_below (g := gb201) (o := .cells #[.int .i64 t195, .slice Ao23 t196.length co23, .int .i64 t199] 30 (0, 0)) (by (with_reducible repeat (first | refine blk_drewN ?_ _ | refine blk_drew ?_ | refine blk_alloc ?_ _)); refine blk_far ?_ NB201_207.out _; (with_reducible repeat (first | refine blk_drewN ?_ _ | refine blk_drew ?_ | refine blk_alloc ?_ _)); refine blk_far ?_ NB201_207.out _; (with_reducible repeat (first | refine blk_drewN ?_ _ | refine blk_drew ?_ | refine blk_alloc ?_ _)); refine blk_far ?_ NB201_207.out _; (with_reducible repeat (first | refine blk_drewN ?_ _ | refine blk_drew ?_ | refine blk_alloc ?_ _)); exact BK201.out) hb); have n6_ := Aside0.mk (blk_below (g := gb207) (o := .cells #[.int .i64 t202, .slice Ao30 t203.length co30, .int .i64 t206] 30 (0, 0)) (by (with_reducible repeat (first | refine blk_drewN ?_ _ | refine blk_drew ?_ | refine blk_alloc ?_ _)); refine blk_put (cs := #[.int .i64 t202, .slice Ao30 t203.length co30, .int .i64 0]) ?_ 2 _ rfl; (with_reducible repeat (first | refine blk_drewN ?_ _ | refine blk_drew ?_ | refine blk_alloc ?_ _)); refine blk_put (cs := #[.int .i64 t202, .slice none 0 0, .int .i64 0]) ?_ 1 _ rfl; (with_reducible repeat (first | refine blk_drewN ?_ _ | refine blk_drew ?_ | refine blk_alloc ?_ _)); refine blk_put (cs := #[.int .i64 0, .slice none 0 0, .int .i64 0]) ?_ 0 _ rfl; (with_reducible repeat (first | refine blk_drewN ?_ _ | refine blk_drew ?_ | refine blk_alloc ?_ _)); exact BK207.out) hb); have n7_ := Aside0.mk (below_step (by repeat (first | (with_reducible first | exact HB.out | apply below_alloc | apply pw_below_drewN | apply below_drew1 | refine below_set ?_ GE188.out | refine below_set ?_ GE201.out | refine below_set ?_ GE207.out) | exact HB.out)) hb); clear HO193; clear HO198; clear HO205; clear BK188; clear BK201; clear BK207; clear HB; have HO193 := n0_; have HO198 := n1_; have HO205 := n2_; have HO211 := n3_; have BK188 := n4_; have BK201 := n5_; have BK207 := n6_; have HB := n7_; clear n0_ n1_ n2_ n3_ n4_ n5_ n6_ n7_; (try clear hb); (try clear hb2); (try clear hk); (try clear hi); (try clear ho0)) | ((with_reducible refine gate_dst (N := 9) rfl ?_); refine box_event ?hg (N := 9) ?hd (cs := #[.int .i64 0, .slice none 0 0, .int .i64 0]) (t := 30) ?hr ?_; (case hd => rfl); (case hg => rfl); (case hr => first | (go_simp; done) | (go_simp; rfl)); intro gb214 hg w32 hbox hb; have n0_ := Aside0.mk (Kd.R_below (by (with_reducible repeat (first | apply Kd.R_alloc | apply Kd.R_drewN | apply Kd.R_drew)); exact HO193.out) hb); have n1_ := Aside0.mk (Kd.R_below (by (with_reducible repeat (first | apply Kd.R_alloc | apply Kd.R_drewN | apply Kd.R_drew)); exact HO198.out) hb); have n2_ := Aside0.mk (Kd.R_below (by (with_reducible repeat (first | apply Kd.R_alloc | apply Kd.R_drewN | apply Kd.R_drew)); exact HO205.out) hb); have n3_ := Aside0.mk (Kd.R_below (by (with_reducible repeat (first | apply Kd.R_alloc | apply Kd.R_drewN | apply Kd.R_drew)); exact HO211.out) hb); have n4_ := Aside0.mk (blk_below (g := gb188) (o := .cells #[.int .i64 a0_0, .slice A0_1 l0_1.length c0_1, .int .i64 a0_2] 27 (0, 0)) (by (with_reducible repeat (first | refine blk_drewN ?_ _ | refine blk_drew ?_ | refine blk_alloc ?_ _)); exact BK188.out) hb); have n5_ := Aside0.mk (blk_below (g := gb201) (o := .cells #[.int .i64 t195, .slice Ao23 t196.length co23, .int .i64 t199] 30 (0, 0)) (by (with_reducible repeat (first | refine blk_drewN ?_ _ | refine blk_drew ?_ | refine blk_alloc ?_ _)); exact BK201.out) hb); have n6_ := Aside0.mk (blk_below (g := gb207) (o := .cells #[.int .i64 t202, .slice Ao30 t203.length co30, .int .i64 t206] 30 (0, 0)) (by (with_reducible repeat (first | refine blk_drewN ?_ _ | refine blk_drew ?_ | refine blk_alloc ?_ _)); exact BK207.out) hb); have n7_ := Aside0.mk (below_step (by repeat (first | (with_reducible first | exact HB.out | apply below_alloc | apply pw_below_drewN | apply below_drew1 | refine below_set ?_ GE188.out | refine below_set ?_ GE201.out | refine below_set ?_ GE207.out) | exact HB.out)) hb); have n8_ := Aside0.mk (hbox); have n9_ := Aside0.mk ((by rw [hg]; exact (below_size (by repeat (first | (with_reducible first | exact HB.out | apply below_alloc | apply pw_below_drewN | apply below_drew1 | refine below_set ?_ GE188.out | refine below_set ?_ GE201.out | refine below_set ?_ GE207.out) | exact HB.out))) : w.heap.size ≤ gb214)); have n10_ := Aside0.mk ((by rw [hg]; exact (below_size (by repeat (first | (with_reducible first | exact HB.out | apply below_alloc | apply pw_below_drewN | apply below_drew1 | refine below_set ?_ GE188.out | refine below_set ?_ GE201.out | refine below_set ?_ GE207.out) | exact HB.out))) : w.heap.size ≤ gb214)); have n11_ := Aside0.mk ((by rw [hg]; exact Nat.ne_of_lt (blk_lt (g := gb188) (o := .cells #[.int .i64 a0_0, .slice A0_1 l0_1.length c0_1, .int .i64 a0_2] 27 (0, 0)) (by (with_reducible repeat (first | refine blk_drewN ?_ _ | refine blk_drew ?_ | refine blk_alloc ?_ _)); exact BK188.out)) : gb188 ≠ gb214)); have n12_ := Aside0.mk ((by rw [hg]; exact Nat.ne_of_gt (blk_lt (g := gb188) (o := .cells #[.int .i64 a0_0, .slice A0_1 l0_1.length c0_1, .int .i64 a0_2] 27 (0, 0)) (by (with_reducible repeat (first | refine blk_drewN ?_ _ | refine blk_drew ?_ | refine blk_alloc ?_ _)); exact BK188.out)) : gb214 ≠ gb188)); have n13_ := Aside0.mk ((by rw [hg]; exact Nat.ne_of_lt (blk_lt (g := gb201) (o := .cells #[.int .i64 t195, .slice Ao23 t196.length co23, .int .i64 t199] 30 (0, 0)) (by (with_reducible repeat (first | refine blk_drewN ?_ _ | refine blk_drew ?_ | refine blk_alloc ?_ _)); exact BK201.out)) : gb201 ≠ gb214)); have n14_ := Aside0.mk ((by rw [hg]; exact Nat.ne_of_gt (blk_lt (g := gb201) (o := .cells #[.int .i64 t195, .slice Ao23 t196.length co23, .int .i64 t199] 30 (0, 0)) (by (with_reducible repeat (first | refine blk_drewN ?_ _ | refine blk_drew ?_ | refine blk_alloc ?_ _)); exact BK201.out)) : gb214 ≠ gb201)); have n15_ := Aside0.mk ((by rw [hg]; exact Nat.ne_of_lt (blk_lt (g := gb207) (o := .cells #[.int .i64 t202, .slice Ao30 t203.length co30, .int .i64 t206] 30 (0, 0)) (by (with_reducible repeat (first | refine blk_drewN ?_ _ | refine blk_drew ?_ | refine blk_alloc ?_ _)); exact BK207.out)) : gb207 ≠ gb214)); have n16_ := Aside0.mk ((by rw [hg]; exact Nat.ne_of_gt (blk_lt (g := gb207) (o := .cells #[.int .i64 t202, .slice Ao30 t203.length co30, .int .i64 t206] 30 (0, 0)) (by (with_reducible repeat (first | refine blk_drewN ?_ _ | refine blk_drew ?_ | refine blk_alloc ?_ _)); exact BK207.out)) : gb214 ≠ gb207)); clear HO193; clear HO198; clear HO205; clear HO211; clear BK188; clear BK201; clear BK207; clear HB; have HO193 := n0_; have HO198 := n1_; have HO205 := n2_; have HO211 := n3_; have BK188 := n4_; have BK201 := n5_; have BK207 := n6_; have HB := n7_; have BK214 := n8_; have GW214 := n9_; have GE214 := n10_; have NB188_214 := n11_; have NB214_188 := n12_; have NB201_214 := n13_; have NB214_201 := n14_; have NB207_214 := n15_; have NB214_207 := n16_; clear n0_ n1_ n2_ n3_ n4_ n5_ n6_ n7_ n8_ n9_ n10_ n11_ n12_ n13_ n14_ n15_ n16_; clear hb hbox hg; have hnb33 := NB214_188.out; have hnc33 := NB188_214.out; have hnb34 := NB214_201.out; have hnc34 := NB201_214.out; have hnb35 := NB214_207.out; have hnc35 := NB207_214.out; have hcz36_0 : w32.cell? ⟨gb214, 0, none⟩ = some (.int .i64 0) := (blk_cell BK214.out 0).trans rfl; have hcz36_1 : w32.cell? ⟨gb214, 1, none⟩ = some (.slice none 0 0) := (blk_cell BK214.out 1).trans rfl; have hcz36_2 : w32.cell? ⟨gb214, 2, none⟩ = some (.int .i64 0) := (blk_cell BK214.out 2).trans rfl; have hfz36_0 := blk_frozen BK214.out 0; have hfz36_1 := blk_frozen BK214.out 1; have hfz36_2 := blk_frozen BK214.out 2; obtain ⟨Ao37, co37, eo37⟩ := Kd.R_slice HO211.out; subst eo37))
    (try simp only [Act.put, List.setIfInBounds_toArray, List.set_cons_zero, List.set_cons_succ])
    go_cut [44] (fun v44 wc => ∃ (kq : Nat) (x44_11 : Bool), v44 = .bool x44_11 ∧ Aside0 (laws_FnExactOnDial.j0 kq a1 t200 t213 x44_11 a0_0 l0_1 a0_2 t195 t196 t199 t202 t203 t206 t208 t209 t212 = some r) ∧ Aside0 (kq ≤ k) ∧ Aside0 (Kd.R (Kd.int .i64) 3 wc w.heap.size (fun k_ => some k_ ≠ ((.slice Ao30 t203.length co30) : Value).ownBlock ∧ some k_ ≠ ((.slice Ao37 t209.length co37) : Value).ownBlock) (.slice Ao23 t196.length co23) t196) ∧ Aside0 (Kd.R (Kd.int .i64) 3 wc w.heap.size (fun k_ => some k_ ≠ ((.slice Ao23 t196.length co23) : Value).ownBlock ∧ some k_ ≠ ((.slice Ao37 t209.length co37) : Value).ownBlock) (.slice Ao30 t203.length co30) t203) ∧ Aside0 (Kd.R (Kd.int .i64) 3 wc w.heap.size (fun k_ => some k_ ≠ ((.slice Ao23 t196.length co23) : Value).ownBlock ∧ some k_ ≠ ((.slice Ao30 t203.length co30) : Value).ownBlock) (.slice Ao37 t209.length co37) t209) ∧ Aside0 (wc.heap[gb188]? = some (.cells #[.int .i64 a0_0, (.slice A0_1 l0_1.length c0_1), .int .i64 a0_2] 27 (0, 0))) ∧ Aside0 (wc.heap[gb201]? = some (.cells #[.int .i64 t195, (.slice Ao23 t196.length co23), .int .i64 t199] 30 (0, 0))) ∧ Aside0 (wc.heap[gb207]? = some (.cells #[.int .i64 t202, (.slice Ao30 t203.length co30), .int .i64 t206] 30 (0, 0))) ∧ Aside0 (wc.heap[gb214]? = some (.cells #[.int .i64 t208, (.slice Ao37 t209.length co37), .int .i64 t212] 30 (0, 0))) ∧ Aside0 (Below w.heap.size w wc))
    case first =>
      have H := HC12.out
      clear HC12
      replace H := Option.bind_eq_some_iff.mp H
      obtain ⟨t215, A380, H⟩ := H
      replace H : (if t215 = true then (laws_FnExactOnDial.j0 k a1 t200 t213 (t213 != t200) a0_0 l0_1 a0_2 t195 t196 t199 t202 t203 t206 t208 t209 t212) else (laws_FnExactOnDial.j0 k a1 t200 t213 true a0_0 l0_1 a0_2 t195 t196 t199 t202 t203 t206 t208 t209 t212)) = some r := H
      have A38 := Aside0.mk A380
      clear A380
      by_cases c39 : t215 = true
      · subst c39
        have H1 : (laws_FnExactOnDial.j0 k a1 t200 t213 (t213 != t200) a0_0 l0_1 a0_2 t195 t196 t199 t202 t203 t206 t208 t209 t212) = some r := by rw [if_pos rfl] at H; exact H
        clear H
        have H := H1
        clear H1
        have H' := Aside0.mk H
        clear H
        have hnb40 := NB214_188.out
        have hnc40 := NB188_214.out
        have hnb41 := NB214_201.out
        have hnc41 := NB201_214.out
        have hnb42 := NB214_207.out
        have hnc42 := NB207_214.out
        have hcz43_0 : w32.cell? ⟨gb214, 0, none⟩ = some (.int .i64 0) := (blk_cell BK214.out 0).trans rfl
        have hcz43_1 : w32.cell? ⟨gb214, 1, none⟩ = some (.slice none 0 0) := (blk_cell BK214.out 1).trans rfl
        have hcz43_2 : w32.cell? ⟨gb214, 2, none⟩ = some (.int .i64 0) := (blk_cell BK214.out 2).trans rfl
        have hfz43_0 := blk_frozen BK214.out 0
        have hfz43_1 := blk_frozen BK214.out 1
        have hfz43_2 := blk_frozen BK214.out 2
        have hnb44 := NB201_188.out
        have hnc44 := NB188_201.out
        have hnb45 := NB201_207.out
        have hnc45 := NB207_201.out
        have hcz46_0 : w32.cell? ⟨gb201, 0, none⟩ = some (.int .i64 t195) := (blk_cell BK201.out 0).trans rfl
        have hcz46_1 : w32.cell? ⟨gb201, 1, none⟩ = some (.slice Ao23 t196.length co23) := (blk_cell BK201.out 1).trans rfl
        have hcz46_2 : w32.cell? ⟨gb201, 2, none⟩ = some (.int .i64 t199) := (blk_cell BK201.out 2).trans rfl
        have hfz46_0 := blk_frozen BK201.out 0
        have hfz46_1 := blk_frozen BK201.out 1
        have hfz46_2 := blk_frozen BK201.out 2
        go_wp2_with (first | ((with_reducible refine gate_callee (f := 20) rfl ?_); refine goesL_ (some 38) rfl rfl Try.func20 (by kernel_rfl) rfl #[.agg #[.int .i64 t208, .slice Ao37 t209.length co37, .int .i64 t212], .agg #[.int .i64 t195, .slice Ao23 t196.length co23, .int .i64 t199]] rfl (by (try simp only [List.map_toArray, List.map_cons, List.map_nil]); first | done | rfl | (simp only [List.length_drop, List.length_take]; rfl)) ?_; (with_reducible refine (laws_eqBreaker.calls k t208 _ _ t209 t212 t195 _ _ t196 t199 true _ ?side1 ?side2 ?side3 ?side4 A38.out).mono ?_); (case side1 => refine (Kd.R_reads' (e := 3) (base := w.heap.size) (ok := fun k_ => (((True ∧ some k_ ≠ (.slice Ao18 t191.length co18 : Value).ownBlock) ∧ some k_ ≠ (.slice Ao23 t196.length co23 : Value).ownBlock) ∧ some k_ ≠ (.slice Ao30 t203.length co30 : Value).ownBlock)) (n := t209.length) (c := co37) ?_).2.2; exact (by (with_reducible repeat (first | apply Kd.R_alloc | apply Kd.R_drewN | apply Kd.R_drew)); exact (Kd.R_mono (Kd.R_far (p := ⟨gb214, 2, none⟩) (Kd.R_far (p := ⟨gb214, 1, none⟩) (Kd.R_far (p := ⟨gb214, 0, none⟩) (Kd.R_types HO211.out BK214.out (by decide)) (fun _ hk => hk.2) (.int .i64 t208)) (fun _ hk => hk.2) (.slice Ao37 t209.length co37)) (fun _ hk => hk.2) (.int .i64 t212)) (fun _ h_ => h_.1)))); (case side2 => exact (Kd.R_reads' HO211.out).2.1); (case side3 => refine (Kd.R_reads' (e := 3) (base := w.heap.size) (ok := fun k_ => (((True ∧ some k_ ≠ (.slice Ao18 t191.length co18 : Value).ownBlock) ∧ some k_ ≠ (.slice Ao30 t203.length co30 : Value).ownBlock) ∧ some k_ ≠ (.slice Ao37 t209.length co37 : Value).ownBlock)) (n := t196.length) (c := co23) ?_).2.2; exact (by (with_reducible repeat (first | apply Kd.R_alloc | apply Kd.R_drewN | apply Kd.R_drew)); exact (Kd.R_mono (Kd.R_far (p := ⟨gb214, 2, none⟩) (Kd.R_far (p := ⟨gb214, 1, none⟩) (Kd.R_far (p := ⟨gb214, 0, none⟩) (Kd.R_types HO198.out BK214.out (by decide)) (fun _ hk => hk.2) (.int .i64 t208)) (fun _ hk => hk.2) (.slice Ao37 t209.length co37)) (fun _ hk => hk.2) (.int .i64 t212)) (fun _ h_ => h_.1)))); (case side4 => exact (Kd.R_reads' HO198.out).2.1); rintro e w47 ⟨rfl, hb⟩; refine ⟨_, rfl, ?_⟩; have n0_ := Aside0.mk (Kd.R_below (by (with_reducible repeat (first | apply Kd.R_alloc | apply Kd.R_drewN | apply Kd.R_drew)); exact (Kd.R_mono (Kd.R_far (p := ⟨gb214, 2, none⟩) (Kd.R_far (p := ⟨gb214, 1, none⟩) (Kd.R_far (p := ⟨gb214, 0, none⟩) (Kd.R_types HO193.out BK214.out (by decide)) (fun _ hk => hk.2) (.int .i64 t208)) (fun _ hk => hk.2) (.slice Ao37 t209.length co37)) (fun _ hk => hk.2) (.int .i64 t212)) (fun _ h_ => h_.1))) hb); have n1_ := Aside0.mk (Kd.R_below (by (with_reducible repeat (first | apply Kd.R_alloc | apply Kd.R_drewN | apply Kd.R_drew)); exact (Kd.R_mono (Kd.R_far (p := ⟨gb214, 2, none⟩) (Kd.R_far (p := ⟨gb214, 1, none⟩) (Kd.R_far (p := ⟨gb214, 0, none⟩) (Kd.R_types HO198.out BK214.out (by decide)) (fun _ hk => hk.2) (.int .i64 t208)) (fun _ hk => hk.2) (.slice Ao37 t209.length co37)) (fun _ hk => hk.2) (.int .i64 t212)) (fun _ h_ => h_.1))) hb); have n2_ := Aside0.mk (Kd.R_below (by (with_reducible repeat (first | apply Kd.R_alloc | apply Kd.R_drewN | apply Kd.R_drew)); exact (Kd.R_mono (Kd.R_far (p := ⟨gb214, 2, none⟩) (Kd.R_far (p := ⟨gb214, 1, none⟩) (Kd.R_far (p := ⟨gb214, 0, none⟩) (Kd.R_types HO205.out BK214.out (by decide)) (fun _ hk => hk.2) (.int .i64 t208)) (fun _ hk => hk.2) (.slice Ao37 t209.length co37)) (fun _ hk => hk.2) (.int .i64 t212)) (fun _ h_ => h_.1))) hb); have n3_ := Aside0.mk (Kd.R_below (by (with_reducible repeat (first | apply Kd.R_alloc | apply Kd.R_drewN | apply Kd.R_drew)); exact (Kd.R_mono (Kd.R_far (p := ⟨gb214, 2, none⟩) (Kd.R_far (p := ⟨gb214, 1, none⟩) (Kd.R_far (p := ⟨gb214, 0, none⟩) (Kd.R_types HO211.out BK214.out (by decide)) (fun _ hk => hk.2) (.int .i64 t208)) (fun _ hk => hk.2) (.slice Ao37 t209.length co37)) (fun _ hk => hk.2) (.int .i64 t212)) (fun _ h_ => h_.1))) hb); have n4_ := Aside0.mk (blk_below (g := gb188) (o := .cells #[.int .i64 a0_0, .slice A0_1 l0_1.length c0_1, .int .i64 a0_2] 27 (0, 0)) (by (with_reducible repeat (first | refine blk_drewN ?_ _ | refine blk_drew ?_ | refine blk_alloc ?_ _)); refine blk_far ?_ NB188_214.out _; (with_reducible repeat (first | refine blk_drewN ?_ _ | refine blk_drew ?_ | refine blk_alloc ?_ _)); refine blk_far ?_ NB188_214.out _; (with_reducible repeat (first | refine blk_drewN ?_ _ | refine blk_drew ?_ | refine blk_alloc ?_ _)); refine blk_far ?_ NB188_214.out _; (with_reducible repeat (first | refine blk_drewN ?_ _ | refine blk_drew ?_ | refine blk_alloc ?_ _)); exact BK188.out) hb); have n5_ := Aside0.mk (blk_below (g := gb201) (o := .cells #[.int .i64 t195, .slice Ao23 t196.length co23, .int .i64 t199] 30 (0, 0)) (by (with_reducible repeat (first | refine blk_drewN ?_ _ | refine blk_drew ?_ | refine blk_alloc ?_ _)); refine blk_far ?_ NB201_214.out _; (with_reducible repeat (first | refine blk_drewN ?_ _ | refine blk_drew ?_ | refine blk_alloc ?_ _)); refine blk_far ?_ NB201_214.out _; (with_reducible repeat (first | refine blk_drewN ?_ _ | refine blk_drew ?_ | refine blk_alloc ?_ _)); refine blk_far ?_ NB201_214.out _; (with_reducible repeat (first | refine blk_drewN ?_ _ | refine blk_drew ?_ | refine blk_alloc ?_ _)); exact BK201.out) hb); have n6_ := Aside0.mk (blk_below (g := gb207) (o := .cells #[.int .i64 t202, .slice Ao30 t203.length co30, .int .i64 t206] 30 (0, 0)) (by (with_reducible repeat (first | refine blk_drewN ?_ _ | refine blk_drew ?_ | refine blk_alloc ?_ _)); refine blk_far ?_ NB207_214.out _; (with_reducible repeat (first | refine blk_drewN ?_ _ | refine blk_drew ?_ | refine blk_alloc ?_ _)); refine blk_far ?_ NB207_214.out _; (with_reducible repeat (first | refine blk_drewN ?_ _ | refine blk_drew ?_ | refine blk_alloc ?_ _)); refine blk_far ?_ NB207_214.out _; (with_reducible repeat (first | refine blk_drewN ?_ _ | refine blk_drew ?_ | refine blk_alloc ?_ _)); exact BK207.out) hb); have n7_ := Aside0.mk (blk_below (g := gb214) (o := .cells #[.int .i64 t208, .slice Ao37 t209.length co37, .int .i64 t212] 30 (0, 0)) (by (with_reducible repeat (first | refine blk_drewN ?_ _ | refine blk_drew ?_ | refine blk_alloc ?_ _)); refine blk_put (cs := #[.int .i64 t208, .slice Ao37 t209.length co37, .int .i64 0]) ?_ 2 _ rfl; (with_reducible repeat (first | refine blk_drewN ?_ _ | refine blk_drew ?_ | refine blk_alloc ?_ _)); refine blk_put (cs := #[.int .i64 t208, .slice none 0 0, .int .i64 0]) ?_ 1 _ rfl; (with_reducible repeat (first | refine blk_drewN ?_ _ | refine blk_drew ?_ | refine blk_alloc ?_ _)); refine blk_put (cs := #[.int .i64 0, .slice none 0 0, .int .i64 0]) ?_ 0 _ rfl; (with_reducible repeat (first | refine blk_drewN ?_ _ | refine blk_drew ?_ | refine blk_alloc ?_ _)); exact BK214.out) hb); have n8_ := Aside0.mk (below_step (by repeat (first | (with_reducible first | exact HB.out | apply below_alloc | apply pw_below_drewN | apply below_drew1 | refine below_set ?_ GE188.out | refine below_set ?_ GE201.out | refine below_set ?_ GE207.out | refine below_set ?_ GE214.out) | exact HB.out)) hb); clear HO193; clear HO198; clear HO205; clear HO211; clear BK188; clear BK201; clear BK207; clear BK214; clear HB; have HO193 := n0_; have HO198 := n1_; have HO205 := n2_; have HO211 := n3_; have BK188 := n4_; have BK201 := n5_; have BK207 := n6_; have BK214 := n7_; have HB := n8_; clear n0_ n1_ n2_ n3_ n4_ n5_ n6_ n7_ n8_; (try clear hb); (try clear hb2); (try clear hk); (try clear hi)))
        go_meet
        case rel => exact ⟨_, ((t213 != t200)), (by first | rfl | (simp; done) | (simp [*]; done)), H', ⟨by first | omega | exact Nat.le_refl _⟩, ⟨by (with_reducible repeat (first | apply Kd.R_alloc | apply Kd.R_drewN | apply Kd.R_drew)); exact Kd.R_mono HO198.out (fun _ hk => ⟨hk.1.2, hk.2⟩)⟩, ⟨by (with_reducible repeat (first | apply Kd.R_alloc | apply Kd.R_drewN | apply Kd.R_drew)); exact Kd.R_mono HO205.out (fun _ hk => ⟨hk.1.2, hk.2⟩)⟩, ⟨by (with_reducible repeat (first | apply Kd.R_alloc | apply Kd.R_drewN | apply Kd.R_drew)); exact Kd.R_mono HO211.out (fun _ hk => ⟨hk.1.2, hk.2⟩)⟩, ⟨by (with_reducible repeat (first | refine blk_drewN ?_ _ | refine blk_drew ?_ | refine blk_alloc ?_ _)); exact BK188.out⟩, ⟨by (with_reducible repeat (first | refine blk_drewN ?_ _ | refine blk_drew ?_ | refine blk_alloc ?_ _)); exact BK201.out⟩, ⟨by (with_reducible repeat (first | refine blk_drewN ?_ _ | refine blk_drew ?_ | refine blk_alloc ?_ _)); exact BK207.out⟩, ⟨by (with_reducible repeat (first | refine blk_drewN ?_ _ | refine blk_drew ?_ | refine blk_alloc ?_ _)); exact BK214.out⟩, ⟨by repeat (first | (with_reducible first | exact HB.out | apply below_alloc | apply pw_below_drewN | apply below_drew1 | refine below_set ?_ GE188.out | refine below_set ?_ GE201.out | refine below_set ?_ GE207.out | refine below_set ?_ GE214.out) | exact HB.out)⟩⟩
      · replace c39 := Bool.eq_false_iff.mpr c39
        subst c39
        have H1 : (laws_FnExactOnDial.j0 k a1 t200 t213 true a0_0 l0_1 a0_2 t195 t196 t199 t202 t203 t206 t208 t209 t212) = some r := by rw [if_neg (show ¬ (false = true) by decide)] at H; exact H
        clear H
        have H := H1
        clear H1
        have H' := Aside0.mk H
        clear H
        have hnb48 := NB214_188.out
        have hnc48 := NB188_214.out
        have hnb49 := NB214_201.out
        have hnc49 := NB201_214.out
        have hnb50 := NB214_207.out
        have hnc50 := NB207_214.out
        have hcz51_0 : w32.cell? ⟨gb214, 0, none⟩ = some (.int .i64 0) := (blk_cell BK214.out 0).trans rfl
        have hcz51_1 : w32.cell? ⟨gb214, 1, none⟩ = some (.slice none 0 0) := (blk_cell BK214.out 1).trans rfl
        have hcz51_2 : w32.cell? ⟨gb214, 2, none⟩ = some (.int .i64 0) := (blk_cell BK214.out 2).trans rfl
        have hfz51_0 := blk_frozen BK214.out 0
        have hfz51_1 := blk_frozen BK214.out 1
        have hfz51_2 := blk_frozen BK214.out 2
        have hnb52 := NB201_188.out
        have hnc52 := NB188_201.out
        have hnb53 := NB201_207.out
        have hnc53 := NB207_201.out
        have hcz54_0 : w32.cell? ⟨gb201, 0, none⟩ = some (.int .i64 t195) := (blk_cell BK201.out 0).trans rfl
        have hcz54_1 : w32.cell? ⟨gb201, 1, none⟩ = some (.slice Ao23 t196.length co23) := (blk_cell BK201.out 1).trans rfl
        have hcz54_2 : w32.cell? ⟨gb201, 2, none⟩ = some (.int .i64 t199) := (blk_cell BK201.out 2).trans rfl
        have hfz54_0 := blk_frozen BK201.out 0
        have hfz54_1 := blk_frozen BK201.out 1
        have hfz54_2 := blk_frozen BK201.out 2
        go_wp2_with (first | ((with_reducible refine gate_callee (f := 20) rfl ?_); refine goesL_ (some 38) rfl rfl Try.func20 (by kernel_rfl) rfl #[.agg #[.int .i64 t208, .slice Ao37 t209.length co37, .int .i64 t212], .agg #[.int .i64 t195, .slice Ao23 t196.length co23, .int .i64 t199]] rfl (by (try simp only [List.map_toArray, List.map_cons, List.map_nil]); first | done | rfl | (simp only [List.length_drop, List.length_take]; rfl)) ?_; (with_reducible refine (laws_eqBreaker.calls k t208 _ _ t209 t212 t195 _ _ t196 t199 false _ ?side1 ?side2 ?side3 ?side4 A38.out).mono ?_); (case side1 => refine (Kd.R_reads' (e := 3) (base := w.heap.size) (ok := fun k_ => (((True ∧ some k_ ≠ (.slice Ao18 t191.length co18 : Value).ownBlock) ∧ some k_ ≠ (.slice Ao23 t196.length co23 : Value).ownBlock) ∧ some k_ ≠ (.slice Ao30 t203.length co30 : Value).ownBlock)) (n := t209.length) (c := co37) ?_).2.2; exact (by (with_reducible repeat (first | apply Kd.R_alloc | apply Kd.R_drewN | apply Kd.R_drew)); exact (Kd.R_mono (Kd.R_far (p := ⟨gb214, 2, none⟩) (Kd.R_far (p := ⟨gb214, 1, none⟩) (Kd.R_far (p := ⟨gb214, 0, none⟩) (Kd.R_types HO211.out BK214.out (by decide)) (fun _ hk => hk.2) (.int .i64 t208)) (fun _ hk => hk.2) (.slice Ao37 t209.length co37)) (fun _ hk => hk.2) (.int .i64 t212)) (fun _ h_ => h_.1)))); (case side2 => exact (Kd.R_reads' HO211.out).2.1); (case side3 => refine (Kd.R_reads' (e := 3) (base := w.heap.size) (ok := fun k_ => (((True ∧ some k_ ≠ (.slice Ao18 t191.length co18 : Value).ownBlock) ∧ some k_ ≠ (.slice Ao30 t203.length co30 : Value).ownBlock) ∧ some k_ ≠ (.slice Ao37 t209.length co37 : Value).ownBlock)) (n := t196.length) (c := co23) ?_).2.2; exact (by (with_reducible repeat (first | apply Kd.R_alloc | apply Kd.R_drewN | apply Kd.R_drew)); exact (Kd.R_mono (Kd.R_far (p := ⟨gb214, 2, none⟩) (Kd.R_far (p := ⟨gb214, 1, none⟩) (Kd.R_far (p := ⟨gb214, 0, none⟩) (Kd.R_types HO198.out BK214.out (by decide)) (fun _ hk => hk.2) (.int .i64 t208)) (fun _ hk => hk.2) (.slice Ao37 t209.length co37)) (fun _ hk => hk.2) (.int .i64 t212)) (fun _ h_ => h_.1)))); (case side4 => exact (Kd.R_reads' HO198.out).2.1); rintro e w55 ⟨rfl, hb⟩; refine ⟨_, rfl, ?_⟩; have n0_ := Aside0.mk (Kd.R_below (by (with_reducible repeat (first | apply Kd.R_alloc | apply Kd.R_drewN | apply Kd.R_drew)); exact (Kd.R_mono (Kd.R_far (p := ⟨gb214, 2, none⟩) (Kd.R_far (p := ⟨gb214, 1, none⟩) (Kd.R_far (p := ⟨gb214, 0, none⟩) (Kd.R_types HO193.out BK214.out (by decide)) (fun _ hk => hk.2) (.int .i64 t208)) (fun _ hk => hk.2) (.slice Ao37 t209.length co37)) (fun _ hk => hk.2) (.int .i64 t212)) (fun _ h_ => h_.1))) hb); have n1_ := Aside0.mk (Kd.R_below (by (with_reducible repeat (first | apply Kd.R_alloc | apply Kd.R_drewN | apply Kd.R_drew)); exact (Kd.R_mono (Kd.R_far (p := ⟨gb214, 2, none⟩) (Kd.R_far (p := ⟨gb214, 1, none⟩) (Kd.R_far (p := ⟨gb214, 0, none⟩) (Kd.R_types HO198.out BK214.out (by decide)) (fun _ hk => hk.2) (.int .i64 t208)) (fun _ hk => hk.2) (.slice Ao37 t209.length co37)) (fun _ hk => hk.2) (.int .i64 t212)) (fun _ h_ => h_.1))) hb); have n2_ := Aside0.mk (Kd.R_below (by (with_reducible repeat (first | apply Kd.R_alloc | apply Kd.R_drewN | apply Kd.R_drew)); exact (Kd.R_mono (Kd.R_far (p := ⟨gb214, 2, none⟩) (Kd.R_far (p := ⟨gb214, 1, none⟩) (Kd.R_far (p := ⟨gb214, 0, none⟩) (Kd.R_types HO205.out BK214.out (by decide)) (fun _ hk => hk.2) (.int .i64 t208)) (fun _ hk => hk.2) (.slice Ao37 t209.length co37)) (fun _ hk => hk.2) (.int .i64 t212)) (fun _ h_ => h_.1))) hb); have n3_ := Aside0.mk (Kd.R_below (by (with_reducible repeat (first | apply Kd.R_alloc | apply Kd.R_drewN | apply Kd.R_drew)); exact (Kd.R_mono (Kd.R_far (p := ⟨gb214, 2, none⟩) (Kd.R_far (p := ⟨gb214, 1, none⟩) (Kd.R_far (p := ⟨gb214, 0, none⟩) (Kd.R_types HO211.out BK214.out (by decide)) (fun _ hk => hk.2) (.int .i64 t208)) (fun _ hk => hk.2) (.slice Ao37 t209.length co37)) (fun _ hk => hk.2) (.int .i64 t212)) (fun _ h_ => h_.1))) hb); have n4_ := Aside0.mk (blk_below (g := gb188) (o := .cells #[.int .i64 a0_0, .slice A0_1 l0_1.length c0_1, .int .i64 a0_2] 27 (0, 0)) (by (with_reducible repeat (first | refine blk_drewN ?_ _ | refine blk_drew ?_ | refine blk_alloc ?_ _)); refine blk_far ?_ NB188_214.out _; (with_reducible repeat (first | refine blk_drewN ?_ _ | refine blk_drew ?_ | refine blk_alloc ?_ _)); refine blk_far ?_ NB188_214.out _; (with_reducible repeat (first | refine blk_drewN ?_ _ | refine blk_drew ?_ | refine blk_alloc ?_ _)); refine blk_far ?_ NB188_214.out _; (with_reducible repeat (first | refine blk_drewN ?_ _ | refine blk_drew ?_ | refine blk_alloc ?_ _)); exact BK188.out) hb); have n5_ := Aside0.mk (blk_below (g := gb201) (o := .cells #[.int .i64 t195, .slice Ao23 t196.length co23, .int .i64 t199] 30 (0, 0)) (by (with_reducible repeat (first | refine blk_drewN ?_ _ | refine blk_drew ?_ | refine blk_alloc ?_ _)); refine blk_far ?_ NB201_214.out _; (with_reducible repeat (first | refine blk_drewN ?_ _ | refine blk_drew ?_ | refine blk_alloc ?_ _)); refine blk_far ?_ NB201_214.out _; (with_reducible repeat (first | refine blk_drewN ?_ _ | refine blk_drew ?_ | refine blk_alloc ?_ _)); refine blk_far ?_ NB201_214.out _; (with_reducible repeat (first | refine blk_drewN ?_ _ | refine blk_drew ?_ | refine blk_alloc ?_ _)); exact BK201.out) hb); have n6_ := Aside0.mk (blk_below (g := gb207) (o := .cells #[.int .i64 t202, .slice Ao30 t203.length co30, .int .i64 t206] 30 (0, 0)) (by (with_reducible repeat (first | refine blk_drewN ?_ _ | refine blk_drew ?_ | refine blk_alloc ?_ _)); refine blk_far ?_ NB207_214.out _; (with_reducible repeat (first | refine blk_drewN ?_ _ | refine blk_drew ?_ | refine blk_alloc ?_ _)); refine blk_far ?_ NB207_214.out _; (with_reducible repeat (first | refine blk_drewN ?_ _ | refine blk_drew ?_ | refine blk_alloc ?_ _)); refine blk_far ?_ NB207_214.out _; (with_reducible repeat (first | refine blk_drewN ?_ _ | refine blk_drew ?_ | refine blk_alloc ?_ _)); exact BK207.out) hb); have n7_ := Aside0.mk (blk_below (g := gb214) (o := .cells #[.int .i64 t208, .slice Ao37 t209.length co37, .int .i64 t212] 30 (0, 0)) (by (with_reducible repeat (first | refine blk_drewN ?_ _ | refine blk_drew ?_ | refine blk_alloc ?_ _)); refine blk_put (cs := #[.int .i64 t208, .slice Ao37 t209.length co37, .int .i64 0]) ?_ 2 _ rfl; (with_reducible repeat (first | refine blk_drewN ?_ _ | refine blk_drew ?_ | refine blk_alloc ?_ _)); refine blk_put (cs := #[.int .i64 t208, .slice none 0 0, .int .i64 0]) ?_ 1 _ rfl; (with_reducible repeat (first | refine blk_drewN ?_ _ | refine blk_drew ?_ | refine blk_alloc ?_ _)); refine blk_put (cs := #[.int .i64 0, .slice none 0 0, .int .i64 0]) ?_ 0 _ rfl; (with_reducible repeat (first | refine blk_drewN ?_ _ | refine blk_drew ?_ | refine blk_alloc ?_ _)); exact BK214.out) hb); have n8_ := Aside0.mk (below_step (by repeat (first | (with_reducible first | exact HB.out | apply below_alloc | apply pw_below_drewN | apply below_drew1 | refine below_set ?_ GE188.out | refine below_set ?_ GE201.out | refine below_set ?_ GE207.out | refine below_set ?_ GE214.out) | exact HB.out)) hb); clear HO193; clear HO198; clear HO205; clear HO211; clear BK188; clear BK201; clear BK207; clear BK214; clear HB; have HO193 := n0_; have HO198 := n1_; have HO205 := n2_; have HO211 := n3_; have BK188 := n4_; have BK201 := n5_; have BK207 := n6_; have BK214 := n7_; have HB := n8_; clear n0_ n1_ n2_ n3_ n4_ n5_ n6_ n7_ n8_; (try clear hb); (try clear hb2); (try clear hk); (try clear hi)))
        go_meet
        case rel => exact ⟨_, (true), (by first | rfl | (simp; done) | (simp [*]; done)), H', ⟨by first | omega | exact Nat.le_refl _⟩, ⟨by (with_reducible repeat (first | apply Kd.R_alloc | apply Kd.R_drewN | apply Kd.R_drew)); exact Kd.R_mono HO198.out (fun _ hk => ⟨hk.1.2, hk.2⟩)⟩, ⟨by (with_reducible repeat (first | apply Kd.R_alloc | apply Kd.R_drewN | apply Kd.R_drew)); exact Kd.R_mono HO205.out (fun _ hk => ⟨hk.1.2, hk.2⟩)⟩, ⟨by (with_reducible repeat (first | apply Kd.R_alloc | apply Kd.R_drewN | apply Kd.R_drew)); exact Kd.R_mono HO211.out (fun _ hk => ⟨hk.1.2, hk.2⟩)⟩, ⟨by (with_reducible repeat (first | refine blk_drewN ?_ _ | refine blk_drew ?_ | refine blk_alloc ?_ _)); exact BK188.out⟩, ⟨by (with_reducible repeat (first | refine blk_drewN ?_ _ | refine blk_drew ?_ | refine blk_alloc ?_ _)); exact BK201.out⟩, ⟨by (with_reducible repeat (first | refine blk_drewN ?_ _ | refine blk_drew ?_ | refine blk_alloc ?_ _)); exact BK207.out⟩, ⟨by (with_reducible repeat (first | refine blk_drewN ?_ _ | refine blk_drew ?_ | refine blk_alloc ?_ _)); exact BK214.out⟩, ⟨by repeat (first | (with_reducible first | exact HB.out | apply below_alloc | apply pw_below_drewN | apply below_drew1 | refine below_set ?_ GE188.out | refine below_set ?_ GE201.out | refine below_set ?_ GE207.out | refine below_set ?_ GE214.out) | exact HB.out)⟩⟩
    case rest =>
      clear HC12
      try clear c1
      try clear c2
      try clear p2
      try clear c3
      try clear c4
      try clear c4b0
      try clear c5
      try clear c10
      try clear c16
      try clear c18
      try clear c20
      try clear c21
      try clear c27
      try clear c28
      try clear c33
      try clear c34
      try clear c35
      try clear c37
      try clear c38
      try clear c39
      try clear c40
      try clear c41
      try clear c42
      try clear c44
      try clear c45
      try clear c48
      try clear c49
      try clear c50
      try clear c52
      try clear c53
      try clear hcz14_0
      try clear hcz14_1
      try clear hcz14_2
      try clear hcz16_0
      try clear hcz16_1
      try clear hcz16_2
      try clear hcz22_0
      try clear hcz22_1
      try clear hcz22_2
      try clear hcz24_0
      try clear hcz24_1
      try clear hcz24_2
      try clear hcz29_0
      try clear hcz29_1
      try clear hcz29_2
      try clear hcz36_0
      try clear hcz36_1
      try clear hcz36_2
      try clear hcz43_0
      try clear hcz43_1
      try clear hcz43_2
      try clear hcz46_0
      try clear hcz46_1
      try clear hcz46_2
      try clear hcz51_0
      try clear hcz51_1
      try clear hcz51_2
      try clear hcz54_0
      try clear hcz54_1
      try clear hcz54_2
      try clear hcz6_0
      try clear hcz6_1
      try clear hcz6_2
      try clear hfz14_0
      try clear hfz14_1
      try clear hfz14_2
      try clear hfz16_0
      try clear hfz16_1
      try clear hfz16_2
      try clear hfz22_0
      try clear hfz22_1
      try clear hfz22_2
      try clear hfz24_0
      try clear hfz24_1
      try clear hfz24_2
      try clear hfz29_0
      try clear hfz29_1
      try clear hfz29_2
      try clear hfz36_0
      try clear hfz36_1
      try clear hfz36_2
      try clear hfz43_0
      try clear hfz43_1
      try clear hfz43_2
      try clear hfz46_0
      try clear hfz46_1
      try clear hfz46_2
      try clear hfz51_0
      try clear hfz51_1
      try clear hfz51_2
      try clear hfz54_0
      try clear hfz54_1
      try clear hfz54_2
      try clear hfz6_0
      try clear hfz6_1
      try clear hfz6_2
      obtain ⟨kq, x44_11, rfl, HA, HJ11, HO_202001, HO_208001, HO_215001, BK188, BK201, BK207, BK214, HB⟩ := hcut
      cases kq with
      | zero => exact absurd HA.out (by simp [laws_FnExactOnDial.j0])
      | succ kj11 =>
        have H := HA.out
        clear HA
        simp only [laws_FnExactOnDial.j0] at H
        by_cases c56 : x44_11 = true
        · subst c56
          have H1 : (some false) = some r := by rw [if_pos rfl] at H; exact H
          clear H
          have H := H1
          clear H1
          obtain rfl := Option.some.inj H
          go_wp2
          go_ret
          exact ⟨by first | rfl | (simp [errW_none, errW_some] <;> rfl) | (simp [*, errW_none, errW_some] <;> rfl), by repeat (first | (with_reducible first | exact HB.out | apply below_alloc | apply pw_below_drewN | apply below_drew1 | refine below_set ?_ GE188.out | refine below_set ?_ GE201.out | refine below_set ?_ GE207.out | refine below_set ?_ GE214.out) | exact HB.out)⟩
        · replace c56 := Bool.eq_false_iff.mpr c56
          subst c56
          have H1 : ((laws_toBreaker.f kj11 a0_0 l0_1 a0_2).bind fun bt216 => ((laws_eqBreaker.f kj11 t202 t203 t206 bt216.1 bt216.2.1 bt216.2.2).bind fun t221 => (if t221 = true then ((laws_markBreaker.f kj11 t202 t203 t206 1).bind fun bt222 => (if bt222.1 < 0 then (laws_FnExactOnDial.j1 kj11 a1 t200 true a0_0 l0_1 a0_2 t195 t196 t199 t208 t209 t212) else ((laws_eqBreaker.f kj11 t208 t209 t212 t195 t196 t199).bind fun t224 => (if t224 = true then (laws_FnExactOnDial.j1 kj11 a1 t200 (t213 != t200) a0_0 l0_1 a0_2 t195 t196 t199 t208 t209 t212) else (laws_FnExactOnDial.j1 kj11 a1 t200 true a0_0 l0_1 a0_2 t195 t196 t199 t208 t209 t212))))) else (some false)))) = some r := by rw [if_neg (show ¬ (false = true) by decide)] at H; exact H
          clear H
          have H := H1
          clear H1
          replace H := Option.bind_eq_some_iff.mp H
          obtain ⟨⟨t216, t217, t220⟩, A570, H⟩ := H
          replace H : ((laws_eqBreaker.f kj11 t202 t203 t206 t216 t217 t220).bind fun t221 => (if t221 = true then ((laws_markBreaker.f kj11 t202 t203 t206 1).bind fun bt222 => (if bt222.1 < 0 then (laws_FnExactOnDial.j1 kj11 a1 t200 true a0_0 l0_1 a0_2 t195 t196 t199 t208 t209 t212) else ((laws_eqBreaker.f kj11 t208 t209 t212 t195 t196 t199).bind fun t224 => (if t224 = true then (laws_FnExactOnDial.j1 kj11 a1 t200 (t213 != t200) a0_0 l0_1 a0_2 t195 t196 t199 t208 t209 t212) else (laws_FnExactOnDial.j1 kj11 a1 t200 true a0_0 l0_1 a0_2 t195 t196 t199 t208 t209 t212))))) else (some false))) = some r := H
          have A57 := Aside0.mk A570
          clear A570
          replace H := Option.bind_eq_some_iff.mp H
          obtain ⟨t221, A580, H⟩ := H
          replace H : (if t221 = true then ((laws_markBreaker.f kj11 t202 t203 t206 1).bind fun bt222 => (if bt222.1 < 0 then (laws_FnExactOnDial.j1 kj11 a1 t200 true a0_0 l0_1 a0_2 t195 t196 t199 t208 t209 t212) else ((laws_eqBreaker.f kj11 t208 t209 t212 t195 t196 t199).bind fun t224 => (if t224 = true then (laws_FnExactOnDial.j1 kj11 a1 t200 (t213 != t200) a0_0 l0_1 a0_2 t195 t196 t199 t208 t209 t212) else (laws_FnExactOnDial.j1 kj11 a1 t200 true a0_0 l0_1 a0_2 t195 t196 t199 t208 t209 t212))))) else (some false)) = some r := H
          have A58 := Aside0.mk A580
          clear A580
          by_cases c59 : t221 = true
          · subst c59
            have H1 : ((laws_markBreaker.f kj11 t202 t203 t206 1).bind fun bt222 => (if bt222.1 < 0 then (laws_FnExactOnDial.j1 kj11 a1 t200 true a0_0 l0_1 a0_2 t195 t196 t199 t208 t209 t212) else ((laws_eqBreaker.f kj11 t208 t209 t212 t195 t196 t199).bind fun t224 => (if t224 = true then (laws_FnExactOnDial.j1 kj11 a1 t200 (t213 != t200) a0_0 l0_1 a0_2 t195 t196 t199 t208 t209 t212) else (laws_FnExactOnDial.j1 kj11 a1 t200 true a0_0 l0_1 a0_2 t195 t196 t199 t208 t209 t212))))) = some r := by rw [if_pos rfl] at H; exact H
            clear H
            have H := H1
            clear H1
            replace H := Option.bind_eq_some_iff.mp H
            obtain ⟨⟨t222, t223⟩, A600, H⟩ := H
            replace H : (if t222 < 0 then (laws_FnExactOnDial.j1 kj11 a1 t200 true a0_0 l0_1 a0_2 t195 t196 t199 t208 t209 t212) else ((laws_eqBreaker.f kj11 t208 t209 t212 t195 t196 t199).bind fun t224 => (if t224 = true then (laws_FnExactOnDial.j1 kj11 a1 t200 (t213 != t200) a0_0 l0_1 a0_2 t195 t196 t199 t208 t209 t212) else (laws_FnExactOnDial.j1 kj11 a1 t200 true a0_0 l0_1 a0_2 t195 t196 t199 t208 t209 t212)))) = some r := H
            have A60 := Aside0.mk A600
            clear A600
            have HC61 := Aside0.mk H
            clear H
            try go_wp2
            have n0_ := Aside0.mk (Kd.R_drew HO_202001.out)
            have n1_ := Aside0.mk (Kd.R_drew HO_208001.out)
            have n2_ := Aside0.mk (Kd.R_drew HO_215001.out)
            have n3_ := Aside0.mk (blk_drew BK188.out)
            have n4_ := Aside0.mk (blk_drew BK201.out)
            have n5_ := Aside0.mk (blk_drew BK207.out)
            have n6_ := Aside0.mk (blk_drew BK214.out)
            have n7_ := Aside0.mk (below_drew1 HB.out)
            clear HO_202001
            clear HO_208001
            clear HO_215001
            clear BK188
            clear BK201
            clear BK207
            clear BK214
            clear HB
            have HO_202001 := n0_
            have HO_208001 := n1_
            have HO_215001 := n2_
            have BK188 := n3_
            have BK201 := n4_
            have BK207 := n5_
            have BK214 := n6_
            have HB := n7_
            clear n0_ n1_ n2_ n3_ n4_ n5_ n6_ n7_
            refine start_ (n := 5) (S := fun w' => w'.cell? ⟨gb207, 0, none⟩ = some (.int .i64 t202) ∧ w'.cell? ⟨gb207, 1, none⟩ = some (.slice Ao30 t203.length co30) ∧ w'.cell? ⟨gb207, 2, none⟩ = some (.int .i64 t206) ∧ w'.cell? ⟨gb188, 0, none⟩ = some (.int .i64 a0_0) ∧ w'.cell? ⟨gb188, 1, none⟩ = some (.slice A0_1 l0_1.length c0_1) ∧ w'.cell? ⟨gb188, 2, none⟩ = some (.int .i64 a0_2)) (ds := []) #[false, false, false, false, false] (by kernel_rfl) rfl rfl ⟨(blk_cell BK207.out 0).trans rfl, (blk_cell BK207.out 1).trans rfl, (blk_cell BK207.out 2).trans rfl, (blk_cell BK188.out 0).trans rfl, (blk_cell BK188.out 1).trans rfl, (blk_cell BK188.out 2).trans rfl⟩ (fun hHeld => ?_)
            generalize wc.drew = w62 at HO_202001 HO_208001 HO_215001 BK188 BK201 BK207 BK214 HB hHeld ⊢
            refine take_ (i := 0) (N := some 45) (v := ?_) (a' := ?_) #[true, false, false, false, false] rfl rfl (by kernel_rfl) (fun _ _ _ h => h) (Or.inl ⟨by rfl, ?_⟩) hHeld ?_ ?_
            rotate_left
            · rintro w' ⟨s0, s1, s2, s3, s4, s5⟩
              go_simp
              with_reducible rfl
            rotate_left
            · simp only [Act.put, List.setIfInBounds_toArray, List.set_cons_zero, List.set_cons_succ, i64_w, i32_w]
              rfl
            refine take_ (i := 1) (N := some 46) (v := ?_) (a' := ?_) #[true, true, false, false, false] rfl rfl (by kernel_rfl) (fun _ _ _ h => h) (Or.inl ⟨by rfl, ?_⟩) hHeld ?_ ?_
            rotate_left
            · rintro w' ⟨s0, s1, s2, s3, s4, s5⟩
              go_simp
              with_reducible rfl
            rotate_left
            · simp only [Act.put, List.setIfInBounds_toArray, List.set_cons_zero, List.set_cons_succ, i64_w, i32_w]
              rfl
            refine one_ (i := 2) (N := some 47) #[true, true, true, false, false] rfl rfl (by kernel_rfl) (by decide) (fun K hK => ?_)
            refine goes_ Try.func18 (by kernel_rfl) rfl #[.agg #[.int .i64 a0_0, .slice A0_1 l0_1.length c0_1, .int .i64 a0_2]] (by rfl) rfl rfl (by (try simp only [List.map_toArray, List.map_cons, List.map_nil]); first | done | rfl | (simp only [List.length_drop, List.length_take]; rfl)) ?_
            with_reducible refine (laws_toBreaker.calls kj11 a0_0 _ _ l0_1 a0_2 t216 t217 t220 _ ?side1 ?side2 A57.out).mono ?_
            (case side1 => repeat (first | exact (Kd.C_below HR0_1.out HB.out) | (with_reducible refine Kd.C_alloc ?_ _) | (with_reducible refine Kd.C_drewN ?_ _) | (with_reducible refine Kd.C_drew ?_)))
            (case side2 => exact HC0_1.out)
            rintro e w63 ⟨v218, rfl, ho0, hb⟩
            refine ⟨_, rfl, ?_⟩
            have n0_ := Aside0.mk (Kd.R_elder' (by (with_reducible repeat (first | apply Kd.R_alloc | apply Kd.R_drewN | apply Kd.R_drew)); exact HO_202001.out) (Kd.R_base ho0) hb)
            have n1_ := Aside0.mk (Kd.R_elder' (by (with_reducible repeat (first | apply Kd.R_alloc | apply Kd.R_drewN | apply Kd.R_drew)); exact HO_208001.out) (Kd.R_base ho0) hb)
            have n2_ := Aside0.mk (Kd.R_elder' (by (with_reducible repeat (first | apply Kd.R_alloc | apply Kd.R_drewN | apply Kd.R_drew)); exact HO_215001.out) (Kd.R_base ho0) hb)
            have n3_ := Aside0.mk (Kd.R_lower (Kd.R_new' (Kd.R_new' (Kd.R_new' ho0 (Kd.R_lt (by (with_reducible repeat (first | apply Kd.R_alloc | apply Kd.R_drewN | apply Kd.R_drew)); exact HO_202001.out))) (Kd.R_lt (by (with_reducible repeat (first | apply Kd.R_alloc | apply Kd.R_drewN | apply Kd.R_drew)); exact HO_208001.out))) (Kd.R_lt (by (with_reducible repeat (first | apply Kd.R_alloc | apply Kd.R_drewN | apply Kd.R_drew)); exact HO_215001.out))) (below_size (by repeat (first | (with_reducible first | exact HB.out | apply below_alloc | apply pw_below_drewN | apply below_drew1 | refine below_set ?_ GE188.out | refine below_set ?_ GE201.out | refine below_set ?_ GE207.out | refine below_set ?_ GE214.out) | exact HB.out))))
            have n4_ := Aside0.mk (blk_below (g := gb188) (o := .cells #[.int .i64 a0_0, .slice A0_1 l0_1.length c0_1, .int .i64 a0_2] 27 (0, 0)) (by (with_reducible repeat (first | refine blk_drewN ?_ _ | refine blk_drew ?_ | refine blk_alloc ?_ _)); exact BK188.out) hb)
            have n5_ := Aside0.mk (blk_below (g := gb201) (o := .cells #[.int .i64 t195, .slice Ao23 t196.length co23, .int .i64 t199] 30 (0, 0)) (by (with_reducible repeat (first | refine blk_drewN ?_ _ | refine blk_drew ?_ | refine blk_alloc ?_ _)); exact BK201.out) hb)
            have n6_ := Aside0.mk (blk_below (g := gb207) (o := .cells #[.int .i64 t202, .slice Ao30 t203.length co30, .int .i64 t206] 30 (0, 0)) (by (with_reducible repeat (first | refine blk_drewN ?_ _ | refine blk_drew ?_ | refine blk_alloc ?_ _)); exact BK207.out) hb)
            have n7_ := Aside0.mk (blk_below (g := gb214) (o := .cells #[.int .i64 t208, .slice Ao37 t209.length co37, .int .i64 t212] 30 (0, 0)) (by (with_reducible repeat (first | refine blk_drewN ?_ _ | refine blk_drew ?_ | refine blk_alloc ?_ _)); exact BK214.out) hb)
            have n8_ := Aside0.mk (below_step (by repeat (first | (with_reducible first | exact HB.out | apply below_alloc | apply pw_below_drewN | apply below_drew1 | refine below_set ?_ GE188.out | refine below_set ?_ GE201.out | refine below_set ?_ GE207.out | refine below_set ?_ GE214.out) | exact HB.out)) hb)
            clear HO_202001
            clear HO_208001
            clear HO_215001
            clear BK188
            clear BK201
            clear BK207
            clear BK214
            clear HB
            have HO_202001 := n0_
            have HO_208001 := n1_
            have HO_215001 := n2_
            have HO219 := n3_
            have BK188 := n4_
            have BK201 := n5_
            have BK207 := n6_
            have BK214 := n7_
            have HB := n8_
            clear n0_ n1_ n2_ n3_ n4_ n5_ n6_ n7_ n8_
            (try clear hb)
            (try clear hb2)
            (try clear hk)
            (try clear hi)
            (try clear ho0)
            obtain ⟨Ao64, co64, eo64⟩ := Kd.R_slice HO219.out
            (first | subst eo64 | (injection eo64 with f1_ f2_ f3_; have f4_ := f1_.symm; have f5_ := f3_.symm; clear f1_ f2_ f3_; subst f4_; subst f5_))
            refine hK.out _ _ ⟨(blk_cell BK207.out 0).trans rfl, (blk_cell BK207.out 1).trans rfl, (blk_cell BK207.out 2).trans rfl, (blk_cell BK188.out 0).trans rfl, (blk_cell BK188.out 1).trans rfl, (blk_cell BK188.out 2).trans rfl⟩ (fun hHeld => ?_)
            clear hK K
            refine norm_ (a' := ?_) ?_ ?_
            rotate_left
            · show Act.put _ (some 47) _ = _
              simp only [Act.put, List.setIfInBounds_toArray, List.set_cons_zero, List.set_cons_succ, i64_w, i32_w]
              rfl
            refine one_ (i := 3) (N := some 48) #[true, true, true, true, false] rfl rfl (by kernel_rfl) (by decide) (fun K hK => ?_)
            refine goes_ Try.func20 (by kernel_rfl) rfl #[.agg #[.int .i64 t202, .slice Ao30 t203.length co30, .int .i64 t206], .agg #[.int .i64 t216, .slice Ao64 t217.length co64, .int .i64 t220]] (by rfl) rfl rfl (by (try simp only [List.map_toArray, List.map_cons, List.map_nil]); first | done | rfl | (simp only [List.length_drop, List.length_take]; rfl)) ?_
            with_reducible refine (laws_eqBreaker.calls kj11 t202 _ _ t203 t206 t216 _ _ t217 t220 true _ ?side1 ?side2 ?side3 ?side4 A58.out).mono ?_
            (case side1 => repeat (first | exact (Kd.R_reads' HO_208001.out).2.2 | (with_reducible refine Kd.C_alloc ?_ _) | (with_reducible refine Kd.C_drewN ?_ _) | (with_reducible refine Kd.C_drew ?_)))
            (case side2 => exact (Kd.R_reads' HO_208001.out).2.1)
            (case side3 => repeat (first | exact (Kd.R_reads' HO219.out).2.2 | (with_reducible refine Kd.C_alloc ?_ _) | (with_reducible refine Kd.C_drewN ?_ _) | (with_reducible refine Kd.C_drew ?_)))
            (case side4 => exact (Kd.R_reads' HO219.out).2.1)
            rintro e w65 ⟨rfl, hb⟩
            refine ⟨_, rfl, ?_⟩
            have n0_ := Aside0.mk (Kd.R_below (by (with_reducible repeat (first | apply Kd.R_alloc | apply Kd.R_drewN | apply Kd.R_drew)); exact HO_202001.out) hb)
            have n1_ := Aside0.mk (Kd.R_below (by (with_reducible repeat (first | apply Kd.R_alloc | apply Kd.R_drewN | apply Kd.R_drew)); exact HO_208001.out) hb)
            have n2_ := Aside0.mk (Kd.R_below (by (with_reducible repeat (first | apply Kd.R_alloc | apply Kd.R_drewN | apply Kd.R_drew)); exact HO_215001.out) hb)
            have n3_ := Aside0.mk (Kd.R_below (by (with_reducible repeat (first | apply Kd.R_alloc | apply Kd.R_drewN | apply Kd.R_drew)); exact HO219.out) hb)
            have n4_ := Aside0.mk (blk_below (g := gb188) (o := .cells #[.int .i64 a0_0, .slice A0_1 l0_1.length c0_1, .int .i64 a0_2] 27 (0, 0)) (by (with_reducible repeat (first | refine blk_drewN ?_ _ | refine blk_drew ?_ | refine blk_alloc ?_ _)); exact BK188.out) hb)
            have n5_ := Aside0.mk (blk_below (g := gb201) (o := .cells #[.int .i64 t195, .slice Ao23 t196.length co23, .int .i64 t199] 30 (0, 0)) (by (with_reducible repeat (first | refine blk_drewN ?_ _ | refine blk_drew ?_ | refine blk_alloc ?_ _)); exact BK201.out) hb)
            have n6_ := Aside0.mk (blk_below (g := gb207) (o := .cells #[.int .i64 t202, .slice Ao30 t203.length co30, .int .i64 t206] 30 (0, 0)) (by (with_reducible repeat (first | refine blk_drewN ?_ _ | refine blk_drew ?_ | refine blk_alloc ?_ _)); exact BK207.out) hb)
            have n7_ := Aside0.mk (blk_below (g := gb214) (o := .cells #[.int .i64 t208, .slice Ao37 t209.length co37, .int .i64 t212] 30 (0, 0)) (by (with_reducible repeat (first | refine blk_drewN ?_ _ | refine blk_drew ?_ | refine blk_alloc ?_ _)); exact BK214.out) hb)
            have n8_ := Aside0.mk (below_step (by repeat (first | (with_reducible first | exact HB.out | apply below_alloc | apply pw_below_drewN | apply below_drew1 | refine below_set ?_ GE188.out | refine below_set ?_ GE201.out | refine below_set ?_ GE207.out | refine below_set ?_ GE214.out) | exact HB.out)) hb)
            clear HO_202001
            clear HO_208001
            clear HO_215001
            clear HO219
            clear BK188
            clear BK201
            clear BK207
            clear BK214
            clear HB
            have HO_202001 := n0_
            have HO_208001 := n1_
            have HO_215001 := n2_
            have HO219 := n3_
            have BK188 := n4_
            have BK201 := n5_
            have BK207 := n6_
            have BK214 := n7_
            have HB := n8_
            clear n0_ n1_ n2_ n3_ n4_ n5_ n6_ n7_ n8_
            (try clear hb)
            (try clear hb2)
            (try clear hk)
            (try clear hi)
            refine hK.out _ _ ⟨(blk_cell BK207.out 0).trans rfl, (blk_cell BK207.out 1).trans rfl, (blk_cell BK207.out 2).trans rfl, (blk_cell BK188.out 0).trans rfl, (blk_cell BK188.out 1).trans rfl, (blk_cell BK188.out 2).trans rfl⟩ (fun hHeld => ?_)
            clear hK K
            refine norm_ (a' := ?_) ?_ ?_
            rotate_left
            · show Act.put _ (some 48) _ = _
              simp only [Act.put, List.setIfInBounds_toArray, List.set_cons_zero, List.set_cons_succ, i64_w, i32_w]
              rfl
            refine pure_ (i := 4) (N := some 49) (v := ?_) (a' := ?_) #[true, true, true, true, true] rfl rfl (by kernel_rfl) (fun _ _ _ h => h) (Or.inl ⟨by rfl, ?_⟩) ?_ ?_
            rotate_left
            · intro w'
              go_simp
              with_reducible rfl
            rotate_left
            · simp only [Act.put, List.setIfInBounds_toArray, List.set_cons_zero, List.set_cons_succ, i64_w, i32_w]
              rfl
            refine done_ (by kernel_rfl) ?_
            have hnb66 := NB207_188.out
            have hnc66 := NB188_207.out
            have hnb67 := NB207_201.out
            have hnc67 := NB201_207.out
            have hnb68 := NB207_214.out
            have hnc68 := NB214_207.out
            have hcz69_0 : w65.cell? ⟨gb207, 0, none⟩ = some (.int .i64 t202) := (blk_cell BK207.out 0).trans rfl
            have hcz69_1 : w65.cell? ⟨gb207, 1, none⟩ = some (.slice Ao30 t203.length co30) := (blk_cell BK207.out 1).trans rfl
            have hcz69_2 : w65.cell? ⟨gb207, 2, none⟩ = some (.int .i64 t206) := (blk_cell BK207.out 2).trans rfl
            have hfz69_0 := blk_frozen BK207.out 0
            have hfz69_1 := blk_frozen BK207.out 1
            have hfz69_2 := blk_frozen BK207.out 2
            go_upto_region 14 with (first | ((with_reducible refine gate_callee (f := 33) rfl ?_); refine goesL_ (some 52) rfl rfl Try.func33 (by kernel_rfl) rfl #[.agg #[.int .i64 t202, .slice Ao30 t203.length co30, .int .i64 t206], .int .i64 1] rfl (by (try simp only [List.map_toArray, List.map_cons, List.map_nil]); first | done | rfl | (simp only [List.length_drop, List.length_take]; rfl)) ?_; (with_reducible refine (laws_markBreaker.calls kj11 t202 (fun k_ => some k_ = (.slice Ao30 t203.length co30 : Value).ownBlock) (.slice Ao30 t203.length co30) t203 t206 1 t222 t223 w _ ?side1 ?side2 A60.out).mono ?_); (case side1 => repeat (first | (with_reducible first | exact HB.out | apply below_alloc | apply pw_below_drewN | apply below_drew1 | refine below_set ?_ GE188.out | refine below_set ?_ GE201.out | refine below_set ?_ GE207.out | refine below_set ?_ GE214.out) | exact HB.out)); (case side2 => exact Kd.R_tight rfl HO_208001.out); rintro e w70 ⟨rfl, hy0, hb, hkp⟩; refine ⟨_, rfl, ?_⟩; have n0_ := Aside0.mk (Kd.R_mono (ok' := fun k_ => some k_ ≠ (.slice Ao30 t203.length co30 : Value).ownBlock ∧ some k_ ≠ (.slice Ao37 t209.length co37 : Value).ownBlock ∧ some k_ ≠ (.slice Ao64 t217.length co64 : Value).ownBlock) (Kd.R_keptB (HO_202001.out) hkp (fun k_ hk_ hs_ => (hk_.1.1) hs_)) (fun k_ hk_ => ⟨hk_.1.1.1, hk_.1.1.2, hk_.1.2⟩)); have n1_ := Aside0.mk (Kd.R_reok rfl hy0 (fun k_ e_ => HO_208001.out.1 k_ e_)); have n2_ := Aside0.mk (Kd.R_mono (ok' := fun k_ => some k_ ≠ (.slice Ao23 t196.length co23 : Value).ownBlock ∧ some k_ ≠ (.slice Ao30 t203.length co30 : Value).ownBlock ∧ some k_ ≠ (.slice Ao64 t217.length co64 : Value).ownBlock) (Kd.R_keptB (HO_215001.out) hkp (fun k_ hk_ hs_ => (hk_.1.2) hs_)) (fun k_ hk_ => ⟨hk_.1.1.1, hk_.1.1.2, hk_.1.2⟩)); have n3_ := Aside0.mk (blk_kept (by (with_reducible repeat (first | refine blk_drewN ?_ _ | refine blk_drew ?_ | refine blk_alloc ?_ _)); exact BK188.out) hkp (fun hs_ => (fun e_ => (Kd.R_ne HO_208001.out BK188.out (by decide)) e_) hs_)); have n4_ := Aside0.mk (blk_kept (by (with_reducible repeat (first | refine blk_drewN ?_ _ | refine blk_drew ?_ | refine blk_alloc ?_ _)); exact BK201.out) hkp (fun hs_ => (fun e_ => (Kd.R_ne HO_208001.out BK201.out (by decide)) e_) hs_)); have n5_ := Aside0.mk (blk_kept (by (with_reducible repeat (first | refine blk_drewN ?_ _ | refine blk_drew ?_ | refine blk_alloc ?_ _)); exact BK207.out) hkp (fun hs_ => (fun e_ => (Kd.R_ne HO_208001.out BK207.out (by decide)) e_) hs_)); have n6_ := Aside0.mk (blk_kept (by (with_reducible repeat (first | refine blk_drewN ?_ _ | refine blk_drew ?_ | refine blk_alloc ?_ _)); exact BK214.out) hkp (fun hs_ => (fun e_ => (Kd.R_ne HO_208001.out BK214.out (by decide)) e_) hs_)); have n7_ := Aside0.mk (Kd.R_mono (ok' := fun k_ => some k_ ≠ (.slice Ao23 t196.length co23 : Value).ownBlock ∧ some k_ ≠ (.slice Ao30 t203.length co30 : Value).ownBlock ∧ some k_ ≠ (.slice Ao37 t209.length co37 : Value).ownBlock) (Kd.R_keptB (HO219.out) hkp (fun k_ hk_ hs_ => (hk_.1.2) hs_)) (fun k_ hk_ => ⟨hk_.1.1.1.2, hk_.1.1.2, hk_.1.2⟩)); have n8_ := Aside0.mk (hb); clear HO_202001; clear HO_208001; clear HO_215001; clear BK188; clear BK201; clear BK207; clear BK214; clear HO219; clear HB; have HO_202001 := n0_; have HO_208001 := n1_; have HO_215001 := n2_; have BK188 := n3_; have BK201 := n4_; have BK207 := n5_; have BK214 := n6_; have HO219 := n7_; have HB := n8_; clear n0_ n1_ n2_ n3_ n4_ n5_ n6_ n7_ n8_; (try clear hb); (try clear hkp); (try clear hy0)))
            (try simp only [Act.put, List.setIfInBounds_toArray, List.set_cons_zero, List.set_cons_succ])
            go_cut [65] (fun v65 wc => ∃ (kq : Nat) (x65_60 : Bool), v65 = .bool x65_60 ∧ Aside0 (laws_FnExactOnDial.j1 kq a1 t200 x65_60 a0_0 l0_1 a0_2 t195 t196 t199 t208 t209 t212 = some r) ∧ Aside0 (kq ≤ kj11) ∧ Aside0 (Kd.R (Kd.int .i64) 3 wc w.heap.size (fun k_ => some k_ ≠ ((.slice Ao30 t203.length co30) : Value).ownBlock ∧ some k_ ≠ ((.slice Ao37 t209.length co37) : Value).ownBlock) (.slice Ao23 t196.length co23) t196) ∧ Aside0 (Kd.R (Kd.int .i64) 3 wc w.heap.size (fun k_ => some k_ ≠ ((.slice Ao23 t196.length co23) : Value).ownBlock ∧ some k_ ≠ ((.slice Ao37 t209.length co37) : Value).ownBlock) (.slice Ao30 t203.length co30) t223) ∧ Aside0 (Kd.R (Kd.int .i64) 3 wc w.heap.size (fun k_ => some k_ ≠ ((.slice Ao23 t196.length co23) : Value).ownBlock ∧ some k_ ≠ ((.slice Ao30 t203.length co30) : Value).ownBlock) (.slice Ao37 t209.length co37) t209) ∧ Aside0 (wc.heap[gb188]? = some (.cells #[.int .i64 a0_0, (.slice A0_1 l0_1.length c0_1), .int .i64 a0_2] 27 (0, 0))) ∧ Aside0 (wc.heap[gb201]? = some (.cells #[.int .i64 t195, (.slice Ao23 t196.length co23), .int .i64 t199] 30 (0, 0))) ∧ Aside0 (wc.heap[gb207]? = some (.cells #[.int .i64 t202, (.slice Ao30 t203.length co30), .int .i64 t206] 30 (0, 0))) ∧ Aside0 (wc.heap[gb214]? = some (.cells #[.int .i64 t208, (.slice Ao37 t209.length co37), .int .i64 t212] 30 (0, 0))) ∧ Aside0 (Below w.heap.size w wc))
            case first =>
              have H := HC61.out
              clear HC61
              by_cases c71 : t222 < 0
              · rw [if_pos c71] at H
                have c71b0 : decide (t222 < 0) = true := decide_eq_true c71
                clear c71
                (first | rw [c71b0] | (simp only [i64_w, i32_w]; rw [c71b0]) | skip)
                have H' := Aside0.mk H
                clear H
                go_wp2
                go_meet
                case rel => exact ⟨_, (true), (by first | rfl | (simp; done) | (simp [*]; done)), H', ⟨by have := HJ11.out; first | omega | exact Nat.le_refl _⟩, ⟨by (with_reducible repeat (first | apply Kd.R_alloc | apply Kd.R_drewN | apply Kd.R_drew)); exact Kd.R_mono HO_202001.out (fun _ hk => ⟨hk.1, hk.2.1⟩)⟩, ⟨by (with_reducible repeat (first | apply Kd.R_alloc | apply Kd.R_drewN | apply Kd.R_drew)); exact Kd.R_mono HO_208001.out (fun _ hk => ⟨hk.1.1, hk.1.2⟩)⟩, ⟨by (with_reducible repeat (first | apply Kd.R_alloc | apply Kd.R_drewN | apply Kd.R_drew)); exact Kd.R_mono HO_215001.out (fun _ hk => ⟨hk.1, hk.2.1⟩)⟩, ⟨by (with_reducible repeat (first | refine blk_drewN ?_ _ | refine blk_drew ?_ | refine blk_alloc ?_ _)); exact BK188.out⟩, ⟨by (with_reducible repeat (first | refine blk_drewN ?_ _ | refine blk_drew ?_ | refine blk_alloc ?_ _)); exact BK201.out⟩, ⟨by (with_reducible repeat (first | refine blk_drewN ?_ _ | refine blk_drew ?_ | refine blk_alloc ?_ _)); exact BK207.out⟩, ⟨by (with_reducible repeat (first | refine blk_drewN ?_ _ | refine blk_drew ?_ | refine blk_alloc ?_ _)); exact BK214.out⟩, ⟨by repeat (first | (with_reducible first | exact HB.out | apply below_alloc | apply pw_below_drewN | apply below_drew1 | refine below_set ?_ GE188.out | refine below_set ?_ GE201.out | refine below_set ?_ GE207.out | refine below_set ?_ GE214.out) | exact HB.out)⟩⟩
              · rw [if_neg c71] at H
                have c71b0 : decide (t222 < 0) = false := decide_eq_false c71
                clear c71
                (first | rw [c71b0] | (simp only [i64_w, i32_w]; rw [c71b0]) | skip)
                replace H := Option.bind_eq_some_iff.mp H
                obtain ⟨t224, A720, H⟩ := H
                replace H : (if t224 = true then (laws_FnExactOnDial.j1 kj11 a1 t200 (t213 != t200) a0_0 l0_1 a0_2 t195 t196 t199 t208 t209 t212) else (laws_FnExactOnDial.j1 kj11 a1 t200 true a0_0 l0_1 a0_2 t195 t196 t199 t208 t209 t212)) = some r := H
                have A72 := Aside0.mk A720
                clear A720
                by_cases c73 : t224 = true
                · subst c73
                  have H1 : (laws_FnExactOnDial.j1 kj11 a1 t200 (t213 != t200) a0_0 l0_1 a0_2 t195 t196 t199 t208 t209 t212) = some r := by rw [if_pos rfl] at H; exact H
                  clear H
                  have H := H1
                  clear H1
                  have H' := Aside0.mk H
                  clear H
                  have hnb74 := NB214_188.out
                  have hnc74 := NB188_214.out
                  have hnb75 := NB214_201.out
                  have hnc75 := NB201_214.out
                  have hnb76 := NB214_207.out
                  have hnc76 := NB207_214.out
                  have hcz77_0 : w70.cell? ⟨gb214, 0, none⟩ = some (.int .i64 t208) := (blk_cell BK214.out 0).trans rfl
                  have hcz77_1 : w70.cell? ⟨gb214, 1, none⟩ = some (.slice Ao37 t209.length co37) := (blk_cell BK214.out 1).trans rfl
                  have hcz77_2 : w70.cell? ⟨gb214, 2, none⟩ = some (.int .i64 t212) := (blk_cell BK214.out 2).trans rfl
                  have hfz77_0 := blk_frozen BK214.out 0
                  have hfz77_1 := blk_frozen BK214.out 1
                  have hfz77_2 := blk_frozen BK214.out 2
                  have hnb78 := NB201_188.out
                  have hnc78 := NB188_201.out
                  have hnb79 := NB201_207.out
                  have hnc79 := NB207_201.out
                  have hcz80_0 : w70.cell? ⟨gb201, 0, none⟩ = some (.int .i64 t195) := (blk_cell BK201.out 0).trans rfl
                  have hcz80_1 : w70.cell? ⟨gb201, 1, none⟩ = some (.slice Ao23 t196.length co23) := (blk_cell BK201.out 1).trans rfl
                  have hcz80_2 : w70.cell? ⟨gb201, 2, none⟩ = some (.int .i64 t199) := (blk_cell BK201.out 2).trans rfl
                  have hfz80_0 := blk_frozen BK201.out 0
                  have hfz80_1 := blk_frozen BK201.out 1
                  have hfz80_2 := blk_frozen BK201.out 2
                  go_wp2_with (first | (go_at_call 20; (with_reducible refine (laws_eqBreaker.calls kj11 t208 _ _ t209 t212 t195 _ _ t196 t199 true _ ?side1 ?side2 ?side3 ?side4 A72.out).mono ?_); (case side1 => repeat (first | exact (Kd.R_reads' HO_215001.out).2.2 | (with_reducible refine Kd.C_alloc ?_ _) | (with_reducible refine Kd.C_drewN ?_ _) | (with_reducible refine Kd.C_drew ?_))); (case side2 => exact (Kd.R_reads' HO_215001.out).2.1); (case side3 => repeat (first | exact (Kd.R_reads' HO_202001.out).2.2 | (with_reducible refine Kd.C_alloc ?_ _) | (with_reducible refine Kd.C_drewN ?_ _) | (with_reducible refine Kd.C_drew ?_))); (case side4 => exact (Kd.R_reads' HO_202001.out).2.1); rintro e w81 ⟨rfl, hb⟩; have n0_ := Aside0.mk (Kd.R_below (by (with_reducible repeat (first | apply Kd.R_alloc | apply Kd.R_drewN | apply Kd.R_drew)); exact HO_202001.out) hb); have n1_ := Aside0.mk (Kd.R_below (by (with_reducible repeat (first | apply Kd.R_alloc | apply Kd.R_drewN | apply Kd.R_drew)); exact HO_208001.out) hb); have n2_ := Aside0.mk (Kd.R_below (by (with_reducible repeat (first | apply Kd.R_alloc | apply Kd.R_drewN | apply Kd.R_drew)); exact HO_215001.out) hb); have n3_ := Aside0.mk (Kd.R_below (by (with_reducible repeat (first | apply Kd.R_alloc | apply Kd.R_drewN | apply Kd.R_drew)); exact HO219.out) hb); have n4_ := Aside0.mk (blk_below (g := gb188) (o := .cells #[.int .i64 a0_0, .slice A0_1 l0_1.length c0_1, .int .i64 a0_2] 27 (0, 0)) (by (with_reducible repeat (first | refine blk_drewN ?_ _ | refine blk_drew ?_ | refine blk_alloc ?_ _)); exact BK188.out) hb); have n5_ := Aside0.mk (blk_below (g := gb201) (o := .cells #[.int .i64 t195, .slice Ao23 t196.length co23, .int .i64 t199] 30 (0, 0)) (by (with_reducible repeat (first | refine blk_drewN ?_ _ | refine blk_drew ?_ | refine blk_alloc ?_ _)); exact BK201.out) hb); have n6_ := Aside0.mk (blk_below (g := gb207) (o := .cells #[.int .i64 t202, .slice Ao30 t203.length co30, .int .i64 t206] 30 (0, 0)) (by (with_reducible repeat (first | refine blk_drewN ?_ _ | refine blk_drew ?_ | refine blk_alloc ?_ _)); exact BK207.out) hb); have n7_ := Aside0.mk (blk_below (g := gb214) (o := .cells #[.int .i64 t208, .slice Ao37 t209.length co37, .int .i64 t212] 30 (0, 0)) (by (with_reducible repeat (first | refine blk_drewN ?_ _ | refine blk_drew ?_ | refine blk_alloc ?_ _)); exact BK214.out) hb); have n8_ := Aside0.mk (below_step (by repeat (first | (with_reducible first | exact HB.out | apply below_alloc | apply pw_below_drewN | apply below_drew1 | refine below_set ?_ GE188.out | refine below_set ?_ GE201.out | refine below_set ?_ GE207.out | refine below_set ?_ GE214.out) | exact HB.out)) hb); clear HO_202001; clear HO_208001; clear HO_215001; clear HO219; clear BK188; clear BK201; clear BK207; clear BK214; clear HB; have HO_202001 := n0_; have HO_208001 := n1_; have HO_215001 := n2_; have HO219 := n3_; have BK188 := n4_; have BK201 := n5_; have BK207 := n6_; have BK214 := n7_; have HB := n8_; clear n0_ n1_ n2_ n3_ n4_ n5_ n6_ n7_ n8_; (try clear hb); (try clear hb2); (try clear hk); (try clear hi)))
                  go_meet
                  case rel => exact ⟨_, ((t213 != t200)), (by first | rfl | (simp; done) | (simp [*]; done)), H', ⟨by have := HJ11.out; first | omega | exact Nat.le_refl _⟩, ⟨by (with_reducible repeat (first | apply Kd.R_alloc | apply Kd.R_drewN | apply Kd.R_drew)); exact Kd.R_mono HO_202001.out (fun _ hk => ⟨hk.1, hk.2.1⟩)⟩, ⟨by (with_reducible repeat (first | apply Kd.R_alloc | apply Kd.R_drewN | apply Kd.R_drew)); exact Kd.R_mono HO_208001.out (fun _ hk => ⟨hk.1.1, hk.1.2⟩)⟩, ⟨by (with_reducible repeat (first | apply Kd.R_alloc | apply Kd.R_drewN | apply Kd.R_drew)); exact Kd.R_mono HO_215001.out (fun _ hk => ⟨hk.1, hk.2.1⟩)⟩, ⟨by (with_reducible repeat (first | refine blk_drewN ?_ _ | refine blk_drew ?_ | refine blk_alloc ?_ _)); exact BK188.out⟩, ⟨by (with_reducible repeat (first | refine blk_drewN ?_ _ | refine blk_drew ?_ | refine blk_alloc ?_ _)); exact BK201.out⟩, ⟨by (with_reducible repeat (first | refine blk_drewN ?_ _ | refine blk_drew ?_ | refine blk_alloc ?_ _)); exact BK207.out⟩, ⟨by (with_reducible repeat (first | refine blk_drewN ?_ _ | refine blk_drew ?_ | refine blk_alloc ?_ _)); exact BK214.out⟩, ⟨by repeat (first | (with_reducible first | exact HB.out | apply below_alloc | apply pw_below_drewN | apply below_drew1 | refine below_set ?_ GE188.out | refine below_set ?_ GE201.out | refine below_set ?_ GE207.out | refine below_set ?_ GE214.out) | exact HB.out)⟩⟩
                · replace c73 := Bool.eq_false_iff.mpr c73
                  subst c73
                  have H1 : (laws_FnExactOnDial.j1 kj11 a1 t200 true a0_0 l0_1 a0_2 t195 t196 t199 t208 t209 t212) = some r := by rw [if_neg (show ¬ (false = true) by decide)] at H; exact H
                  clear H
                  have H := H1
                  clear H1
                  have H' := Aside0.mk H
                  clear H
                  have hnb82 := NB214_188.out
                  have hnc82 := NB188_214.out
                  have hnb83 := NB214_201.out
                  have hnc83 := NB201_214.out
                  have hnb84 := NB214_207.out
                  have hnc84 := NB207_214.out
                  have hcz85_0 : w70.cell? ⟨gb214, 0, none⟩ = some (.int .i64 t208) := (blk_cell BK214.out 0).trans rfl
                  have hcz85_1 : w70.cell? ⟨gb214, 1, none⟩ = some (.slice Ao37 t209.length co37) := (blk_cell BK214.out 1).trans rfl
                  have hcz85_2 : w70.cell? ⟨gb214, 2, none⟩ = some (.int .i64 t212) := (blk_cell BK214.out 2).trans rfl
                  have hfz85_0 := blk_frozen BK214.out 0
                  have hfz85_1 := blk_frozen BK214.out 1
                  have hfz85_2 := blk_frozen BK214.out 2
                  have hnb86 := NB201_188.out
                  have hnc86 := NB188_201.out
                  have hnb87 := NB201_207.out
                  have hnc87 := NB207_201.out
                  have hcz88_0 : w70.cell? ⟨gb201, 0, none⟩ = some (.int .i64 t195) := (blk_cell BK201.out 0).trans rfl
                  have hcz88_1 : w70.cell? ⟨gb201, 1, none⟩ = some (.slice Ao23 t196.length co23) := (blk_cell BK201.out 1).trans rfl
                  have hcz88_2 : w70.cell? ⟨gb201, 2, none⟩ = some (.int .i64 t199) := (blk_cell BK201.out 2).trans rfl
                  have hfz88_0 := blk_frozen BK201.out 0
                  have hfz88_1 := blk_frozen BK201.out 1
                  have hfz88_2 := blk_frozen BK201.out 2
                  go_wp2_with (first | (go_at_call 20; (with_reducible refine (laws_eqBreaker.calls kj11 t208 _ _ t209 t212 t195 _ _ t196 t199 false _ ?side1 ?side2 ?side3 ?side4 A72.out).mono ?_); (case side1 => repeat (first | exact (Kd.R_reads' HO_215001.out).2.2 | (with_reducible refine Kd.C_alloc ?_ _) | (with_reducible refine Kd.C_drewN ?_ _) | (with_reducible refine Kd.C_drew ?_))); (case side2 => exact (Kd.R_reads' HO_215001.out).2.1); (case side3 => repeat (first | exact (Kd.R_reads' HO_202001.out).2.2 | (with_reducible refine Kd.C_alloc ?_ _) | (with_reducible refine Kd.C_drewN ?_ _) | (with_reducible refine Kd.C_drew ?_))); (case side4 => exact (Kd.R_reads' HO_202001.out).2.1); rintro e w89 ⟨rfl, hb⟩; have n0_ := Aside0.mk (Kd.R_below (by (with_reducible repeat (first | apply Kd.R_alloc | apply Kd.R_drewN | apply Kd.R_drew)); exact HO_202001.out) hb); have n1_ := Aside0.mk (Kd.R_below (by (with_reducible repeat (first | apply Kd.R_alloc | apply Kd.R_drewN | apply Kd.R_drew)); exact HO_208001.out) hb); have n2_ := Aside0.mk (Kd.R_below (by (with_reducible repeat (first | apply Kd.R_alloc | apply Kd.R_drewN | apply Kd.R_drew)); exact HO_215001.out) hb); have n3_ := Aside0.mk (Kd.R_below (by (with_reducible repeat (first | apply Kd.R_alloc | apply Kd.R_drewN | apply Kd.R_drew)); exact HO219.out) hb); have n4_ := Aside0.mk (blk_below (g := gb188) (o := .cells #[.int .i64 a0_0, .slice A0_1 l0_1.length c0_1, .int .i64 a0_2] 27 (0, 0)) (by (with_reducible repeat (first | refine blk_drewN ?_ _ | refine blk_drew ?_ | refine blk_alloc ?_ _)); exact BK188.out) hb); have n5_ := Aside0.mk (blk_below (g := gb201) (o := .cells #[.int .i64 t195, .slice Ao23 t196.length co23, .int .i64 t199] 30 (0, 0)) (by (with_reducible repeat (first | refine blk_drewN ?_ _ | refine blk_drew ?_ | refine blk_alloc ?_ _)); exact BK201.out) hb); have n6_ := Aside0.mk (blk_below (g := gb207) (o := .cells #[.int .i64 t202, .slice Ao30 t203.length co30, .int .i64 t206] 30 (0, 0)) (by (with_reducible repeat (first | refine blk_drewN ?_ _ | refine blk_drew ?_ | refine blk_alloc ?_ _)); exact BK207.out) hb); have n7_ := Aside0.mk (blk_below (g := gb214) (o := .cells #[.int .i64 t208, .slice Ao37 t209.length co37, .int .i64 t212] 30 (0, 0)) (by (with_reducible repeat (first | refine blk_drewN ?_ _ | refine blk_drew ?_ | refine blk_alloc ?_ _)); exact BK214.out) hb); have n8_ := Aside0.mk (below_step (by repeat (first | (with_reducible first | exact HB.out | apply below_alloc | apply pw_below_drewN | apply below_drew1 | refine below_set ?_ GE188.out | refine below_set ?_ GE201.out | refine below_set ?_ GE207.out | refine below_set ?_ GE214.out) | exact HB.out)) hb); clear HO_202001; clear HO_208001; clear HO_215001; clear HO219; clear BK188; clear BK201; clear BK207; clear BK214; clear HB; have HO_202001 := n0_; have HO_208001 := n1_; have HO_215001 := n2_; have HO219 := n3_; have BK188 := n4_; have BK201 := n5_; have BK207 := n6_; have BK214 := n7_; have HB := n8_; clear n0_ n1_ n2_ n3_ n4_ n5_ n6_ n7_ n8_; (try clear hb); (try clear hb2); (try clear hk); (try clear hi)))
                  go_meet
                  case rel => exact ⟨_, (true), (by first | rfl | (simp; done) | (simp [*]; done)), H', ⟨by have := HJ11.out; first | omega | exact Nat.le_refl _⟩, ⟨by (with_reducible repeat (first | apply Kd.R_alloc | apply Kd.R_drewN | apply Kd.R_drew)); exact Kd.R_mono HO_202001.out (fun _ hk => ⟨hk.1, hk.2.1⟩)⟩, ⟨by (with_reducible repeat (first | apply Kd.R_alloc | apply Kd.R_drewN | apply Kd.R_drew)); exact Kd.R_mono HO_208001.out (fun _ hk => ⟨hk.1.1, hk.1.2⟩)⟩, ⟨by (with_reducible repeat (first | apply Kd.R_alloc | apply Kd.R_drewN | apply Kd.R_drew)); exact Kd.R_mono HO_215001.out (fun _ hk => ⟨hk.1, hk.2.1⟩)⟩, ⟨by (with_reducible repeat (first | refine blk_drewN ?_ _ | refine blk_drew ?_ | refine blk_alloc ?_ _)); exact BK188.out⟩, ⟨by (with_reducible repeat (first | refine blk_drewN ?_ _ | refine blk_drew ?_ | refine blk_alloc ?_ _)); exact BK201.out⟩, ⟨by (with_reducible repeat (first | refine blk_drewN ?_ _ | refine blk_drew ?_ | refine blk_alloc ?_ _)); exact BK207.out⟩, ⟨by (with_reducible repeat (first | refine blk_drewN ?_ _ | refine blk_drew ?_ | refine blk_alloc ?_ _)); exact BK214.out⟩, ⟨by repeat (first | (with_reducible first | exact HB.out | apply below_alloc | apply pw_below_drewN | apply below_drew1 | refine below_set ?_ GE188.out | refine below_set ?_ GE201.out | refine below_set ?_ GE207.out | refine below_set ?_ GE214.out) | exact HB.out)⟩⟩
            case rest =>
              clear HC61
              try clear c1
              try clear c2
              try clear p2
              try clear c3
              try clear c4
              try clear c4b0
              try clear c5
              try clear c6
              try clear c7
              try clear c8
              try clear c10
              try clear c16
              try clear c18
              try clear c20
              try clear c21
              try clear c27
              try clear c28
              try clear c33
              try clear c34
              try clear c35
              try clear c37
              try clear c38
              try clear c39
              try clear c40
              try clear c41
              try clear c42
              try clear c44
              try clear c45
              try clear c48
              try clear c49
              try clear c50
              try clear c52
              try clear c53
              try clear c56
              try clear c59
              try clear c66
              try clear c67
              try clear c68
              try clear c71
              try clear c71b0
              try clear c73
              try clear c74
              try clear c75
              try clear c76
              try clear c78
              try clear c79
              try clear c82
              try clear c83
              try clear c84
              try clear c86
              try clear c87
              try clear hcz14_0
              try clear hcz14_1
              try clear hcz14_2
              try clear hcz16_0
              try clear hcz16_1
              try clear hcz16_2
              try clear hcz22_0
              try clear hcz22_1
              try clear hcz22_2
              try clear hcz24_0
              try clear hcz24_1
              try clear hcz24_2
              try clear hcz29_0
              try clear hcz29_1
              try clear hcz29_2
              try clear hcz36_0
              try clear hcz36_1
              try clear hcz36_2
              try clear hcz43_0
              try clear hcz43_1
              try clear hcz43_2
              try clear hcz46_0
              try clear hcz46_1
              try clear hcz46_2
              try clear hcz51_0
              try clear hcz51_1
              try clear hcz51_2
              try clear hcz54_0
              try clear hcz54_1
              try clear hcz54_2
              try clear hcz69_0
              try clear hcz69_1
              try clear hcz69_2
              try clear hcz6_0
              try clear hcz6_1
              try clear hcz6_2
              try clear hcz77_0
              try clear hcz77_1
              try clear hcz77_2
              try clear hcz80_0
              try clear hcz80_1
              try clear hcz80_2
              try clear hcz85_0
              try clear hcz85_1
              try clear hcz85_2
              try clear hcz88_0
              try clear hcz88_1
              try clear hcz88_2
              try clear hfz14_0
              try clear hfz14_1
              try clear hfz14_2
              try clear hfz16_0
              try clear hfz16_1
              try clear hfz16_2
              try clear hfz22_0
              try clear hfz22_1
              try clear hfz22_2
              try clear hfz24_0
              try clear hfz24_1
              try clear hfz24_2
              try clear hfz29_0
              try clear hfz29_1
              try clear hfz29_2
              try clear hfz36_0
              try clear hfz36_1
              try clear hfz36_2
              try clear hfz43_0
              try clear hfz43_1
              try clear hfz43_2
              try clear hfz46_0
              try clear hfz46_1
              try clear hfz46_2
              try clear hfz51_0
              try clear hfz51_1
              try clear hfz51_2
              try clear hfz54_0
              try clear hfz54_1
              try clear hfz54_2
              try clear hfz69_0
              try clear hfz69_1
              try clear hfz69_2
              try clear hfz6_0
              try clear hfz6_1
              try clear hfz6_2
              try clear hfz77_0
              try clear hfz77_1
              try clear hfz77_2
              try clear hfz80_0
              try clear hfz80_1
              try clear hfz80_2
              try clear hfz85_0
              try clear hfz85_1
              try clear hfz85_2
              try clear hfz88_0
              try clear hfz88_1
              try clear hfz88_2
              try clear p2
              obtain ⟨kq, x65_60, rfl, HA, HJ60, HO_202001, HO_208001, HO_215001, BK188, BK201, BK207, BK214, HB⟩ := hcut
              have hl208001_60 := (Kd.R_reads' HO_208001.out).1
              rw [hl208001_60] at HO_208001
              (try simp only [hl208001_60])
              (try simp only [hl208001_60] at BK188)
              (try simp only [hl208001_60] at BK201)
              (try simp only [hl208001_60] at BK207)
              (try simp only [hl208001_60] at BK214)
              (try simp only [hl208001_60] at HO_202001)
              (try simp only [hl208001_60] at HO_215001)
              cases kq with
              | zero => exact absurd HA.out (by simp [laws_FnExactOnDial.j1])
              | succ kj60 =>
                have H := HA.out
                clear HA
                simp only [laws_FnExactOnDial.j1] at H
                by_cases c90 : x65_60 = true
                · subst c90
                  have H1 : (some false) = some r := by rw [if_pos rfl] at H; exact H
                  clear H
                  have H := H1
                  clear H1
                  obtain rfl := Option.some.inj H
                  go_wp2
                  go_ret
                  exact ⟨by first | rfl | (simp [errW_none, errW_some] <;> rfl) | (simp [*, errW_none, errW_some] <;> rfl), by repeat (first | (with_reducible first | exact HB.out | apply below_alloc | apply pw_below_drewN | apply below_drew1 | refine below_set ?_ GE188.out | refine below_set ?_ GE201.out | refine below_set ?_ GE207.out | refine below_set ?_ GE214.out) | exact HB.out)⟩
                · replace c90 := Bool.eq_false_iff.mpr c90
                  subst c90
                  have H1 : ((laws_markBreaker.f kj60 t208 t209 t212 1).bind fun bt225 => ((laws_heldBreaker.f kj60 t208 bt225.2 t212 1).bind fun t227 => (if t227 < 0 then (some false) else (if t227 = bt225.1 then ((laws_toBreaker.f kj60 a0_0 l0_1 a0_2).bind fun bt228 => ((impl_OnDial.f kj60 bt228.1 bt228.2.1 bt228.2.2 a1).bind fun bt233 => ((laws_eqBreaker.f kj60 bt233.1 bt233.2.1 bt233.2.2.1 t195 t196 t199).bind fun t240 => (if t240 = true then (laws_FnExactOnDial.j2 kj60 bt225.1 (bt233.2.2.2 != t200) t208 bt225.2 t212) else (laws_FnExactOnDial.j2 kj60 bt225.1 true t208 bt225.2 t212))))) else (some false))))) = some r := by rw [if_neg (show ¬ (false = true) by decide)] at H; exact H
                  clear H
                  have H := H1
                  clear H1
                  replace H := Option.bind_eq_some_iff.mp H
                  obtain ⟨⟨t225, t226⟩, A910, H⟩ := H
                  replace H : ((laws_heldBreaker.f kj60 t208 t226 t212 1).bind fun t227 => (if t227 < 0 then (some false) else (if t227 = t225 then ((laws_toBreaker.f kj60 a0_0 l0_1 a0_2).bind fun bt228 => ((impl_OnDial.f kj60 bt228.1 bt228.2.1 bt228.2.2 a1).bind fun bt233 => ((laws_eqBreaker.f kj60 bt233.1 bt233.2.1 bt233.2.2.1 t195 t196 t199).bind fun t240 => (if t240 = true then (laws_FnExactOnDial.j2 kj60 t225 (bt233.2.2.2 != t200) t208 t226 t212) else (laws_FnExactOnDial.j2 kj60 t225 true t208 t226 t212))))) else (some false)))) = some r := H
                  have A91 := Aside0.mk A910
                  clear A910
                  replace H := Option.bind_eq_some_iff.mp H
                  obtain ⟨t227, A920, H⟩ := H
                  replace H : (if t227 < 0 then (some false) else (if t227 = t225 then ((laws_toBreaker.f kj60 a0_0 l0_1 a0_2).bind fun bt228 => ((impl_OnDial.f kj60 bt228.1 bt228.2.1 bt228.2.2 a1).bind fun bt233 => ((laws_eqBreaker.f kj60 bt233.1 bt233.2.1 bt233.2.2.1 t195 t196 t199).bind fun t240 => (if t240 = true then (laws_FnExactOnDial.j2 kj60 t225 (bt233.2.2.2 != t200) t208 t226 t212) else (laws_FnExactOnDial.j2 kj60 t225 true t208 t226 t212))))) else (some false))) = some r := H
                  have A92 := Aside0.mk A920
                  clear A920
                  by_cases c93 : t227 < 0
                  · rw [if_pos c93] at H
                    have c93b0 : decide (t227 < 0) = true := decide_eq_true c93
                    clear c93
                    obtain rfl := Option.some.inj H
                    have hnb94 := NB214_188.out
                    have hnc94 := NB188_214.out
                    have hnb95 := NB214_201.out
                    have hnc95 := NB201_214.out
                    have hnb96 := NB214_207.out
                    have hnc96 := NB207_214.out
                    have hcz97_0 : wc.cell? ⟨gb214, 0, none⟩ = some (.int .i64 t208) := (blk_cell BK214.out 0).trans rfl
                    have hcz97_1 : wc.cell? ⟨gb214, 1, none⟩ = some (.slice Ao37 t209.length co37) := (blk_cell BK214.out 1).trans rfl
                    have hcz97_2 : wc.cell? ⟨gb214, 2, none⟩ = some (.int .i64 t212) := (blk_cell BK214.out 2).trans rfl
                    have hfz97_0 := blk_frozen BK214.out 0
                    have hfz97_1 := blk_frozen BK214.out 1
                    have hfz97_2 := blk_frozen BK214.out 2
                    go_wp2_with (first | ((with_reducible refine gate_callee (f := 33) rfl ?_); refine goesL_ (some 68) rfl rfl Try.func33 (by kernel_rfl) rfl #[.agg #[.int .i64 t208, .slice Ao37 t209.length co37, .int .i64 t212], .int .i64 1] rfl (by (try simp only [List.map_toArray, List.map_cons, List.map_nil]); first | done | rfl | (simp only [List.length_drop, List.length_take]; rfl)) ?_; (with_reducible refine (laws_markBreaker.calls kj60 t208 (fun k_ => some k_ = (.slice Ao37 t209.length co37 : Value).ownBlock) (.slice Ao37 t209.length co37) t209 t212 1 t225 t226 w _ ?side1 ?side2 A91.out).mono ?_); (case side1 => repeat (first | (with_reducible first | exact HB.out | apply below_alloc | apply pw_below_drewN | apply below_drew1 | refine below_set ?_ GE188.out | refine below_set ?_ GE201.out | refine below_set ?_ GE207.out | refine below_set ?_ GE214.out) | exact HB.out)); (case side2 => exact Kd.R_tight rfl HO_215001.out); rintro e w98 ⟨rfl, hy0, hb, hkp⟩; refine ⟨_, rfl, ?_⟩; have n0_ := Aside0.mk (Kd.R_mono (ok' := fun k_ => some k_ ≠ (.slice Ao30 t223.length co30 : Value).ownBlock ∧ some k_ ≠ (.slice Ao37 t209.length co37 : Value).ownBlock) (Kd.R_keptB (HO_202001.out) hkp (fun k_ hk_ hs_ => (hk_.2) hs_)) (fun k_ hk_ => ⟨hk_.1.1, hk_.1.2⟩)); have n1_ := Aside0.mk (Kd.R_mono (ok' := fun k_ => some k_ ≠ (.slice Ao23 t196.length co23 : Value).ownBlock ∧ some k_ ≠ (.slice Ao37 t209.length co37 : Value).ownBlock) (Kd.R_keptB (HO_208001.out) hkp (fun k_ hk_ hs_ => (hk_.2) hs_)) (fun k_ hk_ => ⟨hk_.1.1, hk_.1.2⟩)); have n2_ := Aside0.mk (Kd.R_reok rfl hy0 (fun k_ e_ => HO_215001.out.1 k_ e_)); have n3_ := Aside0.mk (blk_kept (by (with_reducible repeat (first | refine blk_drewN ?_ _ | refine blk_drew ?_ | refine blk_alloc ?_ _)); exact BK188.out) hkp (fun hs_ => (fun e_ => (Kd.R_ne HO_215001.out BK188.out (by decide)) e_) hs_)); have n4_ := Aside0.mk (blk_kept (by (with_reducible repeat (first | refine blk_drewN ?_ _ | refine blk_drew ?_ | refine blk_alloc ?_ _)); exact BK201.out) hkp (fun hs_ => (fun e_ => (Kd.R_ne HO_215001.out BK201.out (by decide)) e_) hs_)); have n5_ := Aside0.mk (blk_kept (by (with_reducible repeat (first | refine blk_drewN ?_ _ | refine blk_drew ?_ | refine blk_alloc ?_ _)); exact BK207.out) hkp (fun hs_ => (fun e_ => (Kd.R_ne HO_215001.out BK207.out (by decide)) e_) hs_)); have n6_ := Aside0.mk (blk_kept (by (with_reducible repeat (first | refine blk_drewN ?_ _ | refine blk_drew ?_ | refine blk_alloc ?_ _)); exact BK214.out) hkp (fun hs_ => (fun e_ => (Kd.R_ne HO_215001.out BK214.out (by decide)) e_) hs_)); have n7_ := Aside0.mk (hb); clear HO_202001; clear HO_208001; clear HO_215001; clear BK188; clear BK201; clear BK207; clear BK214; clear HB; have HO_202001 := n0_; have HO_208001 := n1_; have HO_215001 := n2_; have BK188 := n3_; have BK201 := n4_; have BK207 := n5_; have BK214 := n6_; have HB := n7_; clear n0_ n1_ n2_ n3_ n4_ n5_ n6_ n7_; (try clear hb); (try clear hkp); (try clear hy0); have hcz99_0 : w98.cell? ⟨gb214, 0, none⟩ = some (.int .i64 t208) := (blk_cell BK214.out 0).trans rfl; have hcz99_1 : w98.cell? ⟨gb214, 1, none⟩ = some (.slice Ao37 t209.length co37) := (blk_cell BK214.out 1).trans rfl; have hcz99_2 : w98.cell? ⟨gb214, 2, none⟩ = some (.int .i64 t212) := (blk_cell BK214.out 2).trans rfl; have hfz99_0 := blk_frozen BK214.out 0; have hfz99_1 := blk_frozen BK214.out 1; have hfz99_2 := blk_frozen BK214.out 2) | ((with_reducible refine gate_callee (f := 34) rfl ?_); refine goesL_ (some 71) rfl rfl Try.func34 (by kernel_rfl) rfl #[.agg #[.int .i64 t208, .slice Ao37 t226.length co37, .int .i64 t212], .int .i64 1] rfl (by (try simp only [List.map_toArray, List.map_cons, List.map_nil]); first | done | (rw [show t226.length = t209.length from (Kd.R_reads' HO_215001.out).1.symm] <;> rfl) | rfl | (simp only [List.length_drop, List.length_take]; rfl)) ?_; (with_reducible refine (laws_heldBreaker.calls kj60 t208 _ _ t226 t212 1 t227 _ ?side1 ?side2 A92.out).mono ?_); (case side1 => repeat (first | exact (Kd.R_reads' HO_215001.out).2.2 | (with_reducible refine Kd.C_alloc ?_ _) | (with_reducible refine Kd.C_drewN ?_ _) | (with_reducible refine Kd.C_drew ?_))); (case side2 => rw [show t226.length = t209.length from (Kd.R_reads' HO_215001.out).1.symm]; exact (Kd.R_reads' HO_215001.out).2.1); rintro e w100 ⟨rfl, hb⟩; refine ⟨_, rfl, ?_⟩; have n0_ := Aside0.mk (Kd.R_below (by (with_reducible repeat (first | apply Kd.R_alloc | apply Kd.R_drewN | apply Kd.R_drew)); exact HO_202001.out) hb); have n1_ := Aside0.mk (Kd.R_below (by (with_reducible repeat (first | apply Kd.R_alloc | apply Kd.R_drewN | apply Kd.R_drew)); exact HO_208001.out) hb); have n2_ := Aside0.mk (Kd.R_below (by (with_reducible repeat (first | apply Kd.R_alloc | apply Kd.R_drewN | apply Kd.R_drew)); exact HO_215001.out) hb); have n3_ := Aside0.mk (blk_below (g := gb188) (o := .cells #[.int .i64 a0_0, .slice A0_1 l0_1.length c0_1, .int .i64 a0_2] 27 (0, 0)) (by (with_reducible repeat (first | refine blk_drewN ?_ _ | refine blk_drew ?_ | refine blk_alloc ?_ _)); exact BK188.out) hb); have n4_ := Aside0.mk (blk_below (g := gb201) (o := .cells #[.int .i64 t195, .slice Ao23 t196.length co23, .int .i64 t199] 30 (0, 0)) (by (with_reducible repeat (first | refine blk_drewN ?_ _ | refine blk_drew ?_ | refine blk_alloc ?_ _)); exact BK201.out) hb); have n5_ := Aside0.mk (blk_below (g := gb207) (o := .cells #[.int .i64 t202, .slice Ao30 t223.length co30, .int .i64 t206] 30 (0, 0)) (by (with_reducible repeat (first | refine blk_drewN ?_ _ | refine blk_drew ?_ | refine blk_alloc ?_ _)); exact BK207.out) hb); have n6_ := Aside0.mk (blk_below (g := gb214) (o := .cells #[.int .i64 t208, .slice Ao37 t209.length co37, .int .i64 t212] 30 (0, 0)) (by (with_reducible repeat (first | refine blk_drewN ?_ _ | refine blk_drew ?_ | refine blk_alloc ?_ _)); exact BK214.out) hb); have n7_ := Aside0.mk (below_step (by repeat (first | (with_reducible first | exact HB.out | apply below_alloc | apply pw_below_drewN | apply below_drew1 | refine below_set ?_ GE188.out | refine below_set ?_ GE201.out | refine below_set ?_ GE207.out | refine below_set ?_ GE214.out) | exact HB.out)) hb); clear HO_202001; clear HO_208001; clear HO_215001; clear BK188; clear BK201; clear BK207; clear BK214; clear HB; have HO_202001 := n0_; have HO_208001 := n1_; have HO_215001 := n2_; have BK188 := n3_; have BK201 := n4_; have BK207 := n5_; have BK214 := n6_; have HB := n7_; clear n0_ n1_ n2_ n3_ n4_ n5_ n6_ n7_; (try clear hb); (try clear hb2); (try clear hk); (try clear hi)))
                    go_ret
                    exact ⟨by first | rfl | (simp [errW_none, errW_some] <;> rfl) | (simp [*, errW_none, errW_some] <;> rfl), by repeat (first | (with_reducible first | exact HB.out | apply below_alloc | apply pw_below_drewN | apply below_drew1 | refine below_set ?_ GE188.out | refine below_set ?_ GE201.out | refine below_set ?_ GE207.out | refine below_set ?_ GE214.out) | exact HB.out)⟩
                  · rw [if_neg c93] at H
                    have c93b0 : decide (t227 < 0) = false := decide_eq_false c93
                    clear c93
                    by_cases c101 : t227 = t225
                    · rw [if_pos c101] at H
                      have c101b0 : (t227 == t225) = true := beq_iff_eq.mpr c101
                      have c101b1 : (t227 != t225) = false := bne_eq_false_iff_eq.mpr c101
                      clear c101
                      replace H := Option.bind_eq_some_iff.mp H
                      obtain ⟨⟨t228, t229, t232⟩, A1020, H⟩ := H
                      replace H : ((impl_OnDial.f kj60 t228 t229 t232 a1).bind fun bt233 => ((laws_eqBreaker.f kj60 bt233.1 bt233.2.1 bt233.2.2.1 t195 t196 t199).bind fun t240 => (if t240 = true then (laws_FnExactOnDial.j2 kj60 t225 (bt233.2.2.2 != t200) t208 t226 t212) else (laws_FnExactOnDial.j2 kj60 t225 true t208 t226 t212)))) = some r := H
                      have A102 := Aside0.mk A1020
                      clear A1020
                      replace H := Option.bind_eq_some_iff.mp H
                      obtain ⟨⟨t233, t234, t237, t238⟩, A1030, H⟩ := H
                      replace H : ((laws_eqBreaker.f kj60 t233 t234 t237 t195 t196 t199).bind fun t240 => (if t240 = true then (laws_FnExactOnDial.j2 kj60 t225 (t238 != t200) t208 t226 t212) else (laws_FnExactOnDial.j2 kj60 t225 true t208 t226 t212))) = some r := H
                      have A103 := Aside0.mk A1030
                      clear A1030
                      have HC104 := Aside0.mk H
                      clear H
                      have hnb105 := NB214_188.out
                      have hnc105 := NB188_214.out
                      have hnb106 := NB214_201.out
                      have hnc106 := NB201_214.out
                      have hnb107 := NB214_207.out
                      have hnc107 := NB207_214.out
                      have hcz108_0 : wc.cell? ⟨gb214, 0, none⟩ = some (.int .i64 t208) := (blk_cell BK214.out 0).trans rfl
                      have hcz108_1 : wc.cell? ⟨gb214, 1, none⟩ = some (.slice Ao37 t209.length co37) := (blk_cell BK214.out 1).trans rfl
                      have hcz108_2 : wc.cell? ⟨gb214, 2, none⟩ = some (.int .i64 t212) := (blk_cell BK214.out 2).trans rfl
                      have hfz108_0 := blk_frozen BK214.out 0
                      have hfz108_1 := blk_frozen BK214.out 1
                      have hfz108_2 := blk_frozen BK214.out 2
                      go_upto_region 25 with (first | ((with_reducible refine gate_callee (f := 33) rfl ?_); refine goesL_ (some 68) rfl rfl Try.func33 (by kernel_rfl) rfl #[.agg #[.int .i64 t208, .slice Ao37 t209.length co37, .int .i64 t212], .int .i64 1] rfl (by (try simp only [List.map_toArray, List.map_cons, List.map_nil]); first | done | rfl | (simp only [List.length_drop, List.length_take]; rfl)) ?_; (with_reducible refine (laws_markBreaker.calls kj60 t208 (fun k_ => some k_ = (.slice Ao37 t209.length co37 : Value).ownBlock) (.slice Ao37 t209.length co37) t209 t212 1 t225 t226 w _ ?side1 ?side2 A91.out).mono ?_); (case side1 => repeat (first | (with_reducible first | exact HB.out | apply below_alloc | apply pw_below_drewN | apply below_drew1 | refine below_set ?_ GE188.out | refine below_set ?_ GE201.out | refine below_set ?_ GE207.out | refine below_set ?_ GE214.out) | exact HB.out)); (case side2 => exact Kd.R_tight rfl HO_215001.out); rintro e w109 ⟨rfl, hy0, hb, hkp⟩; refine ⟨_, rfl, ?_⟩; have n0_ := Aside0.mk (Kd.R_mono (ok' := fun k_ => some k_ ≠ (.slice Ao30 t223.length co30 : Value).ownBlock ∧ some k_ ≠ (.slice Ao37 t209.length co37 : Value).ownBlock) (Kd.R_keptB (HO_202001.out) hkp (fun k_ hk_ hs_ => (hk_.2) hs_)) (fun k_ hk_ => ⟨hk_.1.1, hk_.1.2⟩)); have n1_ := Aside0.mk (Kd.R_mono (ok' := fun k_ => some k_ ≠ (.slice Ao23 t196.length co23 : Value).ownBlock ∧ some k_ ≠ (.slice Ao37 t209.length co37 : Value).ownBlock) (Kd.R_keptB (HO_208001.out) hkp (fun k_ hk_ hs_ => (hk_.2) hs_)) (fun k_ hk_ => ⟨hk_.1.1, hk_.1.2⟩)); have n2_ := Aside0.mk (Kd.R_reok rfl hy0 (fun k_ e_ => HO_215001.out.1 k_ e_)); have n3_ := Aside0.mk (blk_kept (by (with_reducible repeat (first | refine blk_drewN ?_ _ | refine blk_drew ?_ | refine blk_alloc ?_ _)); exact BK188.out) hkp (fun hs_ => (fun e_ => (Kd.R_ne HO_215001.out BK188.out (by decide)) e_) hs_)); have n4_ := Aside0.mk (blk_kept (by (with_reducible repeat (first | refine blk_drewN ?_ _ | refine blk_drew ?_ | refine blk_alloc ?_ _)); exact BK201.out) hkp (fun hs_ => (fun e_ => (Kd.R_ne HO_215001.out BK201.out (by decide)) e_) hs_)); have n5_ := Aside0.mk (blk_kept (by (with_reducible repeat (first | refine blk_drewN ?_ _ | refine blk_drew ?_ | refine blk_alloc ?_ _)); exact BK207.out) hkp (fun hs_ => (fun e_ => (Kd.R_ne HO_215001.out BK207.out (by decide)) e_) hs_)); have n6_ := Aside0.mk (blk_kept (by (with_reducible repeat (first | refine blk_drewN ?_ _ | refine blk_drew ?_ | refine blk_alloc ?_ _)); exact BK214.out) hkp (fun hs_ => (fun e_ => (Kd.R_ne HO_215001.out BK214.out (by decide)) e_) hs_)); have n7_ := Aside0.mk (hb); clear HO_202001; clear HO_208001; clear HO_215001; clear BK188; clear BK201; clear BK207; clear BK214; clear HB; have HO_202001 := n0_; have HO_208001 := n1_; have HO_215001 := n2_; have BK188 := n3_; have BK201 := n4_; have BK207 := n5_; have BK214 := n6_; have HB := n7_; clear n0_ n1_ n2_ n3_ n4_ n5_ n6_ n7_; (try clear hb); (try clear hkp); (try clear hy0); have hcz110_0 : w109.cell? ⟨gb214, 0, none⟩ = some (.int .i64 t208) := (blk_cell BK214.out 0).trans rfl; have hcz110_1 : w109.cell? ⟨gb214, 1, none⟩ = some (.slice Ao37 t209.length co37) := (blk_cell BK214.out 1).trans rfl; have hcz110_2 : w109.cell? ⟨gb214, 2, none⟩ = some (.int .i64 t212) := (blk_cell BK214.out 2).trans rfl; have hfz110_0 := blk_frozen BK214.out 0; have hfz110_1 := blk_frozen BK214.out 1; have hfz110_2 := blk_frozen BK214.out 2) | ((with_reducible refine gate_callee (f := 34) rfl ?_); refine goesL_ (some 71) rfl rfl Try.func34 (by kernel_rfl) rfl #[.agg #[.int .i64 t208, .slice Ao37 t226.length co37, .int .i64 t212], .int .i64 1] rfl (by (try simp only [List.map_toArray, List.map_cons, List.map_nil]); first | done | (rw [show t226.length = t209.length from (Kd.R_reads' HO_215001.out).1.symm] <;> rfl) | rfl | (simp only [List.length_drop, List.length_take]; rfl)) ?_; (with_reducible refine (laws_heldBreaker.calls kj60 t208 _ _ t226 t212 1 t227 _ ?side1 ?side2 A92.out).mono ?_); (case side1 => repeat (first | exact (Kd.R_reads' HO_215001.out).2.2 | (with_reducible refine Kd.C_alloc ?_ _) | (with_reducible refine Kd.C_drewN ?_ _) | (with_reducible refine Kd.C_drew ?_))); (case side2 => rw [show t226.length = t209.length from (Kd.R_reads' HO_215001.out).1.symm]; exact (Kd.R_reads' HO_215001.out).2.1); rintro e w111 ⟨rfl, hb⟩; refine ⟨_, rfl, ?_⟩; have n0_ := Aside0.mk (Kd.R_below (by (with_reducible repeat (first | apply Kd.R_alloc | apply Kd.R_drewN | apply Kd.R_drew)); exact HO_202001.out) hb); have n1_ := Aside0.mk (Kd.R_below (by (with_reducible repeat (first | apply Kd.R_alloc | apply Kd.R_drewN | apply Kd.R_drew)); exact HO_208001.out) hb); have n2_ := Aside0.mk (Kd.R_below (by (with_reducible repeat (first | apply Kd.R_alloc | apply Kd.R_drewN | apply Kd.R_drew)); exact HO_215001.out) hb); have n3_ := Aside0.mk (blk_below (g := gb188) (o := .cells #[.int .i64 a0_0, .slice A0_1 l0_1.length c0_1, .int .i64 a0_2] 27 (0, 0)) (by (with_reducible repeat (first | refine blk_drewN ?_ _ | refine blk_drew ?_ | refine blk_alloc ?_ _)); exact BK188.out) hb); have n4_ := Aside0.mk (blk_below (g := gb201) (o := .cells #[.int .i64 t195, .slice Ao23 t196.length co23, .int .i64 t199] 30 (0, 0)) (by (with_reducible repeat (first | refine blk_drewN ?_ _ | refine blk_drew ?_ | refine blk_alloc ?_ _)); exact BK201.out) hb); have n5_ := Aside0.mk (blk_below (g := gb207) (o := .cells #[.int .i64 t202, .slice Ao30 t223.length co30, .int .i64 t206] 30 (0, 0)) (by (with_reducible repeat (first | refine blk_drewN ?_ _ | refine blk_drew ?_ | refine blk_alloc ?_ _)); exact BK207.out) hb); have n6_ := Aside0.mk (blk_below (g := gb214) (o := .cells #[.int .i64 t208, .slice Ao37 t209.length co37, .int .i64 t212] 30 (0, 0)) (by (with_reducible repeat (first | refine blk_drewN ?_ _ | refine blk_drew ?_ | refine blk_alloc ?_ _)); exact BK214.out) hb); have n7_ := Aside0.mk (below_step (by repeat (first | (with_reducible first | exact HB.out | apply below_alloc | apply pw_below_drewN | apply below_drew1 | refine below_set ?_ GE188.out | refine below_set ?_ GE201.out | refine below_set ?_ GE207.out | refine below_set ?_ GE214.out) | exact HB.out)) hb); clear HO_202001; clear HO_208001; clear HO_215001; clear BK188; clear BK201; clear BK207; clear BK214; clear HB; have HO_202001 := n0_; have HO_208001 := n1_; have HO_215001 := n2_; have BK188 := n3_; have BK201 := n4_; have BK207 := n5_; have BK214 := n6_; have HB := n7_; clear n0_ n1_ n2_ n3_ n4_ n5_ n6_ n7_; (try clear hb); (try clear hb2); (try clear hk); (try clear hi); have hnb112 := NB188_201.out; have hnc112 := NB201_188.out; have hnb113 := NB188_207.out; have hnc113 := NB207_188.out; have hcz114_0 : w111.cell? ⟨gb188, 0, none⟩ = some (.int .i64 a0_0) := (blk_cell BK188.out 0).trans rfl; have hcz114_1 : w111.cell? ⟨gb188, 1, none⟩ = some (.slice A0_1 l0_1.length c0_1) := (blk_cell BK188.out 1).trans rfl; have hcz114_2 : w111.cell? ⟨gb188, 2, none⟩ = some (.int .i64 a0_2) := (blk_cell BK188.out 2).trans rfl; have hfz114_0 := blk_frozen BK188.out 0; have hfz114_1 := blk_frozen BK188.out 1; have hfz114_2 := blk_frozen BK188.out 2) | ((with_reducible refine gate_callee (f := 18) rfl ?_); refine goesL_ (some 79) rfl rfl Try.func18 (by kernel_rfl) rfl #[.agg #[.int .i64 a0_0, .slice A0_1 l0_1.length c0_1, .int .i64 a0_2]] rfl (by (try simp only [List.map_toArray, List.map_cons, List.map_nil]); first | done | rfl | (simp only [List.length_drop, List.length_take]; rfl)) ?_; (with_reducible refine (laws_toBreaker.calls kj60 a0_0 _ _ l0_1 a0_2 t228 t229 t232 _ ?side1 ?side2 A102.out).mono ?_); (case side1 => repeat (first | exact (Kd.C_below HR0_1.out HB.out) | (with_reducible refine Kd.C_alloc ?_ _) | (with_reducible refine Kd.C_drewN ?_ _) | (with_reducible refine Kd.C_drew ?_))); (case side2 => exact HC0_1.out); rintro e w115 ⟨v230, rfl, ho0, hb⟩; refine ⟨_, rfl, ?_⟩; have n0_ := Aside0.mk (Kd.R_elder' (by (with_reducible repeat (first | apply Kd.R_alloc | apply Kd.R_drewN | apply Kd.R_drew)); exact HO_202001.out) (Kd.R_base ho0) hb); have n1_ := Aside0.mk (Kd.R_elder' (by (with_reducible repeat (first | apply Kd.R_alloc | apply Kd.R_drewN | apply Kd.R_drew)); exact HO_208001.out) (Kd.R_base ho0) hb); have n2_ := Aside0.mk (Kd.R_elder' (by (with_reducible repeat (first | apply Kd.R_alloc | apply Kd.R_drewN | apply Kd.R_drew)); exact HO_215001.out) (Kd.R_base ho0) hb); have n3_ := Aside0.mk (Kd.R_lower (Kd.R_new' (Kd.R_new' (Kd.R_new' ho0 (Kd.R_lt (by (with_reducible repeat (first | apply Kd.R_alloc | apply Kd.R_drewN | apply Kd.R_drew)); exact HO_202001.out))) (Kd.R_lt (by (with_reducible repeat (first | apply Kd.R_alloc | apply Kd.R_drewN | apply Kd.R_drew)); exact HO_208001.out))) (Kd.R_lt (by (with_reducible repeat (first | apply Kd.R_alloc | apply Kd.R_drewN | apply Kd.R_drew)); exact HO_215001.out))) (below_size (by repeat (first | (with_reducible first | exact HB.out | apply below_alloc | apply pw_below_drewN | apply below_drew1 | refine below_set ?_ GE188.out | refine below_set ?_ GE201.out | refine below_set ?_ GE207.out | refine below_set ?_ GE214.out) | exact HB.out)))); have n4_ := Aside0.mk (blk_below (g := gb188) (o := .cells #[.int .i64 a0_0, .slice A0_1 l0_1.length c0_1, .int .i64 a0_2] 27 (0, 0)) (by (with_reducible repeat (first | refine blk_drewN ?_ _ | refine blk_drew ?_ | refine blk_alloc ?_ _)); exact BK188.out) hb); have n5_ := Aside0.mk (blk_below (g := gb201) (o := .cells #[.int .i64 t195, .slice Ao23 t196.length co23, .int .i64 t199] 30 (0, 0)) (by (with_reducible repeat (first | refine blk_drewN ?_ _ | refine blk_drew ?_ | refine blk_alloc ?_ _)); exact BK201.out) hb); have n6_ := Aside0.mk (blk_below (g := gb207) (o := .cells #[.int .i64 t202, .slice Ao30 t223.length co30, .int .i64 t206] 30 (0, 0)) (by (with_reducible repeat (first | refine blk_drewN ?_ _ | refine blk_drew ?_ | refine blk_alloc ?_ _)); exact BK207.out) hb); have n7_ := Aside0.mk (blk_below (g := gb214) (o := .cells #[.int .i64 t208, .slice Ao37 t209.length co37, .int .i64 t212] 30 (0, 0)) (by (with_reducible repeat (first | refine blk_drewN ?_ _ | refine blk_drew ?_ | refine blk_alloc ?_ _)); exact BK214.out) hb); have n8_ := Aside0.mk (below_step (by repeat (first | (with_reducible first | exact HB.out | apply below_alloc | apply pw_below_drewN | apply below_drew1 | refine below_set ?_ GE188.out | refine below_set ?_ GE201.out | refine below_set ?_ GE207.out | refine below_set ?_ GE214.out) | exact HB.out)) hb); clear HO_202001; clear HO_208001; clear HO_215001; clear BK188; clear BK201; clear BK207; clear BK214; clear HB; have HO_202001 := n0_; have HO_208001 := n1_; have HO_215001 := n2_; have HO231 := n3_; have BK188 := n4_; have BK201 := n5_; have BK207 := n6_; have BK214 := n7_; have HB := n8_; clear n0_ n1_ n2_ n3_ n4_ n5_ n6_ n7_ n8_; (try clear hb); (try clear hb2); (try clear hk); (try clear hi); (try clear ho0); obtain ⟨Ao116, co116, eo116⟩ := Kd.R_slice HO231.out; subst eo116) | ((with_reducible refine gate_callee (f := 38) rfl ?_); refine goesL_ (some 81) rfl rfl Try.func38 (by kernel_rfl) rfl #[.agg #[.int .i64 t228, .slice Ao116 t229.length co116, .int .i64 t232], .int .i64 a1] rfl (by (try simp only [List.map_toArray, List.map_cons, List.map_nil]); first | done | rfl | (simp only [List.length_drop, List.length_take]; rfl)) ?_; (with_reducible refine (impl_OnDial.calls kj60 t228 _ _ t229 t232 a1 t233 t234 t237 t238 _ ?side1 ?side2 A103.out).mono ?_); (case side1 => repeat (first | exact (Kd.R_reads' HO231.out).2.2 | (with_reducible refine Kd.C_alloc ?_ _) | (with_reducible refine Kd.C_drewN ?_ _) | (with_reducible refine Kd.C_drew ?_))); (case side2 => exact (Kd.R_reads' HO231.out).2.1); rintro e w117 ⟨v235, rfl, ho0, hb⟩; refine ⟨_, rfl, ?_⟩; have n0_ := Aside0.mk (Kd.R_elder' (by (with_reducible repeat (first | apply Kd.R_alloc | apply Kd.R_drewN | apply Kd.R_drew)); exact HO_202001.out) (Kd.R_base ho0) hb); have n1_ := Aside0.mk (Kd.R_elder' (by (with_reducible repeat (first | apply Kd.R_alloc | apply Kd.R_drewN | apply Kd.R_drew)); exact HO_208001.out) (Kd.R_base ho0) hb); have n2_ := Aside0.mk (Kd.R_elder' (by (with_reducible repeat (first | apply Kd.R_alloc | apply Kd.R_drewN | apply Kd.R_drew)); exact HO_215001.out) (Kd.R_base ho0) hb); have n3_ := Aside0.mk (Kd.R_elder' (by (with_reducible repeat (first | apply Kd.R_alloc | apply Kd.R_drewN | apply Kd.R_drew)); exact HO231.out) (Kd.R_base ho0) hb); have n4_ := Aside0.mk (Kd.R_lower (Kd.R_new' (Kd.R_new' (Kd.R_new' (Kd.R_new' ho0 (Kd.R_lt (by (with_reducible repeat (first | apply Kd.R_alloc | apply Kd.R_drewN | apply Kd.R_drew)); exact HO_202001.out))) (Kd.R_lt (by (with_reducible repeat (first | apply Kd.R_alloc | apply Kd.R_drewN | apply Kd.R_drew)); exact HO_208001.out))) (Kd.R_lt (by (with_reducible repeat (first | apply Kd.R_alloc | apply Kd.R_drewN | apply Kd.R_drew)); exact HO_215001.out))) (Kd.R_lt (by (with_reducible repeat (first | apply Kd.R_alloc | apply Kd.R_drewN | apply Kd.R_drew)); exact HO231.out))) (below_size (by repeat (first | (with_reducible first | exact HB.out | apply below_alloc | apply pw_below_drewN | apply below_drew1 | refine below_set ?_ GE188.out | refine below_set ?_ GE201.out | refine below_set ?_ GE207.out | refine below_set ?_ GE214.out) | exact HB.out)))); have n5_ := Aside0.mk (blk_below (g := gb188) (o := .cells #[.int .i64 a0_0, .slice A0_1 l0_1.length c0_1, .int .i64 a0_2] 27 (0, 0)) (by (with_reducible repeat (first | refine blk_drewN ?_ _ | refine blk_drew ?_ | refine blk_alloc ?_ _)); exact BK188.out) hb); have n6_ := Aside0.mk (blk_below (g := gb201) (o := .cells #[.int .i64 t195, .slice Ao23 t196.length co23, .int .i64 t199] 30 (0, 0)) (by (with_reducible repeat (first | refine blk_drewN ?_ _ | refine blk_drew ?_ | refine blk_alloc ?_ _)); exact BK201.out) hb); have n7_ := Aside0.mk (blk_below (g := gb207) (o := .cells #[.int .i64 t202, .slice Ao30 t223.length co30, .int .i64 t206] 30 (0, 0)) (by (with_reducible repeat (first | refine blk_drewN ?_ _ | refine blk_drew ?_ | refine blk_alloc ?_ _)); exact BK207.out) hb); have n8_ := Aside0.mk (blk_below (g := gb214) (o := .cells #[.int .i64 t208, .slice Ao37 t209.length co37, .int .i64 t212] 30 (0, 0)) (by (with_reducible repeat (first | refine blk_drewN ?_ _ | refine blk_drew ?_ | refine blk_alloc ?_ _)); exact BK214.out) hb); have n9_ := Aside0.mk (below_step (by repeat (first | (with_reducible first | exact HB.out | apply below_alloc | apply pw_below_drewN | apply below_drew1 | refine below_set ?_ GE188.out | refine below_set ?_ GE201.out | refine below_set ?_ GE207.out | refine below_set ?_ GE214.out) | exact HB.out)) hb); clear HO_202001; clear HO_208001; clear HO_215001; clear HO231; clear BK188; clear BK201; clear BK207; clear BK214; clear HB; have HO_202001 := n0_; have HO_208001 := n1_; have HO_215001 := n2_; have HO231 := n3_; have HO236 := n4_; have BK188 := n5_; have BK201 := n6_; have BK207 := n7_; have BK214 := n8_; have HB := n9_; clear n0_ n1_ n2_ n3_ n4_ n5_ n6_ n7_ n8_ n9_; (try clear hb); (try clear hb2); (try clear hk); (try clear hi); (try clear ho0)) | ((with_reducible refine gate_dst (N := 14) rfl ?_); refine box_event ?hg (N := 14) ?hd (cs := #[.int .i64 0, .slice none 0 0, .int .i64 0]) (t := 30) ?hr ?_; (case hd => rfl); (case hg => rfl); (case hr => first | (go_simp; done) | (go_simp; rfl)); intro gb239 hg w118 hbox hb; have n0_ := Aside0.mk (Kd.R_below (by (with_reducible repeat (first | apply Kd.R_alloc | apply Kd.R_drewN | apply Kd.R_drew)); exact HO_202001.out) hb); have n1_ := Aside0.mk (Kd.R_below (by (with_reducible repeat (first | apply Kd.R_alloc | apply Kd.R_drewN | apply Kd.R_drew)); exact HO_208001.out) hb); have n2_ := Aside0.mk (Kd.R_below (by (with_reducible repeat (first | apply Kd.R_alloc | apply Kd.R_drewN | apply Kd.R_drew)); exact HO_215001.out) hb); have n3_ := Aside0.mk (Kd.R_below (by (with_reducible repeat (first | apply Kd.R_alloc | apply Kd.R_drewN | apply Kd.R_drew)); exact HO231.out) hb); have n4_ := Aside0.mk (Kd.R_below (by (with_reducible repeat (first | apply Kd.R_alloc | apply Kd.R_drewN | apply Kd.R_drew)); exact HO236.out) hb); have n5_ := Aside0.mk (blk_below (g := gb188) (o := .cells #[.int .i64 a0_0, .slice A0_1 l0_1.length c0_1, .int .i64 a0_2] 27 (0, 0)) (by (with_reducible repeat (first | refine blk_drewN ?_ _ | refine blk_drew ?_ | refine blk_alloc ?_ _)); exact BK188.out) hb); have n6_ := Aside0.mk (blk_below (g := gb201) (o := .cells #[.int .i64 t195, .slice Ao23 t196.length co23, .int .i64 t199] 30 (0, 0)) (by (with_reducible repeat (first | refine blk_drewN ?_ _ | refine blk_drew ?_ | refine blk_alloc ?_ _)); exact BK201.out) hb); have n7_ := Aside0.mk (blk_below (g := gb207) (o := .cells #[.int .i64 t202, .slice Ao30 t223.length co30, .int .i64 t206] 30 (0, 0)) (by (with_reducible repeat (first | refine blk_drewN ?_ _ | refine blk_drew ?_ | refine blk_alloc ?_ _)); exact BK207.out) hb); have n8_ := Aside0.mk (blk_below (g := gb214) (o := .cells #[.int .i64 t208, .slice Ao37 t209.length co37, .int .i64 t212] 30 (0, 0)) (by (with_reducible repeat (first | refine blk_drewN ?_ _ | refine blk_drew ?_ | refine blk_alloc ?_ _)); exact BK214.out) hb); have n9_ := Aside0.mk (below_step (by repeat (first | (with_reducible first | exact HB.out | apply below_alloc | apply pw_below_drewN | apply below_drew1 | refine below_set ?_ GE188.out | refine below_set ?_ GE201.out | refine below_set ?_ GE207.out | refine below_set ?_ GE214.out) | exact HB.out)) hb); have n10_ := Aside0.mk (hbox); have n11_ := Aside0.mk ((by rw [hg]; exact (below_size (by repeat (first | (with_reducible first | exact HB.out | apply below_alloc | apply pw_below_drewN | apply below_drew1 | refine below_set ?_ GE188.out | refine below_set ?_ GE201.out | refine below_set ?_ GE207.out | refine below_set ?_ GE214.out) | exact HB.out))) : w.heap.size ≤ gb239)); have n12_ := Aside0.mk ((by rw [hg]; exact (below_size (by repeat (first | (with_reducible first | exact HB.out | apply below_alloc | apply pw_below_drewN | apply below_drew1 | refine below_set ?_ GE188.out | refine below_set ?_ GE201.out | refine below_set ?_ GE207.out | refine below_set ?_ GE214.out) | exact HB.out))) : w.heap.size ≤ gb239)); have n13_ := Aside0.mk ((by rw [hg]; exact Nat.ne_of_lt (blk_lt (g := gb188) (o := .cells #[.int .i64 a0_0, .slice A0_1 l0_1.length c0_1, .int .i64 a0_2] 27 (0, 0)) (by (with_reducible repeat (first | refine blk_drewN ?_ _ | refine blk_drew ?_ | refine blk_alloc ?_ _)); exact BK188.out)) : gb188 ≠ gb239)); have n14_ := Aside0.mk ((by rw [hg]; exact Nat.ne_of_gt (blk_lt (g := gb188) (o := .cells #[.int .i64 a0_0, .slice A0_1 l0_1.length c0_1, .int .i64 a0_2] 27 (0, 0)) (by (with_reducible repeat (first | refine blk_drewN ?_ _ | refine blk_drew ?_ | refine blk_alloc ?_ _)); exact BK188.out)) : gb239 ≠ gb188)); have n15_ := Aside0.mk ((by rw [hg]; exact Nat.ne_of_lt (blk_lt (g := gb201) (o := .cells #[.int .i64 t195, .slice Ao23 t196.length co23, .int .i64 t199] 30 (0, 0)) (by (with_reducible repeat (first | refine blk_drewN ?_ _ | refine blk_drew ?_ | refine blk_alloc ?_ _)); exact BK201.out)) : gb201 ≠ gb239)); have n16_ := Aside0.mk ((by rw [hg]; exact Nat.ne_of_gt (blk_lt (g := gb201) (o := .cells #[.int .i64 t195, .slice Ao23 t196.length co23, .int .i64 t199] 30 (0, 0)) (by (with_reducible repeat (first | refine blk_drewN ?_ _ | refine blk_drew ?_ | refine blk_alloc ?_ _)); exact BK201.out)) : gb239 ≠ gb201)); have n17_ := Aside0.mk ((by rw [hg]; exact Nat.ne_of_lt (blk_lt (g := gb207) (o := .cells #[.int .i64 t202, .slice Ao30 t223.length co30, .int .i64 t206] 30 (0, 0)) (by (with_reducible repeat (first | refine blk_drewN ?_ _ | refine blk_drew ?_ | refine blk_alloc ?_ _)); exact BK207.out)) : gb207 ≠ gb239)); have n18_ := Aside0.mk ((by rw [hg]; exact Nat.ne_of_gt (blk_lt (g := gb207) (o := .cells #[.int .i64 t202, .slice Ao30 t223.length co30, .int .i64 t206] 30 (0, 0)) (by (with_reducible repeat (first | refine blk_drewN ?_ _ | refine blk_drew ?_ | refine blk_alloc ?_ _)); exact BK207.out)) : gb239 ≠ gb207)); have n19_ := Aside0.mk ((by rw [hg]; exact Nat.ne_of_lt (blk_lt (g := gb214) (o := .cells #[.int .i64 t208, .slice Ao37 t209.length co37, .int .i64 t212] 30 (0, 0)) (by (with_reducible repeat (first | refine blk_drewN ?_ _ | refine blk_drew ?_ | refine blk_alloc ?_ _)); exact BK214.out)) : gb214 ≠ gb239)); have n20_ := Aside0.mk ((by rw [hg]; exact Nat.ne_of_gt (blk_lt (g := gb214) (o := .cells #[.int .i64 t208, .slice Ao37 t209.length co37, .int .i64 t212] 30 (0, 0)) (by (with_reducible repeat (first | refine blk_drewN ?_ _ | refine blk_drew ?_ | refine blk_alloc ?_ _)); exact BK214.out)) : gb239 ≠ gb214)); clear HO_202001; clear HO_208001; clear HO_215001; clear HO231; clear HO236; clear BK188; clear BK201; clear BK207; clear BK214; clear HB; have HO_202001 := n0_; have HO_208001 := n1_; have HO_215001 := n2_; have HO231 := n3_; have HO236 := n4_; have BK188 := n5_; have BK201 := n6_; have BK207 := n7_; have BK214 := n8_; have HB := n9_; have BK239 := n10_; have GW239 := n11_; have GE239 := n12_; have NB188_239 := n13_; have NB239_188 := n14_; have NB201_239 := n15_; have NB239_201 := n16_; have NB207_239 := n17_; have NB239_207 := n18_; have NB214_239 := n19_; have NB239_214 := n20_; clear n0_ n1_ n2_ n3_ n4_ n5_ n6_ n7_ n8_ n9_ n10_ n11_ n12_ n13_ n14_ n15_ n16_ n17_ n18_ n19_ n20_; clear hb hbox hg; have hnb119 := NB239_188.out; have hnc119 := NB188_239.out; have hnb120 := NB239_201.out; have hnc120 := NB201_239.out; have hnb121 := NB239_207.out; have hnc121 := NB207_239.out; have hnb122 := NB239_214.out; have hnc122 := NB214_239.out; have hcz123_0 : w118.cell? ⟨gb239, 0, none⟩ = some (.int .i64 0) := (blk_cell BK239.out 0).trans rfl; have hcz123_1 : w118.cell? ⟨gb239, 1, none⟩ = some (.slice none 0 0) := (blk_cell BK239.out 1).trans rfl; have hcz123_2 : w118.cell? ⟨gb239, 2, none⟩ = some (.int .i64 0) := (blk_cell BK239.out 2).trans rfl; have hfz123_0 := blk_frozen BK239.out 0; have hfz123_1 := blk_frozen BK239.out 1; have hfz123_2 := blk_frozen BK239.out 2; obtain ⟨Ao124, co124, eo124⟩ := Kd.R_slice HO236.out; subst eo124))
                      (try simp only [Act.put, List.setIfInBounds_toArray, List.set_cons_zero, List.set_cons_succ])
                      go_cut [92] (fun v92 wc => ∃ (kq : Nat) (x92_103 : Bool), v92 = .bool x92_103 ∧ Aside0 (laws_FnExactOnDial.j2 kq t225 x92_103 t208 t226 t212 = some r) ∧ Aside0 (kq ≤ kj60) ∧ Aside0 (Kd.R (Kd.int .i64) 3 wc w.heap.size (fun k_ => some k_ ≠ ((.slice Ao30 t223.length co30) : Value).ownBlock ∧ some k_ ≠ ((.slice Ao37 t209.length co37) : Value).ownBlock ∧ some k_ ≠ ((.slice Ao124 t234.length co124) : Value).ownBlock) (.slice Ao23 t196.length co23) t196) ∧ Aside0 (Kd.R (Kd.int .i64) 3 wc w.heap.size (fun k_ => some k_ ≠ ((.slice Ao23 t196.length co23) : Value).ownBlock ∧ some k_ ≠ ((.slice Ao37 t209.length co37) : Value).ownBlock ∧ some k_ ≠ ((.slice Ao124 t234.length co124) : Value).ownBlock) (.slice Ao30 t223.length co30) t223) ∧ Aside0 (Kd.R (Kd.int .i64) 3 wc w.heap.size (fun k_ => some k_ ≠ ((.slice Ao23 t196.length co23) : Value).ownBlock ∧ some k_ ≠ ((.slice Ao30 t223.length co30) : Value).ownBlock ∧ some k_ ≠ ((.slice Ao124 t234.length co124) : Value).ownBlock) (.slice Ao37 t209.length co37) t226) ∧ Aside0 (Kd.R (Kd.int .i64) 3 wc w.heap.size (fun k_ => some k_ ≠ ((.slice Ao23 t196.length co23) : Value).ownBlock ∧ some k_ ≠ ((.slice Ao30 t223.length co30) : Value).ownBlock ∧ some k_ ≠ ((.slice Ao37 t209.length co37) : Value).ownBlock) (.slice Ao124 t234.length co124) t234) ∧ Aside0 (wc.heap[gb188]? = some (.cells #[.int .i64 a0_0, (.slice A0_1 l0_1.length c0_1), .int .i64 a0_2] 27 (0, 0))) ∧ Aside0 (wc.heap[gb201]? = some (.cells #[.int .i64 t195, (.slice Ao23 t196.length co23), .int .i64 t199] 30 (0, 0))) ∧ Aside0 (wc.heap[gb207]? = some (.cells #[.int .i64 t202, (.slice Ao30 t223.length co30), .int .i64 t206] 30 (0, 0))) ∧ Aside0 (wc.heap[gb214]? = some (.cells #[.int .i64 t208, (.slice Ao37 t209.length co37), .int .i64 t212] 30 (0, 0))) ∧ Aside0 (wc.heap[gb239]? = some (.cells #[.int .i64 t233, (.slice Ao124 t234.length co124), .int .i64 t237] 30 (0, 0))) ∧ Aside0 (Below w.heap.size w wc))
                      case first =>
                        have H := HC104.out
                        clear HC104
                        replace H := Option.bind_eq_some_iff.mp H
                        obtain ⟨t240, A1250, H⟩ := H
                        replace H : (if t240 = true then (laws_FnExactOnDial.j2 kj60 t225 (t238 != t200) t208 t226 t212) else (laws_FnExactOnDial.j2 kj60 t225 true t208 t226 t212)) = some r := H
                        have A125 := Aside0.mk A1250
                        clear A1250
                        by_cases c126 : t240 = true
                        · subst c126
                          have H1 : (laws_FnExactOnDial.j2 kj60 t225 (t238 != t200) t208 t226 t212) = some r := by rw [if_pos rfl] at H; exact H
                          clear H
                          have H := H1
                          clear H1
                          have H' := Aside0.mk H
                          clear H
                          have hnb127 := NB239_188.out
                          have hnc127 := NB188_239.out
                          have hnb128 := NB239_201.out
                          have hnc128 := NB201_239.out
                          have hnb129 := NB239_207.out
                          have hnc129 := NB207_239.out
                          have hnb130 := NB239_214.out
                          have hnc130 := NB214_239.out
                          have hcz131_0 : w118.cell? ⟨gb239, 0, none⟩ = some (.int .i64 0) := (blk_cell BK239.out 0).trans rfl
                          have hcz131_1 : w118.cell? ⟨gb239, 1, none⟩ = some (.slice none 0 0) := (blk_cell BK239.out 1).trans rfl
                          have hcz131_2 : w118.cell? ⟨gb239, 2, none⟩ = some (.int .i64 0) := (blk_cell BK239.out 2).trans rfl
                          have hfz131_0 := blk_frozen BK239.out 0
                          have hfz131_1 := blk_frozen BK239.out 1
                          have hfz131_2 := blk_frozen BK239.out 2
                          have hnb132 := NB201_188.out
                          have hnc132 := NB188_201.out
                          have hnb133 := NB201_207.out
                          have hnc133 := NB207_201.out
                          have hnb134 := NB201_214.out
                          have hnc134 := NB214_201.out
                          have hcz135_0 : w118.cell? ⟨gb201, 0, none⟩ = some (.int .i64 t195) := (blk_cell BK201.out 0).trans rfl
                          have hcz135_1 : w118.cell? ⟨gb201, 1, none⟩ = some (.slice Ao23 t196.length co23) := (blk_cell BK201.out 1).trans rfl
                          have hcz135_2 : w118.cell? ⟨gb201, 2, none⟩ = some (.int .i64 t199) := (blk_cell BK201.out 2).trans rfl
                          have hfz135_0 := blk_frozen BK201.out 0
                          have hfz135_1 := blk_frozen BK201.out 1
                          have hfz135_2 := blk_frozen BK201.out 2
                          go_wp2_with (first | ((with_reducible refine gate_callee (f := 20) rfl ?_); refine goesL_ (some 86) rfl rfl Try.func20 (by kernel_rfl) rfl #[.agg #[.int .i64 t233, .slice Ao124 t234.length co124, .int .i64 t237], .agg #[.int .i64 t195, .slice Ao23 t196.length co23, .int .i64 t199]] rfl (by (try simp only [List.map_toArray, List.map_cons, List.map_nil]); first | done | rfl | (simp only [List.length_drop, List.length_take]; rfl)) ?_; (with_reducible refine (laws_eqBreaker.calls kj60 t233 _ _ t234 t237 t195 _ _ t196 t199 true _ ?side1 ?side2 ?side3 ?side4 A125.out).mono ?_); (case side1 => refine (Kd.R_reads' (e := 3) (base := w.heap.size) (ok := fun k_ => ((((True ∧ some k_ ≠ (.slice Ao23 t196.length co23 : Value).ownBlock) ∧ some k_ ≠ (.slice Ao30 t223.length co30 : Value).ownBlock) ∧ some k_ ≠ (.slice Ao37 t209.length co37 : Value).ownBlock) ∧ some k_ ≠ (.slice Ao116 t229.length co116 : Value).ownBlock)) (n := t234.length) (c := co124) ?_).2.2; exact (by (with_reducible repeat (first | apply Kd.R_alloc | apply Kd.R_drewN | apply Kd.R_drew)); exact (Kd.R_mono (Kd.R_far (p := ⟨gb239, 2, none⟩) (Kd.R_far (p := ⟨gb239, 1, none⟩) (Kd.R_far (p := ⟨gb239, 0, none⟩) (Kd.R_types HO236.out BK239.out (by decide)) (fun _ hk => hk.2) (.int .i64 t233)) (fun _ hk => hk.2) (.slice Ao124 t234.length co124)) (fun _ hk => hk.2) (.int .i64 t237)) (fun _ h_ => h_.1)))); (case side2 => exact (Kd.R_reads' HO236.out).2.1); (case side3 => refine (Kd.R_reads' (e := 3) (base := w.heap.size) (ok := fun k_ => (((some k_ ≠ (.slice Ao30 t223.length co30 : Value).ownBlock ∧ some k_ ≠ (.slice Ao37 t209.length co37 : Value).ownBlock) ∧ some k_ ≠ (.slice Ao116 t229.length co116 : Value).ownBlock) ∧ some k_ ≠ (.slice Ao124 t234.length co124 : Value).ownBlock)) (n := t196.length) (c := co23) ?_).2.2; exact (by (with_reducible repeat (first | apply Kd.R_alloc | apply Kd.R_drewN | apply Kd.R_drew)); exact (Kd.R_mono (Kd.R_far (p := ⟨gb239, 2, none⟩) (Kd.R_far (p := ⟨gb239, 1, none⟩) (Kd.R_far (p := ⟨gb239, 0, none⟩) (Kd.R_types HO_202001.out BK239.out (by decide)) (fun _ hk => hk.2) (.int .i64 t233)) (fun _ hk => hk.2) (.slice Ao124 t234.length co124)) (fun _ hk => hk.2) (.int .i64 t237)) (fun _ h_ => h_.1)))); (case side4 => exact (Kd.R_reads' HO_202001.out).2.1); rintro e w136 ⟨rfl, hb⟩; refine ⟨_, rfl, ?_⟩; have n0_ := Aside0.mk (Kd.R_below (by (with_reducible repeat (first | apply Kd.R_alloc | apply Kd.R_drewN | apply Kd.R_drew)); exact (Kd.R_mono (Kd.R_far (p := ⟨gb239, 2, none⟩) (Kd.R_far (p := ⟨gb239, 1, none⟩) (Kd.R_far (p := ⟨gb239, 0, none⟩) (Kd.R_types HO_202001.out BK239.out (by decide)) (fun _ hk => hk.2) (.int .i64 t233)) (fun _ hk => hk.2) (.slice Ao124 t234.length co124)) (fun _ hk => hk.2) (.int .i64 t237)) (fun _ h_ => h_.1))) hb); have n1_ := Aside0.mk (Kd.R_below (by (with_reducible repeat (first | apply Kd.R_alloc | apply Kd.R_drewN | apply Kd.R_drew)); exact (Kd.R_mono (Kd.R_far (p := ⟨gb239, 2, none⟩) (Kd.R_far (p := ⟨gb239, 1, none⟩) (Kd.R_far (p := ⟨gb239, 0, none⟩) (Kd.R_types HO_208001.out BK239.out (by decide)) (fun _ hk => hk.2) (.int .i64 t233)) (fun _ hk => hk.2) (.slice Ao124 t234.length co124)) (fun _ hk => hk.2) (.int .i64 t237)) (fun _ h_ => h_.1))) hb); have n2_ := Aside0.mk (Kd.R_below (by (with_reducible repeat (first | apply Kd.R_alloc | apply Kd.R_drewN | apply Kd.R_drew)); exact (Kd.R_mono (Kd.R_far (p := ⟨gb239, 2, none⟩) (Kd.R_far (p := ⟨gb239, 1, none⟩) (Kd.R_far (p := ⟨gb239, 0, none⟩) (Kd.R_types HO_215001.out BK239.out (by decide)) (fun _ hk => hk.2) (.int .i64 t233)) (fun _ hk => hk.2) (.slice Ao124 t234.length co124)) (fun _ hk => hk.2) (.int .i64 t237)) (fun _ h_ => h_.1))) hb); have n3_ := Aside0.mk (Kd.R_below (by (with_reducible repeat (first | apply Kd.R_alloc | apply Kd.R_drewN | apply Kd.R_drew)); exact (Kd.R_mono (Kd.R_far (p := ⟨gb239, 2, none⟩) (Kd.R_far (p := ⟨gb239, 1, none⟩) (Kd.R_far (p := ⟨gb239, 0, none⟩) (Kd.R_types HO231.out BK239.out (by decide)) (fun _ hk => hk.2) (.int .i64 t233)) (fun _ hk => hk.2) (.slice Ao124 t234.length co124)) (fun _ hk => hk.2) (.int .i64 t237)) (fun _ h_ => h_.1))) hb); have n4_ := Aside0.mk (Kd.R_below (by (with_reducible repeat (first | apply Kd.R_alloc | apply Kd.R_drewN | apply Kd.R_drew)); exact (Kd.R_mono (Kd.R_far (p := ⟨gb239, 2, none⟩) (Kd.R_far (p := ⟨gb239, 1, none⟩) (Kd.R_far (p := ⟨gb239, 0, none⟩) (Kd.R_types HO236.out BK239.out (by decide)) (fun _ hk => hk.2) (.int .i64 t233)) (fun _ hk => hk.2) (.slice Ao124 t234.length co124)) (fun _ hk => hk.2) (.int .i64 t237)) (fun _ h_ => h_.1))) hb); have n5_ := Aside0.mk (blk_below (g := gb188) (o := .cells #[.int .i64 a0_0, .slice A0_1 l0_1.length c0_1, .int .i64 a0_2] 27 (0, 0)) (by (with_reducible repeat (first | refine blk_drewN ?_ _ | refine blk_drew ?_ | refine blk_alloc ?_ _)); refine blk_far ?_ NB188_239.out _; (with_reducible repeat (first | refine blk_drewN ?_ _ | refine blk_drew ?_ | refine blk_alloc ?_ _)); refine blk_far ?_ NB188_239.out _; (with_reducible repeat (first | refine blk_drewN ?_ _ | refine blk_drew ?_ | refine blk_alloc ?_ _)); refine blk_far ?_ NB188_239.out _; (with_reducible repeat (first | refine blk_drewN ?_ _ | refine blk_drew ?_ | refine blk_alloc ?_ _)); exact BK188.out) hb); have n6_ := Aside0.mk (blk_below (g := gb201) (o := .cells #[.int .i64 t195, .slice Ao23 t196.length co23, .int .i64 t199] 30 (0, 0)) (by (with_reducible repeat (first | refine blk_drewN ?_ _ | refine blk_drew ?_ | refine blk_alloc ?_ _)); refine blk_far ?_ NB201_239.out _; (with_reducible repeat (first | refine blk_drewN ?_ _ | refine blk_drew ?_ | refine blk_alloc ?_ _)); refine blk_far ?_ NB201_239.out _; (with_reducible repeat (first | refine blk_drewN ?_ _ | refine blk_drew ?_ | refine blk_alloc ?_ _)); refine blk_far ?_ NB201_239.out _; (with_reducible repeat (first | refine blk_drewN ?_ _ | refine blk_drew ?_ | refine blk_alloc ?_ _)); exact BK201.out) hb); have n7_ := Aside0.mk (blk_below (g := gb207) (o := .cells #[.int .i64 t202, .slice Ao30 t223.length co30, .int .i64 t206] 30 (0, 0)) (by (with_reducible repeat (first | refine blk_drewN ?_ _ | refine blk_drew ?_ | refine blk_alloc ?_ _)); refine blk_far ?_ NB207_239.out _; (with_reducible repeat (first | refine blk_drewN ?_ _ | refine blk_drew ?_ | refine blk_alloc ?_ _)); refine blk_far ?_ NB207_239.out _; (with_reducible repeat (first | refine blk_drewN ?_ _ | refine blk_drew ?_ | refine blk_alloc ?_ _)); refine blk_far ?_ NB207_239.out _; (with_reducible repeat (first | refine blk_drewN ?_ _ | refine blk_drew ?_ | refine blk_alloc ?_ _)); exact BK207.out) hb); have n8_ := Aside0.mk (blk_below (g := gb214) (o := .cells #[.int .i64 t208, .slice Ao37 t209.length co37, .int .i64 t212] 30 (0, 0)) (by (with_reducible repeat (first | refine blk_drewN ?_ _ | refine blk_drew ?_ | refine blk_alloc ?_ _)); refine blk_far ?_ NB214_239.out _; (with_reducible repeat (first | refine blk_drewN ?_ _ | refine blk_drew ?_ | refine blk_alloc ?_ _)); refine blk_far ?_ NB214_239.out _; (with_reducible repeat (first | refine blk_drewN ?_ _ | refine blk_drew ?_ | refine blk_alloc ?_ _)); refine blk_far ?_ NB214_239.out _; (with_reducible repeat (first | refine blk_drewN ?_ _ | refine blk_drew ?_ | refine blk_alloc ?_ _)); exact BK214.out) hb); have n9_ := Aside0.mk (blk_below (g := gb239) (o := .cells #[.int .i64 t233, .slice Ao124 t234.length co124, .int .i64 t237] 30 (0, 0)) (by (with_reducible repeat (first | refine blk_drewN ?_ _ | refine blk_drew ?_ | refine blk_alloc ?_ _)); refine blk_put (cs := #[.int .i64 t233, .slice Ao124 t234.length co124, .int .i64 0]) ?_ 2 _ rfl; (with_reducible repeat (first | refine blk_drewN ?_ _ | refine blk_drew ?_ | refine blk_alloc ?_ _)); refine blk_put (cs := #[.int .i64 t233, .slice none 0 0, .int .i64 0]) ?_ 1 _ rfl; (with_reducible repeat (first | refine blk_drewN ?_ _ | refine blk_drew ?_ | refine blk_alloc ?_ _)); refine blk_put (cs := #[.int .i64 0, .slice none 0 0, .int .i64 0]) ?_ 0 _ rfl; (with_reducible repeat (first | refine blk_drewN ?_ _ | refine blk_drew ?_ | refine blk_alloc ?_ _)); exact BK239.out) hb); have n10_ := Aside0.mk (below_step (by repeat (first | (with_reducible first | exact HB.out | apply below_alloc | apply pw_below_drewN | apply below_drew1 | refine below_set ?_ GE188.out | refine below_set ?_ GE201.out | refine below_set ?_ GE207.out | refine below_set ?_ GE214.out | refine below_set ?_ GE239.out) | exact HB.out)) hb); clear HO_202001; clear HO_208001; clear HO_215001; clear HO231; clear HO236; clear BK188; clear BK201; clear BK207; clear BK214; clear BK239; clear HB; have HO_202001 := n0_; have HO_208001 := n1_; have HO_215001 := n2_; have HO231 := n3_; have HO236 := n4_; have BK188 := n5_; have BK201 := n6_; have BK207 := n7_; have BK214 := n8_; have BK239 := n9_; have HB := n10_; clear n0_ n1_ n2_ n3_ n4_ n5_ n6_ n7_ n8_ n9_ n10_; (try clear hb); (try clear hb2); (try clear hk); (try clear hi)))
                          go_meet
                          case rel => exact ⟨_, ((t238 != t200)), (by first | rfl | (simp; done) | (simp [*]; done)), H', ⟨by have := HJ11.out; have := HJ60.out; first | omega | exact Nat.le_refl _⟩, ⟨by (try simp only [hl208001_60]); (with_reducible repeat (first | apply Kd.R_alloc | apply Kd.R_drewN | apply Kd.R_drew)); exact Kd.R_mono HO_202001.out (fun _ hk => ⟨hk.1.1.1, ⟨hk.1.1.2, hk.2⟩⟩)⟩, ⟨by (try simp only [hl208001_60]); (with_reducible repeat (first | apply Kd.R_alloc | apply Kd.R_drewN | apply Kd.R_drew)); exact Kd.R_mono HO_208001.out (fun _ hk => ⟨hk.1.1.1, ⟨hk.1.1.2, hk.2⟩⟩)⟩, ⟨by (try simp only [hl208001_60]); (with_reducible repeat (first | apply Kd.R_alloc | apply Kd.R_drewN | apply Kd.R_drew)); exact Kd.R_mono HO_215001.out (fun _ hk => ⟨hk.1.1.1, ⟨hk.1.1.2, hk.2⟩⟩)⟩, ⟨by (try simp only [hl208001_60]); (with_reducible repeat (first | apply Kd.R_alloc | apply Kd.R_drewN | apply Kd.R_drew)); exact Kd.R_mono HO236.out (fun _ hk => ⟨hk.1.1.1.2, ⟨hk.1.1.2, hk.1.2⟩⟩)⟩, ⟨by (try simp only [hl208001_60]); (with_reducible repeat (first | refine blk_drewN ?_ _ | refine blk_drew ?_ | refine blk_alloc ?_ _)); exact BK188.out⟩, ⟨by (try simp only [hl208001_60]); (with_reducible repeat (first | refine blk_drewN ?_ _ | refine blk_drew ?_ | refine blk_alloc ?_ _)); exact BK201.out⟩, ⟨by (try simp only [hl208001_60]); (with_reducible repeat (first | refine blk_drewN ?_ _ | refine blk_drew ?_ | refine blk_alloc ?_ _)); exact BK207.out⟩, ⟨by (try simp only [hl208001_60]); (with_reducible repeat (first | refine blk_drewN ?_ _ | refine blk_drew ?_ | refine blk_alloc ?_ _)); exact BK214.out⟩, ⟨by (try simp only [hl208001_60]); (with_reducible repeat (first | refine blk_drewN ?_ _ | refine blk_drew ?_ | refine blk_alloc ?_ _)); exact BK239.out⟩, ⟨by repeat (first | (with_reducible first | exact HB.out | apply below_alloc | apply pw_below_drewN | apply below_drew1 | refine below_set ?_ GE188.out | refine below_set ?_ GE201.out | refine below_set ?_ GE207.out | refine below_set ?_ GE214.out | refine below_set ?_ GE239.out) | exact HB.out)⟩⟩
                        · replace c126 := Bool.eq_false_iff.mpr c126
                          subst c126
                          have H1 : (laws_FnExactOnDial.j2 kj60 t225 true t208 t226 t212) = some r := by rw [if_neg (show ¬ (false = true) by decide)] at H; exact H
                          clear H
                          have H := H1
                          clear H1
                          have H' := Aside0.mk H
                          clear H
                          have hnb137 := NB239_188.out
                          have hnc137 := NB188_239.out
                          have hnb138 := NB239_201.out
                          have hnc138 := NB201_239.out
                          have hnb139 := NB239_207.out
                          have hnc139 := NB207_239.out
                          have hnb140 := NB239_214.out
                          have hnc140 := NB214_239.out
                          have hcz141_0 : w118.cell? ⟨gb239, 0, none⟩ = some (.int .i64 0) := (blk_cell BK239.out 0).trans rfl
                          have hcz141_1 : w118.cell? ⟨gb239, 1, none⟩ = some (.slice none 0 0) := (blk_cell BK239.out 1).trans rfl
                          have hcz141_2 : w118.cell? ⟨gb239, 2, none⟩ = some (.int .i64 0) := (blk_cell BK239.out 2).trans rfl
                          have hfz141_0 := blk_frozen BK239.out 0
                          have hfz141_1 := blk_frozen BK239.out 1
                          have hfz141_2 := blk_frozen BK239.out 2
                          have hnb142 := NB201_188.out
                          have hnc142 := NB188_201.out
                          have hnb143 := NB201_207.out
                          have hnc143 := NB207_201.out
                          have hnb144 := NB201_214.out
                          have hnc144 := NB214_201.out
                          have hcz145_0 : w118.cell? ⟨gb201, 0, none⟩ = some (.int .i64 t195) := (blk_cell BK201.out 0).trans rfl
                          have hcz145_1 : w118.cell? ⟨gb201, 1, none⟩ = some (.slice Ao23 t196.length co23) := (blk_cell BK201.out 1).trans rfl
                          have hcz145_2 : w118.cell? ⟨gb201, 2, none⟩ = some (.int .i64 t199) := (blk_cell BK201.out 2).trans rfl
                          have hfz145_0 := blk_frozen BK201.out 0
                          have hfz145_1 := blk_frozen BK201.out 1
                          have hfz145_2 := blk_frozen BK201.out 2
                          go_wp2_with (first | ((with_reducible refine gate_callee (f := 20) rfl ?_); refine goesL_ (some 86) rfl rfl Try.func20 (by kernel_rfl) rfl #[.agg #[.int .i64 t233, .slice Ao124 t234.length co124, .int .i64 t237], .agg #[.int .i64 t195, .slice Ao23 t196.length co23, .int .i64 t199]] rfl (by (try simp only [List.map_toArray, List.map_cons, List.map_nil]); first | done | rfl | (simp only [List.length_drop, List.length_take]; rfl)) ?_; (with_reducible refine (laws_eqBreaker.calls kj60 t233 _ _ t234 t237 t195 _ _ t196 t199 false _ ?side1 ?side2 ?side3 ?side4 A125.out).mono ?_); (case side1 => refine (Kd.R_reads' (e := 3) (base := w.heap.size) (ok := fun k_ => ((((True ∧ some k_ ≠ (.slice Ao23 t196.length co23 : Value).ownBlock) ∧ some k_ ≠ (.slice Ao30 t223.length co30 : Value).ownBlock) ∧ some k_ ≠ (.slice Ao37 t209.length co37 : Value).ownBlock) ∧ some k_ ≠ (.slice Ao116 t229.length co116 : Value).ownBlock)) (n := t234.length) (c := co124) ?_).2.2; exact (by (with_reducible repeat (first | apply Kd.R_alloc | apply Kd.R_drewN | apply Kd.R_drew)); exact (Kd.R_mono (Kd.R_far (p := ⟨gb239, 2, none⟩) (Kd.R_far (p := ⟨gb239, 1, none⟩) (Kd.R_far (p := ⟨gb239, 0, none⟩) (Kd.R_types HO236.out BK239.out (by decide)) (fun _ hk => hk.2) (.int .i64 t233)) (fun _ hk => hk.2) (.slice Ao124 t234.length co124)) (fun _ hk => hk.2) (.int .i64 t237)) (fun _ h_ => h_.1)))); (case side2 => exact (Kd.R_reads' HO236.out).2.1); (case side3 => refine (Kd.R_reads' (e := 3) (base := w.heap.size) (ok := fun k_ => (((some k_ ≠ (.slice Ao30 t223.length co30 : Value).ownBlock ∧ some k_ ≠ (.slice Ao37 t209.length co37 : Value).ownBlock) ∧ some k_ ≠ (.slice Ao116 t229.length co116 : Value).ownBlock) ∧ some k_ ≠ (.slice Ao124 t234.length co124 : Value).ownBlock)) (n := t196.length) (c := co23) ?_).2.2; exact (by (with_reducible repeat (first | apply Kd.R_alloc | apply Kd.R_drewN | apply Kd.R_drew)); exact (Kd.R_mono (Kd.R_far (p := ⟨gb239, 2, none⟩) (Kd.R_far (p := ⟨gb239, 1, none⟩) (Kd.R_far (p := ⟨gb239, 0, none⟩) (Kd.R_types HO_202001.out BK239.out (by decide)) (fun _ hk => hk.2) (.int .i64 t233)) (fun _ hk => hk.2) (.slice Ao124 t234.length co124)) (fun _ hk => hk.2) (.int .i64 t237)) (fun _ h_ => h_.1)))); (case side4 => exact (Kd.R_reads' HO_202001.out).2.1); rintro e w146 ⟨rfl, hb⟩; refine ⟨_, rfl, ?_⟩; have n0_ := Aside0.mk (Kd.R_below (by (with_reducible repeat (first | apply Kd.R_alloc | apply Kd.R_drewN | apply Kd.R_drew)); exact (Kd.R_mono (Kd.R_far (p := ⟨gb239, 2, none⟩) (Kd.R_far (p := ⟨gb239, 1, none⟩) (Kd.R_far (p := ⟨gb239, 0, none⟩) (Kd.R_types HO_202001.out BK239.out (by decide)) (fun _ hk => hk.2) (.int .i64 t233)) (fun _ hk => hk.2) (.slice Ao124 t234.length co124)) (fun _ hk => hk.2) (.int .i64 t237)) (fun _ h_ => h_.1))) hb); have n1_ := Aside0.mk (Kd.R_below (by (with_reducible repeat (first | apply Kd.R_alloc | apply Kd.R_drewN | apply Kd.R_drew)); exact (Kd.R_mono (Kd.R_far (p := ⟨gb239, 2, none⟩) (Kd.R_far (p := ⟨gb239, 1, none⟩) (Kd.R_far (p := ⟨gb239, 0, none⟩) (Kd.R_types HO_208001.out BK239.out (by decide)) (fun _ hk => hk.2) (.int .i64 t233)) (fun _ hk => hk.2) (.slice Ao124 t234.length co124)) (fun _ hk => hk.2) (.int .i64 t237)) (fun _ h_ => h_.1))) hb); have n2_ := Aside0.mk (Kd.R_below (by (with_reducible repeat (first | apply Kd.R_alloc | apply Kd.R_drewN | apply Kd.R_drew)); exact (Kd.R_mono (Kd.R_far (p := ⟨gb239, 2, none⟩) (Kd.R_far (p := ⟨gb239, 1, none⟩) (Kd.R_far (p := ⟨gb239, 0, none⟩) (Kd.R_types HO_215001.out BK239.out (by decide)) (fun _ hk => hk.2) (.int .i64 t233)) (fun _ hk => hk.2) (.slice Ao124 t234.length co124)) (fun _ hk => hk.2) (.int .i64 t237)) (fun _ h_ => h_.1))) hb); have n3_ := Aside0.mk (Kd.R_below (by (with_reducible repeat (first | apply Kd.R_alloc | apply Kd.R_drewN | apply Kd.R_drew)); exact (Kd.R_mono (Kd.R_far (p := ⟨gb239, 2, none⟩) (Kd.R_far (p := ⟨gb239, 1, none⟩) (Kd.R_far (p := ⟨gb239, 0, none⟩) (Kd.R_types HO231.out BK239.out (by decide)) (fun _ hk => hk.2) (.int .i64 t233)) (fun _ hk => hk.2) (.slice Ao124 t234.length co124)) (fun _ hk => hk.2) (.int .i64 t237)) (fun _ h_ => h_.1))) hb); have n4_ := Aside0.mk (Kd.R_below (by (with_reducible repeat (first | apply Kd.R_alloc | apply Kd.R_drewN | apply Kd.R_drew)); exact (Kd.R_mono (Kd.R_far (p := ⟨gb239, 2, none⟩) (Kd.R_far (p := ⟨gb239, 1, none⟩) (Kd.R_far (p := ⟨gb239, 0, none⟩) (Kd.R_types HO236.out BK239.out (by decide)) (fun _ hk => hk.2) (.int .i64 t233)) (fun _ hk => hk.2) (.slice Ao124 t234.length co124)) (fun _ hk => hk.2) (.int .i64 t237)) (fun _ h_ => h_.1))) hb); have n5_ := Aside0.mk (blk_below (g := gb188) (o := .cells #[.int .i64 a0_0, .slice A0_1 l0_1.length c0_1, .int .i64 a0_2] 27 (0, 0)) (by (with_reducible repeat (first | refine blk_drewN ?_ _ | refine blk_drew ?_ | refine blk_alloc ?_ _)); refine blk_far ?_ NB188_239.out _; (with_reducible repeat (first | refine blk_drewN ?_ _ | refine blk_drew ?_ | refine blk_alloc ?_ _)); refine blk_far ?_ NB188_239.out _; (with_reducible repeat (first | refine blk_drewN ?_ _ | refine blk_drew ?_ | refine blk_alloc ?_ _)); refine blk_far ?_ NB188_239.out _; (with_reducible repeat (first | refine blk_drewN ?_ _ | refine blk_drew ?_ | refine blk_alloc ?_ _)); exact BK188.out) hb); have n6_ := Aside0.mk (blk_below (g := gb201) (o := .cells #[.int .i64 t195, .slice Ao23 t196.length co23, .int .i64 t199] 30 (0, 0)) (by (with_reducible repeat (first | refine blk_drewN ?_ _ | refine blk_drew ?_ | refine blk_alloc ?_ _)); refine blk_far ?_ NB201_239.out _; (with_reducible repeat (first | refine blk_drewN ?_ _ | refine blk_drew ?_ | refine blk_alloc ?_ _)); refine blk_far ?_ NB201_239.out _; (with_reducible repeat (first | refine blk_drewN ?_ _ | refine blk_drew ?_ | refine blk_alloc ?_ _)); refine blk_far ?_ NB201_239.out _; (with_reducible repeat (first | refine blk_drewN ?_ _ | refine blk_drew ?_ | refine blk_alloc ?_ _)); exact BK201.out) hb); have n7_ := Aside0.mk (blk_below (g := gb207) (o := .cells #[.int .i64 t202, .slice Ao30 t223.length co30, .int .i64 t206] 30 (0, 0)) (by (with_reducible repeat (first | refine blk_drewN ?_ _ | refine blk_drew ?_ | refine blk_alloc ?_ _)); refine blk_far ?_ NB207_239.out _; (with_reducible repeat (first | refine blk_drewN ?_ _ | refine blk_drew ?_ | refine blk_alloc ?_ _)); refine blk_far ?_ NB207_239.out _; (with_reducible repeat (first | refine blk_drewN ?_ _ | refine blk_drew ?_ | refine blk_alloc ?_ _)); refine blk_far ?_ NB207_239.out _; (with_reducible repeat (first | refine blk_drewN ?_ _ | refine blk_drew ?_ | refine blk_alloc ?_ _)); exact BK207.out) hb); have n8_ := Aside0.mk (blk_below (g := gb214) (o := .cells #[.int .i64 t208, .slice Ao37 t209.length co37, .int .i64 t212] 30 (0, 0)) (by (with_reducible repeat (first | refine blk_drewN ?_ _ | refine blk_drew ?_ | refine blk_alloc ?_ _)); refine blk_far ?_ NB214_239.out _; (with_reducible repeat (first | refine blk_drewN ?_ _ | refine blk_drew ?_ | refine blk_alloc ?_ _)); refine blk_far ?_ NB214_239.out _; (with_reducible repeat (first | refine blk_drewN ?_ _ | refine blk_drew ?_ | refine blk_alloc ?_ _)); refine blk_far ?_ NB214_239.out _; (with_reducible repeat (first | refine blk_drewN ?_ _ | refine blk_drew ?_ | refine blk_alloc ?_ _)); exact BK214.out) hb); have n9_ := Aside0.mk (blk_below (g := gb239) (o := .cells #[.int .i64 t233, .slice Ao124 t234.length co124, .int .i64 t237] 30 (0, 0)) (by (with_reducible repeat (first | refine blk_drewN ?_ _ | refine blk_drew ?_ | refine blk_alloc ?_ _)); refine blk_put (cs := #[.int .i64 t233, .slice Ao124 t234.length co124, .int .i64 0]) ?_ 2 _ rfl; (with_reducible repeat (first | refine blk_drewN ?_ _ | refine blk_drew ?_ | refine blk_alloc ?_ _)); refine blk_put (cs := #[.int .i64 t233, .slice none 0 0, .int .i64 0]) ?_ 1 _ rfl; (with_reducible repeat (first | refine blk_drewN ?_ _ | refine blk_drew ?_ | refine blk_alloc ?_ _)); refine blk_put (cs := #[.int .i64 0, .slice none 0 0, .int .i64 0]) ?_ 0 _ rfl; (with_reducible repeat (first | refine blk_drewN ?_ _ | refine blk_drew ?_ | refine blk_alloc ?_ _)); exact BK239.out) hb); have n10_ := Aside0.mk (below_step (by repeat (first | (with_reducible first | exact HB.out | apply below_alloc | apply pw_below_drewN | apply below_drew1 | refine below_set ?_ GE188.out | refine below_set ?_ GE201.out | refine below_set ?_ GE207.out | refine below_set ?_ GE214.out | refine below_set ?_ GE239.out) | exact HB.out)) hb); clear HO_202001; clear HO_208001; clear HO_215001; clear HO231; clear HO236; clear BK188; clear BK201; clear BK207; clear BK214; clear BK239; clear HB; have HO_202001 := n0_; have HO_208001 := n1_; have HO_215001 := n2_; have HO231 := n3_; have HO236 := n4_; have BK188 := n5_; have BK201 := n6_; have BK207 := n7_; have BK214 := n8_; have BK239 := n9_; have HB := n10_; clear n0_ n1_ n2_ n3_ n4_ n5_ n6_ n7_ n8_ n9_ n10_; (try clear hb); (try clear hb2); (try clear hk); (try clear hi)))
                          go_meet
                          case rel => exact ⟨_, (true), (by first | rfl | (simp; done) | (simp [*]; done)), H', ⟨by have := HJ11.out; have := HJ60.out; first | omega | exact Nat.le_refl _⟩, ⟨by (try simp only [hl208001_60]); (with_reducible repeat (first | apply Kd.R_alloc | apply Kd.R_drewN | apply Kd.R_drew)); exact Kd.R_mono HO_202001.out (fun _ hk => ⟨hk.1.1.1, ⟨hk.1.1.2, hk.2⟩⟩)⟩, ⟨by (try simp only [hl208001_60]); (with_reducible repeat (first | apply Kd.R_alloc | apply Kd.R_drewN | apply Kd.R_drew)); exact Kd.R_mono HO_208001.out (fun _ hk => ⟨hk.1.1.1, ⟨hk.1.1.2, hk.2⟩⟩)⟩, ⟨by (try simp only [hl208001_60]); (with_reducible repeat (first | apply Kd.R_alloc | apply Kd.R_drewN | apply Kd.R_drew)); exact Kd.R_mono HO_215001.out (fun _ hk => ⟨hk.1.1.1, ⟨hk.1.1.2, hk.2⟩⟩)⟩, ⟨by (try simp only [hl208001_60]); (with_reducible repeat (first | apply Kd.R_alloc | apply Kd.R_drewN | apply Kd.R_drew)); exact Kd.R_mono HO236.out (fun _ hk => ⟨hk.1.1.1.2, ⟨hk.1.1.2, hk.1.2⟩⟩)⟩, ⟨by (try simp only [hl208001_60]); (with_reducible repeat (first | refine blk_drewN ?_ _ | refine blk_drew ?_ | refine blk_alloc ?_ _)); exact BK188.out⟩, ⟨by (try simp only [hl208001_60]); (with_reducible repeat (first | refine blk_drewN ?_ _ | refine blk_drew ?_ | refine blk_alloc ?_ _)); exact BK201.out⟩, ⟨by (try simp only [hl208001_60]); (with_reducible repeat (first | refine blk_drewN ?_ _ | refine blk_drew ?_ | refine blk_alloc ?_ _)); exact BK207.out⟩, ⟨by (try simp only [hl208001_60]); (with_reducible repeat (first | refine blk_drewN ?_ _ | refine blk_drew ?_ | refine blk_alloc ?_ _)); exact BK214.out⟩, ⟨by (try simp only [hl208001_60]); (with_reducible repeat (first | refine blk_drewN ?_ _ | refine blk_drew ?_ | refine blk_alloc ?_ _)); exact BK239.out⟩, ⟨by repeat (first | (with_reducible first | exact HB.out | apply below_alloc | apply pw_below_drewN | apply below_drew1 | refine below_set ?_ GE188.out | refine below_set ?_ GE201.out | refine below_set ?_ GE207.out | refine below_set ?_ GE214.out | refine below_set ?_ GE239.out) | exact HB.out)⟩⟩
                      case rest =>
                        clear HC104
                        try clear c1
                        try clear c2
                        try clear p2
                        try clear c3
                        try clear c4
                        try clear c4b0
                        try clear c5
                        try clear c6
                        try clear c7
                        try clear c8
                        try clear c9
                        try clear c10
                        try clear c11
                        try clear c12
                        try clear c13
                        try clear c14
                        try clear c16
                        try clear c18
                        try clear c20
                        try clear c21
                        try clear c27
                        try clear c28
                        try clear c33
                        try clear c34
                        try clear c35
                        try clear c37
                        try clear c38
                        try clear c39
                        try clear c40
                        try clear c41
                        try clear c42
                        try clear c44
                        try clear c45
                        try clear c48
                        try clear c49
                        try clear c50
                        try clear c52
                        try clear c53
                        try clear c56
                        try clear c59
                        try clear c66
                        try clear c67
                        try clear c68
                        try clear c71
                        try clear c71b0
                        try clear c73
                        try clear c74
                        try clear c75
                        try clear c76
                        try clear c78
                        try clear c79
                        try clear c82
                        try clear c83
                        try clear c84
                        try clear c86
                        try clear c87
                        try clear c90
                        try clear c93
                        try clear c93b0
                        try clear c94
                        try clear c95
                        try clear c96
                        try clear c101
                        try clear c101b0
                        try clear c101b1
                        try clear c105
                        try clear c106
                        try clear c107
                        try clear c112
                        try clear c113
                        try clear c119
                        try clear c120
                        try clear c121
                        try clear c122
                        try clear c126
                        try clear c127
                        try clear c128
                        try clear c129
                        try clear c130
                        try clear c132
                        try clear c133
                        try clear c134
                        try clear c137
                        try clear c138
                        try clear c139
                        try clear c140
                        try clear c142
                        try clear c143
                        try clear c144
                        try clear hcz108_0
                        try clear hcz108_1
                        try clear hcz108_2
                        try clear hcz110_0
                        try clear hcz110_1
                        try clear hcz110_2
                        try clear hcz114_0
                        try clear hcz114_1
                        try clear hcz114_2
                        try clear hcz123_0
                        try clear hcz123_1
                        try clear hcz123_2
                        try clear hcz131_0
                        try clear hcz131_1
                        try clear hcz131_2
                        try clear hcz135_0
                        try clear hcz135_1
                        try clear hcz135_2
                        try clear hcz141_0
                        try clear hcz141_1
                        try clear hcz141_2
                        try clear hcz145_0
                        try clear hcz145_1
                        try clear hcz145_2
                        try clear hcz14_0
                        try clear hcz14_1
                        try clear hcz14_2
                        try clear hcz16_0
                        try clear hcz16_1
                        try clear hcz16_2
                        try clear hcz22_0
                        try clear hcz22_1
                        try clear hcz22_2
                        try clear hcz24_0
                        try clear hcz24_1
                        try clear hcz24_2
                        try clear hcz29_0
                        try clear hcz29_1
                        try clear hcz29_2
                        try clear hcz36_0
                        try clear hcz36_1
                        try clear hcz36_2
                        try clear hcz43_0
                        try clear hcz43_1
                        try clear hcz43_2
                        try clear hcz46_0
                        try clear hcz46_1
                        try clear hcz46_2
                        try clear hcz51_0
                        try clear hcz51_1
                        try clear hcz51_2
                        try clear hcz54_0
                        try clear hcz54_1
                        try clear hcz54_2
                        try clear hcz69_0
                        try clear hcz69_1
                        try clear hcz69_2
                        try clear hcz6_0
                        try clear hcz6_1
                        try clear hcz6_2
                        try clear hcz77_0
                        try clear hcz77_1
                        try clear hcz77_2
                        try clear hcz80_0
                        try clear hcz80_1
                        try clear hcz80_2
                        try clear hcz85_0
                        try clear hcz85_1
                        try clear hcz85_2
                        try clear hcz88_0
                        try clear hcz88_1
                        try clear hcz88_2
                        try clear hcz97_0
                        try clear hcz97_1
                        try clear hcz97_2
                        try clear hcz99_0
                        try clear hcz99_1
                        try clear hcz99_2
                        try clear hfz108_0
                        try clear hfz108_1
                        try clear hfz108_2
                        try clear hfz110_0
                        try clear hfz110_1
                        try clear hfz110_2
                        try clear hfz114_0
                        try clear hfz114_1
                        try clear hfz114_2
                        try clear hfz123_0
                        try clear hfz123_1
                        try clear hfz123_2
                        try clear hfz131_0
                        try clear hfz131_1
                        try clear hfz131_2
                        try clear hfz135_0
                        try clear hfz135_1
                        try clear hfz135_2
                        try clear hfz141_0
                        try clear hfz141_1
                        try clear hfz141_2
                        try clear hfz145_0
                        try clear hfz145_1
                        try clear hfz145_2
                        try clear hfz14_0
                        try clear hfz14_1
                        try clear hfz14_2
                        try clear hfz16_0
                        try clear hfz16_1
                        try clear hfz16_2
                        try clear hfz22_0
                        try clear hfz22_1
                        try clear hfz22_2
                        try clear hfz24_0
                        try clear hfz24_1
                        try clear hfz24_2
                        try clear hfz29_0
                        try clear hfz29_1
                        try clear hfz29_2
                        try clear hfz36_0
                        try clear hfz36_1
                        try clear hfz36_2
                        try clear hfz43_0
                        try clear hfz43_1
                        try clear hfz43_2
                        try clear hfz46_0
                        try clear hfz46_1
                        try clear hfz46_2
                        try clear hfz51_0
                        try clear hfz51_1
                        try clear hfz51_2
                        try clear hfz54_0
                        try clear hfz54_1
                        try clear hfz54_2
                        try clear hfz69_0
                        try clear hfz69_1
                        try clear hfz69_2
                        try clear hfz6_0
                        try clear hfz6_1
                        try clear hfz6_2
                        try clear hfz77_0
                        try clear hfz77_1
                        try clear hfz77_2
                        try clear hfz80_0
                        try clear hfz80_1
                        try clear hfz80_2
                        try clear hfz85_0
                        try clear hfz85_1
                        try clear hfz85_2
                        try clear hfz88_0
                        try clear hfz88_1
                        try clear hfz88_2
                        try clear hfz97_0
                        try clear hfz97_1
                        try clear hfz97_2
                        try clear hfz99_0
                        try clear hfz99_1
                        try clear hfz99_2
                        try clear p2
                        obtain ⟨kq, x92_103, rfl, HA, HJ103, HO_202001, HO_208001, HO_215001, HO_240001, BK188, BK201, BK207, BK214, BK239, HB⟩ := hcut
                        have hl215001_103 := (Kd.R_reads' HO_215001.out).1
                        rw [hl215001_103] at HO_215001
                        (try simp only [hl215001_103])
                        (try simp only [hl215001_103] at BK188)
                        (try simp only [hl215001_103] at BK201)
                        (try simp only [hl215001_103] at BK207)
                        (try simp only [hl215001_103] at BK214)
                        (try simp only [hl215001_103] at BK239)
                        (try simp only [hl215001_103] at HO_202001)
                        (try simp only [hl215001_103] at HO_208001)
                        (try simp only [hl215001_103] at HO_240001)
                        cases kq with
                        | zero => exact absurd HA.out (by simp [laws_FnExactOnDial.j2])
                        | succ kj103 =>
                          have H := HA.out
                          clear HA
                          simp only [laws_FnExactOnDial.j2] at H
                          by_cases c147 : x92_103 = true
                          · subst c147
                            have H1 : (some false) = some r := by rw [if_pos rfl] at H; exact H
                            clear H
                            have H := H1
                            clear H1
                            obtain rfl := Option.some.inj H
                            go_wp2
                            go_ret
                            exact ⟨by first | rfl | (simp [errW_none, errW_some] <;> rfl) | (simp [*, errW_none, errW_some] <;> rfl), by repeat (first | (with_reducible first | exact HB.out | apply below_alloc | apply pw_below_drewN | apply below_drew1 | refine below_set ?_ GE188.out | refine below_set ?_ GE201.out | refine below_set ?_ GE207.out | refine below_set ?_ GE214.out | refine below_set ?_ GE239.out) | exact HB.out)⟩
                          · replace c147 := Bool.eq_false_iff.mpr c147
                            subst c147
                            have H1 : ((laws_heldBreaker.f kj103 t208 t226 t212 1).bind fun t241 => (if t241 < 0 then (some false) else (if t241 = t225 then (some true) else (some false)))) = some r := by rw [if_neg (show ¬ (false = true) by decide)] at H; exact H
                            clear H
                            have H := H1
                            clear H1
                            replace H := Option.bind_eq_some_iff.mp H
                            obtain ⟨t241, A1480, H⟩ := H
                            replace H : (if t241 < 0 then (some false) else (if t241 = t225 then (some true) else (some false))) = some r := H
                            have A148 := Aside0.mk A1480
                            clear A1480
                            by_cases c149 : t241 < 0
                            · rw [if_pos c149] at H
                              have c149b0 : decide (t241 < 0) = true := decide_eq_true c149
                              clear c149
                              obtain rfl := Option.some.inj H
                              have hnb150 := NB214_188.out
                              have hnc150 := NB188_214.out
                              have hnb151 := NB214_201.out
                              have hnc151 := NB201_214.out
                              have hnb152 := NB214_207.out
                              have hnc152 := NB207_214.out
                              have hnb153 := NB214_239.out
                              have hnc153 := NB239_214.out
                              have hcz154_0 : wc.cell? ⟨gb214, 0, none⟩ = some (.int .i64 t208) := (blk_cell BK214.out 0).trans rfl
                              have hcz154_1 : wc.cell? ⟨gb214, 1, none⟩ = some (.slice Ao37 t226.length co37) := (blk_cell BK214.out 1).trans rfl
                              have hcz154_2 : wc.cell? ⟨gb214, 2, none⟩ = some (.int .i64 t212) := (blk_cell BK214.out 2).trans rfl
                              have hfz154_0 := blk_frozen BK214.out 0
                              have hfz154_1 := blk_frozen BK214.out 1
                              have hfz154_2 := blk_frozen BK214.out 2
                              go_wp2_with (first | ((with_reducible refine gate_callee (f := 34) rfl ?_); refine goesL_ (some 95) rfl rfl Try.func34 (by kernel_rfl) rfl #[.agg #[.int .i64 t208, .slice Ao37 t226.length co37, .int .i64 t212], .int .i64 1] rfl (by (try simp only [List.map_toArray, List.map_cons, List.map_nil]); first | done | rfl | (simp only [List.length_drop, List.length_take]; rfl)) ?_; (with_reducible refine (laws_heldBreaker.calls kj103 t208 _ _ t226 t212 1 t241 _ ?side1 ?side2 A148.out).mono ?_); (case side1 => repeat (first | exact (Kd.R_reads' HO_215001.out).2.2 | (with_reducible refine Kd.C_alloc ?_ _) | (with_reducible refine Kd.C_drewN ?_ _) | (with_reducible refine Kd.C_drew ?_))); (case side2 => exact (Kd.R_reads' HO_215001.out).2.1); rintro e w155 ⟨rfl, hb⟩; refine ⟨_, rfl, ?_⟩; have n0_ := Aside0.mk (Kd.R_below (by (with_reducible repeat (first | apply Kd.R_alloc | apply Kd.R_drewN | apply Kd.R_drew)); exact HO_202001.out) hb); have n1_ := Aside0.mk (Kd.R_below (by (with_reducible repeat (first | apply Kd.R_alloc | apply Kd.R_drewN | apply Kd.R_drew)); exact HO_208001.out) hb); have n2_ := Aside0.mk (Kd.R_below (by (with_reducible repeat (first | apply Kd.R_alloc | apply Kd.R_drewN | apply Kd.R_drew)); exact HO_215001.out) hb); have n3_ := Aside0.mk (Kd.R_below (by (with_reducible repeat (first | apply Kd.R_alloc | apply Kd.R_drewN | apply Kd.R_drew)); exact HO_240001.out) hb); have n4_ := Aside0.mk (blk_below (g := gb188) (o := .cells #[.int .i64 a0_0, .slice A0_1 l0_1.length c0_1, .int .i64 a0_2] 27 (0, 0)) (by (with_reducible repeat (first | refine blk_drewN ?_ _ | refine blk_drew ?_ | refine blk_alloc ?_ _)); exact BK188.out) hb); have n5_ := Aside0.mk (blk_below (g := gb201) (o := .cells #[.int .i64 t195, .slice Ao23 t196.length co23, .int .i64 t199] 30 (0, 0)) (by (with_reducible repeat (first | refine blk_drewN ?_ _ | refine blk_drew ?_ | refine blk_alloc ?_ _)); exact BK201.out) hb); have n6_ := Aside0.mk (blk_below (g := gb207) (o := .cells #[.int .i64 t202, .slice Ao30 t223.length co30, .int .i64 t206] 30 (0, 0)) (by (with_reducible repeat (first | refine blk_drewN ?_ _ | refine blk_drew ?_ | refine blk_alloc ?_ _)); exact BK207.out) hb); have n7_ := Aside0.mk (blk_below (g := gb214) (o := .cells #[.int .i64 t208, .slice Ao37 t226.length co37, .int .i64 t212] 30 (0, 0)) (by (with_reducible repeat (first | refine blk_drewN ?_ _ | refine blk_drew ?_ | refine blk_alloc ?_ _)); exact BK214.out) hb); have n8_ := Aside0.mk (blk_below (g := gb239) (o := .cells #[.int .i64 t233, .slice Ao124 t234.length co124, .int .i64 t237] 30 (0, 0)) (by (with_reducible repeat (first | refine blk_drewN ?_ _ | refine blk_drew ?_ | refine blk_alloc ?_ _)); exact BK239.out) hb); have n9_ := Aside0.mk (below_step (by repeat (first | (with_reducible first | exact HB.out | apply below_alloc | apply pw_below_drewN | apply below_drew1 | refine below_set ?_ GE188.out | refine below_set ?_ GE201.out | refine below_set ?_ GE207.out | refine below_set ?_ GE214.out | refine below_set ?_ GE239.out) | exact HB.out)) hb); clear HO_202001; clear HO_208001; clear HO_215001; clear HO_240001; clear BK188; clear BK201; clear BK207; clear BK214; clear BK239; clear HB; have HO_202001 := n0_; have HO_208001 := n1_; have HO_215001 := n2_; have HO_240001 := n3_; have BK188 := n4_; have BK201 := n5_; have BK207 := n6_; have BK214 := n7_; have BK239 := n8_; have HB := n9_; clear n0_ n1_ n2_ n3_ n4_ n5_ n6_ n7_ n8_ n9_; (try clear hb); (try clear hb2); (try clear hk); (try clear hi)))
                              go_ret
                              exact ⟨by first | rfl | (simp [errW_none, errW_some] <;> rfl) | (simp [*, errW_none, errW_some] <;> rfl), by repeat (first | (with_reducible first | exact HB.out | apply below_alloc | apply pw_below_drewN | apply below_drew1 | refine below_set ?_ GE188.out | refine below_set ?_ GE201.out | refine below_set ?_ GE207.out | refine below_set ?_ GE214.out | refine below_set ?_ GE239.out) | exact HB.out)⟩
                            · rw [if_neg c149] at H
                              have c149b0 : decide (t241 < 0) = false := decide_eq_false c149
                              clear c149
                              by_cases c156 : t241 = t225
                              · rw [if_pos c156] at H
                                have c156b0 : (t241 == t225) = true := beq_iff_eq.mpr c156
                                have c156b1 : (t241 != t225) = false := bne_eq_false_iff_eq.mpr c156
                                clear c156
                                obtain rfl := Option.some.inj H
                                have hnb157 := NB214_188.out
                                have hnc157 := NB188_214.out
                                have hnb158 := NB214_201.out
                                have hnc158 := NB201_214.out
                                have hnb159 := NB214_207.out
                                have hnc159 := NB207_214.out
                                have hnb160 := NB214_239.out
                                have hnc160 := NB239_214.out
                                have hcz161_0 : wc.cell? ⟨gb214, 0, none⟩ = some (.int .i64 t208) := (blk_cell BK214.out 0).trans rfl
                                have hcz161_1 : wc.cell? ⟨gb214, 1, none⟩ = some (.slice Ao37 t226.length co37) := (blk_cell BK214.out 1).trans rfl
                                have hcz161_2 : wc.cell? ⟨gb214, 2, none⟩ = some (.int .i64 t212) := (blk_cell BK214.out 2).trans rfl
                                have hfz161_0 := blk_frozen BK214.out 0
                                have hfz161_1 := blk_frozen BK214.out 1
                                have hfz161_2 := blk_frozen BK214.out 2
                                go_wp2_with (first | ((with_reducible refine gate_callee (f := 34) rfl ?_); refine goesL_ (some 95) rfl rfl Try.func34 (by kernel_rfl) rfl #[.agg #[.int .i64 t208, .slice Ao37 t226.length co37, .int .i64 t212], .int .i64 1] rfl (by (try simp only [List.map_toArray, List.map_cons, List.map_nil]); first | done | rfl | (simp only [List.length_drop, List.length_take]; rfl)) ?_; (with_reducible refine (laws_heldBreaker.calls kj103 t208 _ _ t226 t212 1 t241 _ ?side1 ?side2 A148.out).mono ?_); (case side1 => repeat (first | exact (Kd.R_reads' HO_215001.out).2.2 | (with_reducible refine Kd.C_alloc ?_ _) | (with_reducible refine Kd.C_drewN ?_ _) | (with_reducible refine Kd.C_drew ?_))); (case side2 => exact (Kd.R_reads' HO_215001.out).2.1); rintro e w162 ⟨rfl, hb⟩; refine ⟨_, rfl, ?_⟩; have n0_ := Aside0.mk (Kd.R_below (by (with_reducible repeat (first | apply Kd.R_alloc | apply Kd.R_drewN | apply Kd.R_drew)); exact HO_202001.out) hb); have n1_ := Aside0.mk (Kd.R_below (by (with_reducible repeat (first | apply Kd.R_alloc | apply Kd.R_drewN | apply Kd.R_drew)); exact HO_208001.out) hb); have n2_ := Aside0.mk (Kd.R_below (by (with_reducible repeat (first | apply Kd.R_alloc | apply Kd.R_drewN | apply Kd.R_drew)); exact HO_215001.out) hb); have n3_ := Aside0.mk (Kd.R_below (by (with_reducible repeat (first | apply Kd.R_alloc | apply Kd.R_drewN | apply Kd.R_drew)); exact HO_240001.out) hb); have n4_ := Aside0.mk (blk_below (g := gb188) (o := .cells #[.int .i64 a0_0, .slice A0_1 l0_1.length c0_1, .int .i64 a0_2] 27 (0, 0)) (by (with_reducible repeat (first | refine blk_drewN ?_ _ | refine blk_drew ?_ | refine blk_alloc ?_ _)); exact BK188.out) hb); have n5_ := Aside0.mk (blk_below (g := gb201) (o := .cells #[.int .i64 t195, .slice Ao23 t196.length co23, .int .i64 t199] 30 (0, 0)) (by (with_reducible repeat (first | refine blk_drewN ?_ _ | refine blk_drew ?_ | refine blk_alloc ?_ _)); exact BK201.out) hb); have n6_ := Aside0.mk (blk_below (g := gb207) (o := .cells #[.int .i64 t202, .slice Ao30 t223.length co30, .int .i64 t206] 30 (0, 0)) (by (with_reducible repeat (first | refine blk_drewN ?_ _ | refine blk_drew ?_ | refine blk_alloc ?_ _)); exact BK207.out) hb); have n7_ := Aside0.mk (blk_below (g := gb214) (o := .cells #[.int .i64 t208, .slice Ao37 t226.length co37, .int .i64 t212] 30 (0, 0)) (by (with_reducible repeat (first | refine blk_drewN ?_ _ | refine blk_drew ?_ | refine blk_alloc ?_ _)); exact BK214.out) hb); have n8_ := Aside0.mk (blk_below (g := gb239) (o := .cells #[.int .i64 t233, .slice Ao124 t234.length co124, .int .i64 t237] 30 (0, 0)) (by (with_reducible repeat (first | refine blk_drewN ?_ _ | refine blk_drew ?_ | refine blk_alloc ?_ _)); exact BK239.out) hb); have n9_ := Aside0.mk (below_step (by repeat (first | (with_reducible first | exact HB.out | apply below_alloc | apply pw_below_drewN | apply below_drew1 | refine below_set ?_ GE188.out | refine below_set ?_ GE201.out | refine below_set ?_ GE207.out | refine below_set ?_ GE214.out | refine below_set ?_ GE239.out) | exact HB.out)) hb); clear HO_202001; clear HO_208001; clear HO_215001; clear HO_240001; clear BK188; clear BK201; clear BK207; clear BK214; clear BK239; clear HB; have HO_202001 := n0_; have HO_208001 := n1_; have HO_215001 := n2_; have HO_240001 := n3_; have BK188 := n4_; have BK201 := n5_; have BK207 := n6_; have BK214 := n7_; have BK239 := n8_; have HB := n9_; clear n0_ n1_ n2_ n3_ n4_ n5_ n6_ n7_ n8_ n9_; (try clear hb); (try clear hb2); (try clear hk); (try clear hi)))
                                go_ret
                                exact ⟨by first | rfl | (simp [errW_none, errW_some] <;> rfl) | (simp [*, errW_none, errW_some] <;> rfl), by repeat (first | (with_reducible first | exact HB.out | apply below_alloc | apply pw_below_drewN | apply below_drew1 | refine below_set ?_ GE188.out | refine below_set ?_ GE201.out | refine below_set ?_ GE207.out | refine below_set ?_ GE214.out | refine below_set ?_ GE239.out) | exact HB.out)⟩
                              · rw [if_neg c156] at H
                                have c156b0 : (t241 == t225) = false := beq_eq_false_iff_ne.mpr c156
                                have c156b1 : (t241 != t225) = true := bne_iff_ne.mpr c156
                                obtain rfl := Option.some.inj H
                                have hnb163 := NB214_188.out
                                have hnc163 := NB188_214.out
                                have hnb164 := NB214_201.out
                                have hnc164 := NB201_214.out
                                have hnb165 := NB214_207.out
                                have hnc165 := NB207_214.out
                                have hnb166 := NB214_239.out
                                have hnc166 := NB239_214.out
                                have hcz167_0 : wc.cell? ⟨gb214, 0, none⟩ = some (.int .i64 t208) := (blk_cell BK214.out 0).trans rfl
                                have hcz167_1 : wc.cell? ⟨gb214, 1, none⟩ = some (.slice Ao37 t226.length co37) := (blk_cell BK214.out 1).trans rfl
                                have hcz167_2 : wc.cell? ⟨gb214, 2, none⟩ = some (.int .i64 t212) := (blk_cell BK214.out 2).trans rfl
                                have hfz167_0 := blk_frozen BK214.out 0
                                have hfz167_1 := blk_frozen BK214.out 1
                                have hfz167_2 := blk_frozen BK214.out 2
                                go_wp2_with (first | ((with_reducible refine gate_callee (f := 34) rfl ?_); refine goesL_ (some 95) rfl rfl Try.func34 (by kernel_rfl) rfl #[.agg #[.int .i64 t208, .slice Ao37 t226.length co37, .int .i64 t212], .int .i64 1] rfl (by (try simp only [List.map_toArray, List.map_cons, List.map_nil]); first | done | rfl | (simp only [List.length_drop, List.length_take]; rfl)) ?_; (with_reducible refine (laws_heldBreaker.calls kj103 t208 _ _ t226 t212 1 t241 _ ?side1 ?side2 A148.out).mono ?_); (case side1 => repeat (first | exact (Kd.R_reads' HO_215001.out).2.2 | (with_reducible refine Kd.C_alloc ?_ _) | (with_reducible refine Kd.C_drewN ?_ _) | (with_reducible refine Kd.C_drew ?_))); (case side2 => exact (Kd.R_reads' HO_215001.out).2.1); rintro e w168 ⟨rfl, hb⟩; refine ⟨_, rfl, ?_⟩; have n0_ := Aside0.mk (Kd.R_below (by (with_reducible repeat (first | apply Kd.R_alloc | apply Kd.R_drewN | apply Kd.R_drew)); exact HO_202001.out) hb); have n1_ := Aside0.mk (Kd.R_below (by (with_reducible repeat (first | apply Kd.R_alloc | apply Kd.R_drewN | apply Kd.R_drew)); exact HO_208001.out) hb); have n2_ := Aside0.mk (Kd.R_below (by (with_reducible repeat (first | apply Kd.R_alloc | apply Kd.R_drewN | apply Kd.R_drew)); exact HO_215001.out) hb); have n3_ := Aside0.mk (Kd.R_below (by (with_reducible repeat (first | apply Kd.R_alloc | apply Kd.R_drewN | apply Kd.R_drew)); exact HO_240001.out) hb); have n4_ := Aside0.mk (blk_below (g := gb188) (o := .cells #[.int .i64 a0_0, .slice A0_1 l0_1.length c0_1, .int .i64 a0_2] 27 (0, 0)) (by (with_reducible repeat (first | refine blk_drewN ?_ _ | refine blk_drew ?_ | refine blk_alloc ?_ _)); exact BK188.out) hb); have n5_ := Aside0.mk (blk_below (g := gb201) (o := .cells #[.int .i64 t195, .slice Ao23 t196.length co23, .int .i64 t199] 30 (0, 0)) (by (with_reducible repeat (first | refine blk_drewN ?_ _ | refine blk_drew ?_ | refine blk_alloc ?_ _)); exact BK201.out) hb); have n6_ := Aside0.mk (blk_below (g := gb207) (o := .cells #[.int .i64 t202, .slice Ao30 t223.length co30, .int .i64 t206] 30 (0, 0)) (by (with_reducible repeat (first | refine blk_drewN ?_ _ | refine blk_drew ?_ | refine blk_alloc ?_ _)); exact BK207.out) hb); have n7_ := Aside0.mk (blk_below (g := gb214) (o := .cells #[.int .i64 t208, .slice Ao37 t226.length co37, .int .i64 t212] 30 (0, 0)) (by (with_reducible repeat (first | refine blk_drewN ?_ _ | refine blk_drew ?_ | refine blk_alloc ?_ _)); exact BK214.out) hb); have n8_ := Aside0.mk (blk_below (g := gb239) (o := .cells #[.int .i64 t233, .slice Ao124 t234.length co124, .int .i64 t237] 30 (0, 0)) (by (with_reducible repeat (first | refine blk_drewN ?_ _ | refine blk_drew ?_ | refine blk_alloc ?_ _)); exact BK239.out) hb); have n9_ := Aside0.mk (below_step (by repeat (first | (with_reducible first | exact HB.out | apply below_alloc | apply pw_below_drewN | apply below_drew1 | refine below_set ?_ GE188.out | refine below_set ?_ GE201.out | refine below_set ?_ GE207.out | refine below_set ?_ GE214.out | refine below_set ?_ GE239.out) | exact HB.out)) hb); clear HO_202001; clear HO_208001; clear HO_215001; clear HO_240001; clear BK188; clear BK201; clear BK207; clear BK214; clear BK239; clear HB; have HO_202001 := n0_; have HO_208001 := n1_; have HO_215001 := n2_; have HO_240001 := n3_; have BK188 := n4_; have BK201 := n5_; have BK207 := n6_; have BK214 := n7_; have BK239 := n8_; have HB := n9_; clear n0_ n1_ n2_ n3_ n4_ n5_ n6_ n7_ n8_ n9_; (try clear hb); (try clear hb2); (try clear hk); (try clear hi)))
                                go_ret
                                exact ⟨by first | rfl | (simp [errW_none, errW_some] <;> rfl) | (simp [*, errW_none, errW_some] <;> rfl), by repeat (first | (with_reducible first | exact HB.out | apply below_alloc | apply pw_below_drewN | apply below_drew1 | refine below_set ?_ GE188.out | refine below_set ?_ GE201.out | refine below_set ?_ GE207.out | refine below_set ?_ GE214.out | refine below_set ?_ GE239.out) | exact HB.out)⟩
                    · rw [if_neg c101] at H
                      have c101b0 : (t227 == t225) = false := beq_eq_false_iff_ne.mpr c101
                      have c101b1 : (t227 != t225) = true := bne_iff_ne.mpr c101
                      obtain rfl := Option.some.inj H
                      have hnb169 := NB214_188.out
                      have hnc169 := NB188_214.out
                      have hnb170 := NB214_201.out
                      have hnc170 := NB201_214.out
                      have hnb171 := NB214_207.out
                      have hnc171 := NB207_214.out
                      have hcz172_0 : wc.cell? ⟨gb214, 0, none⟩ = some (.int .i64 t208) := (blk_cell BK214.out 0).trans rfl
                      have hcz172_1 : wc.cell? ⟨gb214, 1, none⟩ = some (.slice Ao37 t209.length co37) := (blk_cell BK214.out 1).trans rfl
                      have hcz172_2 : wc.cell? ⟨gb214, 2, none⟩ = some (.int .i64 t212) := (blk_cell BK214.out 2).trans rfl
                      have hfz172_0 := blk_frozen BK214.out 0
                      have hfz172_1 := blk_frozen BK214.out 1
                      have hfz172_2 := blk_frozen BK214.out 2
                      go_wp2_with (first | ((with_reducible refine gate_callee (f := 33) rfl ?_); refine goesL_ (some 68) rfl rfl Try.func33 (by kernel_rfl) rfl #[.agg #[.int .i64 t208, .slice Ao37 t209.length co37, .int .i64 t212], .int .i64 1] rfl (by (try simp only [List.map_toArray, List.map_cons, List.map_nil]); first | done | rfl | (simp only [List.length_drop, List.length_take]; rfl)) ?_; (with_reducible refine (laws_markBreaker.calls kj60 t208 (fun k_ => some k_ = (.slice Ao37 t209.length co37 : Value).ownBlock) (.slice Ao37 t209.length co37) t209 t212 1 t225 t226 w _ ?side1 ?side2 A91.out).mono ?_); (case side1 => repeat (first | (with_reducible first | exact HB.out | apply below_alloc | apply pw_below_drewN | apply below_drew1 | refine below_set ?_ GE188.out | refine below_set ?_ GE201.out | refine below_set ?_ GE207.out | refine below_set ?_ GE214.out) | exact HB.out)); (case side2 => exact Kd.R_tight rfl HO_215001.out); rintro e w173 ⟨rfl, hy0, hb, hkp⟩; refine ⟨_, rfl, ?_⟩; have n0_ := Aside0.mk (Kd.R_mono (ok' := fun k_ => some k_ ≠ (.slice Ao30 t223.length co30 : Value).ownBlock ∧ some k_ ≠ (.slice Ao37 t209.length co37 : Value).ownBlock) (Kd.R_keptB (HO_202001.out) hkp (fun k_ hk_ hs_ => (hk_.2) hs_)) (fun k_ hk_ => ⟨hk_.1.1, hk_.1.2⟩)); have n1_ := Aside0.mk (Kd.R_mono (ok' := fun k_ => some k_ ≠ (.slice Ao23 t196.length co23 : Value).ownBlock ∧ some k_ ≠ (.slice Ao37 t209.length co37 : Value).ownBlock) (Kd.R_keptB (HO_208001.out) hkp (fun k_ hk_ hs_ => (hk_.2) hs_)) (fun k_ hk_ => ⟨hk_.1.1, hk_.1.2⟩)); have n2_ := Aside0.mk (Kd.R_reok rfl hy0 (fun k_ e_ => HO_215001.out.1 k_ e_)); have n3_ := Aside0.mk (blk_kept (by (with_reducible repeat (first | refine blk_drewN ?_ _ | refine blk_drew ?_ | refine blk_alloc ?_ _)); exact BK188.out) hkp (fun hs_ => (fun e_ => (Kd.R_ne HO_215001.out BK188.out (by decide)) e_) hs_)); have n4_ := Aside0.mk (blk_kept (by (with_reducible repeat (first | refine blk_drewN ?_ _ | refine blk_drew ?_ | refine blk_alloc ?_ _)); exact BK201.out) hkp (fun hs_ => (fun e_ => (Kd.R_ne HO_215001.out BK201.out (by decide)) e_) hs_)); have n5_ := Aside0.mk (blk_kept (by (with_reducible repeat (first | refine blk_drewN ?_ _ | refine blk_drew ?_ | refine blk_alloc ?_ _)); exact BK207.out) hkp (fun hs_ => (fun e_ => (Kd.R_ne HO_215001.out BK207.out (by decide)) e_) hs_)); have n6_ := Aside0.mk (blk_kept (by (with_reducible repeat (first | refine blk_drewN ?_ _ | refine blk_drew ?_ | refine blk_alloc ?_ _)); exact BK214.out) hkp (fun hs_ => (fun e_ => (Kd.R_ne HO_215001.out BK214.out (by decide)) e_) hs_)); have n7_ := Aside0.mk (hb); clear HO_202001; clear HO_208001; clear HO_215001; clear BK188; clear BK201; clear BK207; clear BK214; clear HB; have HO_202001 := n0_; have HO_208001 := n1_; have HO_215001 := n2_; have BK188 := n3_; have BK201 := n4_; have BK207 := n5_; have BK214 := n6_; have HB := n7_; clear n0_ n1_ n2_ n3_ n4_ n5_ n6_ n7_; (try clear hb); (try clear hkp); (try clear hy0); have hcz174_0 : w173.cell? ⟨gb214, 0, none⟩ = some (.int .i64 t208) := (blk_cell BK214.out 0).trans rfl; have hcz174_1 : w173.cell? ⟨gb214, 1, none⟩ = some (.slice Ao37 t209.length co37) := (blk_cell BK214.out 1).trans rfl; have hcz174_2 : w173.cell? ⟨gb214, 2, none⟩ = some (.int .i64 t212) := (blk_cell BK214.out 2).trans rfl; have hfz174_0 := blk_frozen BK214.out 0; have hfz174_1 := blk_frozen BK214.out 1; have hfz174_2 := blk_frozen BK214.out 2) | ((with_reducible refine gate_callee (f := 34) rfl ?_); refine goesL_ (some 71) rfl rfl Try.func34 (by kernel_rfl) rfl #[.agg #[.int .i64 t208, .slice Ao37 t226.length co37, .int .i64 t212], .int .i64 1] rfl (by (try simp only [List.map_toArray, List.map_cons, List.map_nil]); first | done | (rw [show t226.length = t209.length from (Kd.R_reads' HO_215001.out).1.symm] <;> rfl) | rfl | (simp only [List.length_drop, List.length_take]; rfl)) ?_; (with_reducible refine (laws_heldBreaker.calls kj60 t208 _ _ t226 t212 1 t227 _ ?side1 ?side2 A92.out).mono ?_); (case side1 => repeat (first | exact (Kd.R_reads' HO_215001.out).2.2 | (with_reducible refine Kd.C_alloc ?_ _) | (with_reducible refine Kd.C_drewN ?_ _) | (with_reducible refine Kd.C_drew ?_))); (case side2 => rw [show t226.length = t209.length from (Kd.R_reads' HO_215001.out).1.symm]; exact (Kd.R_reads' HO_215001.out).2.1); rintro e w175 ⟨rfl, hb⟩; refine ⟨_, rfl, ?_⟩; have n0_ := Aside0.mk (Kd.R_below (by (with_reducible repeat (first | apply Kd.R_alloc | apply Kd.R_drewN | apply Kd.R_drew)); exact HO_202001.out) hb); have n1_ := Aside0.mk (Kd.R_below (by (with_reducible repeat (first | apply Kd.R_alloc | apply Kd.R_drewN | apply Kd.R_drew)); exact HO_208001.out) hb); have n2_ := Aside0.mk (Kd.R_below (by (with_reducible repeat (first | apply Kd.R_alloc | apply Kd.R_drewN | apply Kd.R_drew)); exact HO_215001.out) hb); have n3_ := Aside0.mk (blk_below (g := gb188) (o := .cells #[.int .i64 a0_0, .slice A0_1 l0_1.length c0_1, .int .i64 a0_2] 27 (0, 0)) (by (with_reducible repeat (first | refine blk_drewN ?_ _ | refine blk_drew ?_ | refine blk_alloc ?_ _)); exact BK188.out) hb); have n4_ := Aside0.mk (blk_below (g := gb201) (o := .cells #[.int .i64 t195, .slice Ao23 t196.length co23, .int .i64 t199] 30 (0, 0)) (by (with_reducible repeat (first | refine blk_drewN ?_ _ | refine blk_drew ?_ | refine blk_alloc ?_ _)); exact BK201.out) hb); have n5_ := Aside0.mk (blk_below (g := gb207) (o := .cells #[.int .i64 t202, .slice Ao30 t223.length co30, .int .i64 t206] 30 (0, 0)) (by (with_reducible repeat (first | refine blk_drewN ?_ _ | refine blk_drew ?_ | refine blk_alloc ?_ _)); exact BK207.out) hb); have n6_ := Aside0.mk (blk_below (g := gb214) (o := .cells #[.int .i64 t208, .slice Ao37 t209.length co37, .int .i64 t212] 30 (0, 0)) (by (with_reducible repeat (first | refine blk_drewN ?_ _ | refine blk_drew ?_ | refine blk_alloc ?_ _)); exact BK214.out) hb); have n7_ := Aside0.mk (below_step (by repeat (first | (with_reducible first | exact HB.out | apply below_alloc | apply pw_below_drewN | apply below_drew1 | refine below_set ?_ GE188.out | refine below_set ?_ GE201.out | refine below_set ?_ GE207.out | refine below_set ?_ GE214.out) | exact HB.out)) hb); clear HO_202001; clear HO_208001; clear HO_215001; clear BK188; clear BK201; clear BK207; clear BK214; clear HB; have HO_202001 := n0_; have HO_208001 := n1_; have HO_215001 := n2_; have BK188 := n3_; have BK201 := n4_; have BK207 := n5_; have BK214 := n6_; have HB := n7_; clear n0_ n1_ n2_ n3_ n4_ n5_ n6_ n7_; (try clear hb); (try clear hb2); (try clear hk); (try clear hi)))
                      go_ret
                      exact ⟨by first | rfl | (simp [errW_none, errW_some] <;> rfl) | (simp [*, errW_none, errW_some] <;> rfl), by repeat (first | (with_reducible first | exact HB.out | apply below_alloc | apply pw_below_drewN | apply below_drew1 | refine below_set ?_ GE188.out | refine below_set ?_ GE201.out | refine below_set ?_ GE207.out | refine below_set ?_ GE214.out) | exact HB.out)⟩
          · replace c59 := Bool.eq_false_iff.mpr c59
            subst c59
            have H1 : (some false) = some r := by rw [if_neg (show ¬ (false = true) by decide)] at H; exact H
            clear H
            have H := H1
            clear H1
            obtain rfl := Option.some.inj H
            try go_wp2
            have n0_ := Aside0.mk (Kd.R_drew HO_202001.out)
            have n1_ := Aside0.mk (Kd.R_drew HO_208001.out)
            have n2_ := Aside0.mk (Kd.R_drew HO_215001.out)
            have n3_ := Aside0.mk (blk_drew BK188.out)
            have n4_ := Aside0.mk (blk_drew BK201.out)
            have n5_ := Aside0.mk (blk_drew BK207.out)
            have n6_ := Aside0.mk (blk_drew BK214.out)
            have n7_ := Aside0.mk (below_drew1 HB.out)
            clear HO_202001
            clear HO_208001
            clear HO_215001
            clear BK188
            clear BK201
            clear BK207
            clear BK214
            clear HB
            have HO_202001 := n0_
            have HO_208001 := n1_
            have HO_215001 := n2_
            have BK188 := n3_
            have BK201 := n4_
            have BK207 := n5_
            have BK214 := n6_
            have HB := n7_
            clear n0_ n1_ n2_ n3_ n4_ n5_ n6_ n7_
            refine start_ (n := 5) (S := fun w' => w'.cell? ⟨gb207, 0, none⟩ = some (.int .i64 t202) ∧ w'.cell? ⟨gb207, 1, none⟩ = some (.slice Ao30 t203.length co30) ∧ w'.cell? ⟨gb207, 2, none⟩ = some (.int .i64 t206) ∧ w'.cell? ⟨gb188, 0, none⟩ = some (.int .i64 a0_0) ∧ w'.cell? ⟨gb188, 1, none⟩ = some (.slice A0_1 l0_1.length c0_1) ∧ w'.cell? ⟨gb188, 2, none⟩ = some (.int .i64 a0_2)) (ds := []) #[false, false, false, false, false] (by kernel_rfl) rfl rfl ⟨(blk_cell BK207.out 0).trans rfl, (blk_cell BK207.out 1).trans rfl, (blk_cell BK207.out 2).trans rfl, (blk_cell BK188.out 0).trans rfl, (blk_cell BK188.out 1).trans rfl, (blk_cell BK188.out 2).trans rfl⟩ (fun hHeld => ?_)
            generalize wc.drew = w176 at HO_202001 HO_208001 HO_215001 BK188 BK201 BK207 BK214 HB hHeld ⊢
            refine take_ (i := 0) (N := some 45) (v := ?_) (a' := ?_) #[true, false, false, false, false] rfl rfl (by kernel_rfl) (fun _ _ _ h => h) (Or.inl ⟨by rfl, ?_⟩) hHeld ?_ ?_
            rotate_left
            · rintro w' ⟨s0, s1, s2, s3, s4, s5⟩
              go_simp
              with_reducible rfl
            rotate_left
            · simp only [Act.put, List.setIfInBounds_toArray, List.set_cons_zero, List.set_cons_succ, i64_w, i32_w]
              rfl
            refine take_ (i := 1) (N := some 46) (v := ?_) (a' := ?_) #[true, true, false, false, false] rfl rfl (by kernel_rfl) (fun _ _ _ h => h) (Or.inl ⟨by rfl, ?_⟩) hHeld ?_ ?_
            rotate_left
            · rintro w' ⟨s0, s1, s2, s3, s4, s5⟩
              go_simp
              with_reducible rfl
            rotate_left
            · simp only [Act.put, List.setIfInBounds_toArray, List.set_cons_zero, List.set_cons_succ, i64_w, i32_w]
              rfl
            refine one_ (i := 2) (N := some 47) #[true, true, true, false, false] rfl rfl (by kernel_rfl) (by decide) (fun K hK => ?_)
            refine goes_ Try.func18 (by kernel_rfl) rfl #[.agg #[.int .i64 a0_0, .slice A0_1 l0_1.length c0_1, .int .i64 a0_2]] (by rfl) rfl rfl (by (try simp only [List.map_toArray, List.map_cons, List.map_nil]); first | done | rfl | (simp only [List.length_drop, List.length_take]; rfl)) ?_
            with_reducible refine (laws_toBreaker.calls kj11 a0_0 _ _ l0_1 a0_2 t216 t217 t220 _ ?side1 ?side2 A57.out).mono ?_
            (case side1 => repeat (first | exact (Kd.C_below HR0_1.out HB.out) | (with_reducible refine Kd.C_alloc ?_ _) | (with_reducible refine Kd.C_drewN ?_ _) | (with_reducible refine Kd.C_drew ?_)))
            (case side2 => exact HC0_1.out)
            rintro e w177 ⟨v218, rfl, ho0, hb⟩
            refine ⟨_, rfl, ?_⟩
            have n0_ := Aside0.mk (Kd.R_elder' (by (with_reducible repeat (first | apply Kd.R_alloc | apply Kd.R_drewN | apply Kd.R_drew)); exact HO_202001.out) (Kd.R_base ho0) hb)
            have n1_ := Aside0.mk (Kd.R_elder' (by (with_reducible repeat (first | apply Kd.R_alloc | apply Kd.R_drewN | apply Kd.R_drew)); exact HO_208001.out) (Kd.R_base ho0) hb)
            have n2_ := Aside0.mk (Kd.R_elder' (by (with_reducible repeat (first | apply Kd.R_alloc | apply Kd.R_drewN | apply Kd.R_drew)); exact HO_215001.out) (Kd.R_base ho0) hb)
            have n3_ := Aside0.mk (Kd.R_lower (Kd.R_new' (Kd.R_new' (Kd.R_new' ho0 (Kd.R_lt (by (with_reducible repeat (first | apply Kd.R_alloc | apply Kd.R_drewN | apply Kd.R_drew)); exact HO_202001.out))) (Kd.R_lt (by (with_reducible repeat (first | apply Kd.R_alloc | apply Kd.R_drewN | apply Kd.R_drew)); exact HO_208001.out))) (Kd.R_lt (by (with_reducible repeat (first | apply Kd.R_alloc | apply Kd.R_drewN | apply Kd.R_drew)); exact HO_215001.out))) (below_size (by repeat (first | (with_reducible first | exact HB.out | apply below_alloc | apply pw_below_drewN | apply below_drew1 | refine below_set ?_ GE188.out | refine below_set ?_ GE201.out | refine below_set ?_ GE207.out | refine below_set ?_ GE214.out) | exact HB.out))))
            have n4_ := Aside0.mk (blk_below (g := gb188) (o := .cells #[.int .i64 a0_0, .slice A0_1 l0_1.length c0_1, .int .i64 a0_2] 27 (0, 0)) (by (with_reducible repeat (first | refine blk_drewN ?_ _ | refine blk_drew ?_ | refine blk_alloc ?_ _)); exact BK188.out) hb)
            have n5_ := Aside0.mk (blk_below (g := gb201) (o := .cells #[.int .i64 t195, .slice Ao23 t196.length co23, .int .i64 t199] 30 (0, 0)) (by (with_reducible repeat (first | refine blk_drewN ?_ _ | refine blk_drew ?_ | refine blk_alloc ?_ _)); exact BK201.out) hb)
            have n6_ := Aside0.mk (blk_below (g := gb207) (o := .cells #[.int .i64 t202, .slice Ao30 t203.length co30, .int .i64 t206] 30 (0, 0)) (by (with_reducible repeat (first | refine blk_drewN ?_ _ | refine blk_drew ?_ | refine blk_alloc ?_ _)); exact BK207.out) hb)
            have n7_ := Aside0.mk (blk_below (g := gb214) (o := .cells #[.int .i64 t208, .slice Ao37 t209.length co37, .int .i64 t212] 30 (0, 0)) (by (with_reducible repeat (first | refine blk_drewN ?_ _ | refine blk_drew ?_ | refine blk_alloc ?_ _)); exact BK214.out) hb)
            have n8_ := Aside0.mk (below_step (by repeat (first | (with_reducible first | exact HB.out | apply below_alloc | apply pw_below_drewN | apply below_drew1 | refine below_set ?_ GE188.out | refine below_set ?_ GE201.out | refine below_set ?_ GE207.out | refine below_set ?_ GE214.out) | exact HB.out)) hb)
            clear HO_202001
            clear HO_208001
            clear HO_215001
            clear BK188
            clear BK201
            clear BK207
            clear BK214
            clear HB
            have HO_202001 := n0_
            have HO_208001 := n1_
            have HO_215001 := n2_
            have HO219 := n3_
            have BK188 := n4_
            have BK201 := n5_
            have BK207 := n6_
            have BK214 := n7_
            have HB := n8_
            clear n0_ n1_ n2_ n3_ n4_ n5_ n6_ n7_ n8_
            (try clear hb)
            (try clear hb2)
            (try clear hk)
            (try clear hi)
            (try clear ho0)
            obtain ⟨Ao178, co178, eo178⟩ := Kd.R_slice HO219.out
            (first | subst eo178 | (injection eo178 with f1_ f2_ f3_; have f4_ := f1_.symm; have f5_ := f3_.symm; clear f1_ f2_ f3_; subst f4_; subst f5_))
            refine hK.out _ _ ⟨(blk_cell BK207.out 0).trans rfl, (blk_cell BK207.out 1).trans rfl, (blk_cell BK207.out 2).trans rfl, (blk_cell BK188.out 0).trans rfl, (blk_cell BK188.out 1).trans rfl, (blk_cell BK188.out 2).trans rfl⟩ (fun hHeld => ?_)
            clear hK K
            refine norm_ (a' := ?_) ?_ ?_
            rotate_left
            · show Act.put _ (some 47) _ = _
              simp only [Act.put, List.setIfInBounds_toArray, List.set_cons_zero, List.set_cons_succ, i64_w, i32_w]
              rfl
            refine one_ (i := 3) (N := some 48) #[true, true, true, true, false] rfl rfl (by kernel_rfl) (by decide) (fun K hK => ?_)
            refine goes_ Try.func20 (by kernel_rfl) rfl #[.agg #[.int .i64 t202, .slice Ao30 t203.length co30, .int .i64 t206], .agg #[.int .i64 t216, .slice Ao178 t217.length co178, .int .i64 t220]] (by rfl) rfl rfl (by (try simp only [List.map_toArray, List.map_cons, List.map_nil]); first | done | rfl | (simp only [List.length_drop, List.length_take]; rfl)) ?_
            with_reducible refine (laws_eqBreaker.calls kj11 t202 _ _ t203 t206 t216 _ _ t217 t220 false _ ?side1 ?side2 ?side3 ?side4 A58.out).mono ?_
            (case side1 => repeat (first | exact (Kd.R_reads' HO_208001.out).2.2 | (with_reducible refine Kd.C_alloc ?_ _) | (with_reducible refine Kd.C_drewN ?_ _) | (with_reducible refine Kd.C_drew ?_)))
            (case side2 => exact (Kd.R_reads' HO_208001.out).2.1)
            (case side3 => repeat (first | exact (Kd.R_reads' HO219.out).2.2 | (with_reducible refine Kd.C_alloc ?_ _) | (with_reducible refine Kd.C_drewN ?_ _) | (with_reducible refine Kd.C_drew ?_)))
            (case side4 => exact (Kd.R_reads' HO219.out).2.1)
            rintro e w179 ⟨rfl, hb⟩
            refine ⟨_, rfl, ?_⟩
            have n0_ := Aside0.mk (Kd.R_below (by (with_reducible repeat (first | apply Kd.R_alloc | apply Kd.R_drewN | apply Kd.R_drew)); exact HO_202001.out) hb)
            have n1_ := Aside0.mk (Kd.R_below (by (with_reducible repeat (first | apply Kd.R_alloc | apply Kd.R_drewN | apply Kd.R_drew)); exact HO_208001.out) hb)
            have n2_ := Aside0.mk (Kd.R_below (by (with_reducible repeat (first | apply Kd.R_alloc | apply Kd.R_drewN | apply Kd.R_drew)); exact HO_215001.out) hb)
            have n3_ := Aside0.mk (Kd.R_below (by (with_reducible repeat (first | apply Kd.R_alloc | apply Kd.R_drewN | apply Kd.R_drew)); exact HO219.out) hb)
            have n4_ := Aside0.mk (blk_below (g := gb188) (o := .cells #[.int .i64 a0_0, .slice A0_1 l0_1.length c0_1, .int .i64 a0_2] 27 (0, 0)) (by (with_reducible repeat (first | refine blk_drewN ?_ _ | refine blk_drew ?_ | refine blk_alloc ?_ _)); exact BK188.out) hb)
            have n5_ := Aside0.mk (blk_below (g := gb201) (o := .cells #[.int .i64 t195, .slice Ao23 t196.length co23, .int .i64 t199] 30 (0, 0)) (by (with_reducible repeat (first | refine blk_drewN ?_ _ | refine blk_drew ?_ | refine blk_alloc ?_ _)); exact BK201.out) hb)
            have n6_ := Aside0.mk (blk_below (g := gb207) (o := .cells #[.int .i64 t202, .slice Ao30 t203.length co30, .int .i64 t206] 30 (0, 0)) (by (with_reducible repeat (first | refine blk_drewN ?_ _ | refine blk_drew ?_ | refine blk_alloc ?_ _)); exact BK207.out) hb)
            have n7_ := Aside0.mk (blk_below (g := gb214) (o := .cells #[.int .i64 t208, .slice Ao37 t209.length co37, .int .i64 t212] 30 (0, 0)) (by (with_reducible repeat (first | refine blk_drewN ?_ _ | refine blk_drew ?_ | refine blk_alloc ?_ _)); exact BK214.out) hb)
            have n8_ := Aside0.mk (below_step (by repeat (first | (with_reducible first | exact HB.out | apply below_alloc | apply pw_below_drewN | apply below_drew1 | refine below_set ?_ GE188.out | refine below_set ?_ GE201.out | refine below_set ?_ GE207.out | refine below_set ?_ GE214.out) | exact HB.out)) hb)
            clear HO_202001
            clear HO_208001
            clear HO_215001
            clear HO219
            clear BK188
            clear BK201
            clear BK207
            clear BK214
            clear HB
            have HO_202001 := n0_
            have HO_208001 := n1_
            have HO_215001 := n2_
            have HO219 := n3_
            have BK188 := n4_
            have BK201 := n5_
            have BK207 := n6_
            have BK214 := n7_
            have HB := n8_
            clear n0_ n1_ n2_ n3_ n4_ n5_ n6_ n7_ n8_
            (try clear hb)
            (try clear hb2)
            (try clear hk)
            (try clear hi)
            refine hK.out _ _ ⟨(blk_cell BK207.out 0).trans rfl, (blk_cell BK207.out 1).trans rfl, (blk_cell BK207.out 2).trans rfl, (blk_cell BK188.out 0).trans rfl, (blk_cell BK188.out 1).trans rfl, (blk_cell BK188.out 2).trans rfl⟩ (fun hHeld => ?_)
            clear hK K
            refine norm_ (a' := ?_) ?_ ?_
            rotate_left
            · show Act.put _ (some 48) _ = _
              simp only [Act.put, List.setIfInBounds_toArray, List.set_cons_zero, List.set_cons_succ, i64_w, i32_w]
              rfl
            refine pure_ (i := 4) (N := some 49) (v := ?_) (a' := ?_) #[true, true, true, true, true] rfl rfl (by kernel_rfl) (fun _ _ _ h => h) (Or.inl ⟨by rfl, ?_⟩) ?_ ?_
            rotate_left
            · intro w'
              go_simp
              with_reducible rfl
            rotate_left
            · simp only [Act.put, List.setIfInBounds_toArray, List.set_cons_zero, List.set_cons_succ, i64_w, i32_w]
              rfl
            refine done_ (by kernel_rfl) ?_
            try go_wp2
            go_ret
            exact ⟨by first | rfl | (simp [errW_none, errW_some] <;> rfl) | (simp [*, errW_none, errW_some] <;> rfl), by repeat (first | (with_reducible first | exact HB.out | apply below_alloc | apply pw_below_drewN | apply below_drew1 | refine below_set ?_ GE188.out | refine below_set ?_ GE201.out | refine below_set ?_ GE207.out | refine below_set ?_ GE214.out) | exact HB.out)⟩

end Go.Proofs.Ytjjklpiiiihmlaa.MFnExactOnDial
