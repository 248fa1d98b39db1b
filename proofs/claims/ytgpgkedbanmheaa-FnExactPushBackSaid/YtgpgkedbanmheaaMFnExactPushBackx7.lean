-- Written by a program of this session over the kit's print, with stand-ins for the functions that the print leaves; Lean checks it.
import Derived.Test.YtgpgkedbanmheaaMFnExactPushBackx0
import Derived.Test.YtgpgkedbanmheaaMFnExactPushBackx5
import Derived.Test.YtgpgkedbanmheaaMFnExactPushBackx6
import Derived.Lib.SliceRun
namespace Go.Proofs.Ytgpgkedbanmheaa.MFnExactPushBack
open Go.RowKit Go.Proofs.YtgpgkedbanmheaaW.PrintWords Go.Proofs.YtgpgkedbanmheaaW.PrintLast Go.Proofs.YtgpgkedbanmheaaW.PrintMore
attribute [local go_sem] max2_int min2_int max_two min_two max_three min_three max_four min_four   -- for this text's walks alone
set_option linter.unusedVariables false
set_option linter.unusedSimpArgs false

/-- A call through a function value. -/
theorem goesF_ {P : Program} {ops : Array Oper} {Q : Exit → Act → World → Prop} {rest : List Oper} {oi : Oper} {a : Act} {w : World} (N : Option Tmp) (hd : oi.dst = N) (hg : oi.guard = none) {f : FuncId} {fn : Func} {co : Operand} {caps : Array Value} {os_ : Array Operand} {ts : Array TypeId} (hf : P.funcs[f]? = some fn) (hname : (fn.name == "runtime.NumGoroutine") = false) (hb : fn.body.isSome = true) (args : Array Value)
    (hop : oi.op = .call { callee := .value co, args := os_, argTypes := ts }) (hco : a.eval co = .func (.func f) #[] caps) (hargs : os_.map a.eval ++ caps = args)
    (h : Calls P f args w fun e w' => ∃ v, e = .returned v ∧ wpList P ops Q rest (a.put N v) w') : wpList P ops Q (oi :: rest) a w := by
  refine wpList_plain hg fun K hK => ?_
  have he := enters_ hf hname hb args w
  have hrun : (execOp a.eval oi).run P w = .ok (.enter f args) w := by
    unfold execOp
    simp [hop, resolve, Deferred.ofValue, invoke, hco, hargs, he]
  unfold Oper.wp
  rw [hrun, Oper.upon_enter]
  refine h.mono fun e w'' hh => ?_
  obtain ⟨v, rfl, hk⟩ := hh
  subst hd
  exact hK _ _ hk

/-! ### impl_PlaceOf_1: function 60 -/
def impl_PlaceOf_1.f (a0_0 : Int) (a0_1 : Int) (a0_2 : Int) (a0_3 : Bool) (a1 : Int) : Option (Bool) := if a0_3 = true then (some (a0_0 == a1)) else (some false)
set_option maxHeartbeats 40000000 in
set_option maxRecDepth 100000 in
theorem impl_PlaceOf_1.calls (a0_0 : Int) (a0_1 : Int) (a0_2 : Int) (a0_3 : Bool) (a1 : Int) (r : Bool) (w : World) (ga : Addr) (hid0 : w.cell? ga = some (.int .i64 a1)) (h : impl_PlaceOf_1.f a0_0 a0_1 a0_2 a0_3 a1 = some r) :
    Calls Try.prog 60 #[.agg #[.int .i64 a0_0, .int .i64 a0_1, .int .i64 a0_2, .bool a0_3], .pointer (some ga)] w fun e w' => e = .returned (.bool r) ∧ Below w.heap.size w w' := by
  have HID := Aside0.mk hid0
  clear hid0
  have hu65 := Try.underlying65
  have HB := Aside0.mk (Below.refl w.heap.size w)
  have H : (if a0_3 = true then (some (a0_0 == a1)) else (some false)) = some r := h
  clear h
  by_cases c3 : a0_3 = true
  · subst c3
    have H1 : (some (a0_0 == a1)) = some r := by rw [if_pos rfl] at H; exact H
    clear H
    have H := H1
    clear H1
    obtain rfl := Option.some.inj H
    go_enter Try.func60, Try.ntmps60
    go_wp2_with (first | ((with_reducible refine gate_dst (N := 2) rfl ?_); refine box_event ?hg (N := 2) ?hd (cs := #[.int .i64 a0_0, .int .i64 a0_1, .int .i64 a0_2, .bool true]) (t := 65) ?hr ?_; (case hd => rfl); (case hg => rfl); (case hr => first | (go_simp; done) | (go_simp; rfl)); intro gb223 hg w4 hbox hb; have n0_ := Aside0.mk (below_step (be_ HB.out) hb); have n1_ := Aside0.mk (hbox); have n2_ := Aside0.mk ((by rw [hg]; exact (below_size (be_ HB.out)) : w.heap.size ≤ gb223)); have n3_ := Aside0.mk ((by rw [hg]; exact (below_size (be_ HB.out)) : w.heap.size ≤ gb223)); clear HB; have HB := n0_; have BK223 := n1_; have hidc := (HB.out.cell (World.block_lt_of_cell? w _ HID.out)).trans HID.out; have GW223 := n2_; have GE223 := n3_; clear n0_ n1_ n2_ n3_; clear hb hbox hg; obtain ⟨hcz5_0, hcz5_1, hcz5_2, hcz5_3, hfz5_0, hfz5_1, hfz5_2, hfz5_3⟩ := cz4_ BK223.out))
    go_ret
    exact ⟨by first | rfl | (simp [errW_none, errW_some] <;> rfl) | (simp [*, errW_none, errW_some] <;> rfl), be_ HB.out⟩
  · replace c3 := Bool.eq_false_iff.mpr c3
    subst c3
    have H1 : (some false) = some r := by rw [if_neg (show ¬ (false = true) by decide)] at H; exact H
    clear H
    have H := H1
    clear H1
    obtain rfl := Option.some.inj H
    go_enter Try.func60, Try.ntmps60
    go_wp2_with (first | ((with_reducible refine gate_dst (N := 2) rfl ?_); refine box_event ?hg (N := 2) ?hd (cs := #[.int .i64 a0_0, .int .i64 a0_1, .int .i64 a0_2, .bool false]) (t := 65) ?hr ?_; (case hd => rfl); (case hg => rfl); (case hr => first | (go_simp; done) | (go_simp; rfl)); intro gb223 hg w6 hbox hb; have n0_ := Aside0.mk (below_step (be_ HB.out) hb); have n1_ := Aside0.mk (hbox); have n2_ := Aside0.mk ((by rw [hg]; exact (below_size (be_ HB.out)) : w.heap.size ≤ gb223)); have n3_ := Aside0.mk ((by rw [hg]; exact (below_size (be_ HB.out)) : w.heap.size ≤ gb223)); clear HB; have HB := n0_; have BK223 := n1_; have hidc := (HB.out.cell (World.block_lt_of_cell? w _ HID.out)).trans HID.out; have GW223 := n2_; have GE223 := n3_; clear n0_ n1_ n2_ n3_; clear hb hbox hg; obtain ⟨hcz7_0, hcz7_1, hcz7_2, hcz7_3, hfz7_0, hfz7_1, hfz7_2, hfz7_3⟩ := cz4_ BK223.out))
    go_ret
    exact ⟨by first | rfl | (simp [errW_none, errW_some] <;> rfl) | (simp [*, errW_none, errW_some] <;> rfl), be_ HB.out⟩

/-! ### impl_Slot_59: function 59 -/
def impl_Slot_59.l0 : Nat → List (S65) → Int → Int → Int → Option (Int)
  | 0, _, _, _, _ => none
  | k + 1, x0, x1, x7, x8 => if x8 < x7 then (if 0 ≤ x8 then (if x8 < (x0.length : Int) then ((impl_PlaceOf_1.f ((rd_T65 x0 x8).f0) ((rd_T65 x0 x8).f1) ((rd_T65 x0 x8).f2) ((rd_T65 x0 x8).f3) x1).bind fun t225 => (if t225 = true then (some x8) else (impl_Slot_59.l0 k x0 x1 x7 (wrap64 (x8 + 1))))) else (none)) else (none)) else (some (-1))
def impl_Slot_59.f (k : Nat) (l0 : List (S65)) (a1 : Int) : Option (Int) := impl_Slot_59.l0 k l0 a1 (l0.length : Int) 0
theorem impl_Slot_59.mono_l : ∀ k, (∀ y0 y1 y2 y3, LeO (impl_Slot_59.l0 k y0 y1 y2 y3) (impl_Slot_59.l0 (k + 1) y0 y1 y2 y3))
  | 0 => fun _ _ _ _ r h => by simp [impl_Slot_59.l0] at h
  | k + 1 => by
    have ih0 := impl_Slot_59.mono_l k
    · intro y0 y1 y2 y3
      unfold impl_Slot_59.l0
      repeat' first
      | (with_reducible exact ih0 _ _ _ _)
      | (with_reducible exact LeO.refl _)
      | (with_reducible exact LeO.none _)
      | (with_reducible refine LeO.ite ?_ ?_)
      | (with_reducible refine LeO.bind ?_ (fun _ => ?_))
      | exact ih0 _ _ _ _
      | exact LeO.none _
      | refine LeO.ite ?_ ?_
      | refine LeO.bind ?_ (fun _ => ?_)
theorem impl_Slot_59.mono : ∀ a0 a1 k, LeO (impl_Slot_59.f k a0 a1) (impl_Slot_59.f (k + 1) a0 a1) := by
  intro a0 a1 k
  have ih0 := impl_Slot_59.mono_l k
  unfold impl_Slot_59.f
  repeat' first
      | (with_reducible exact ih0 _ _ _ _)
      | (with_reducible exact LeO.refl _)
      | (with_reducible exact LeO.none _)
      | (with_reducible refine LeO.ite ?_ ?_)
      | (with_reducible refine LeO.bind ?_ (fun _ => ?_))
      | exact ih0 _ _ _ _
      | exact LeO.none _
      | refine LeO.ite ?_ ?_
      | refine LeO.bind ?_ (fun _ => ?_)
set_option maxHeartbeats 40000000 in
set_option maxRecDepth 100000 in
theorem impl_Slot_59.calls (k : Nat) (A0 : Option Addr) (c0 : Nat) (l0 : List (S65)) (a1 : Int) (r : Int) (w : World) (ga : Addr) (hid0 : w.cell? ga = some (.int .i64 a1)) (hr0 : Kd.C k65 w A0 l0.length l0) (hc0 : l0.length ≤ c0) (h : impl_Slot_59.f k l0 a1 = some r) :
    Calls Try.prog 59 #[.slice A0 l0.length c0, .func (.func 60) #[] #[.pointer (some ga)]] w fun e w' => e = .returned (.int .i64 r) ∧ Below w.heap.size w w' := by
  have HID := Aside0.mk hid0
  clear hid0
  have hu65 := Try.underlying65
  have HR0 := Aside0.mk hr0
  have HC0 := Aside0.mk hc0
  clear hr0 hc0
  have HB := Aside0.mk (Below.refl w.heap.size w)
  have H : (impl_Slot_59.l0 k l0 a1 (l0.length : Int) 0) = some r := h
  clear h
  have H' := Aside0.mk H
  clear H
  go_enter Try.func59, Try.ntmps59
  go_wp2
  go_loopg [8] k (fun kq zv8 w' => ∃ (x8_1 : Int), zv8 = .int .i64 x8_1 ∧ Aside0 (impl_Slot_59.l0 kq l0 a1 (l0.length : Int) x8_1 = some r) ∧ Aside0 (kq ≤ k) ∧ Aside0 (Below w.heap.size w w'))
  case atStart => exact ⟨(0), (by first | rfl | (simp; done) | (simp [*]; done)), H', ⟨Nat.le_refl _⟩, ⟨be_ HB.out⟩⟩
  case round =>
    clear H'
    try clear p2
    obtain ⟨x8_1, rfl, HA, HK1, HB⟩ := hrel
    cases gk with
    | zero => exact absurd HA.out (by simp [impl_Slot_59.l0])
    | succ k1 =>
      have H := HA.out
      clear HA
      simp only [impl_Slot_59.l0] at H
      by_cases c3 : x8_1 < (l0.length : Int)
      · rw [if_pos c3] at H
        have c3b0 : decide (x8_1 < (l0.length : Int)) = true := decide_eq_true c3
        clear c3
        by_cases c4 : 0 ≤ x8_1
        · rw [if_pos c4] at H
          have c4b0 : decide (0 ≤ x8_1) = true := decide_eq_true c4
          clear c4
          by_cases c5 : x8_1 < (l0.length : Int)
          · rw [if_pos c5] at H
            have c5b0 : decide (x8_1 < (l0.length : Int)) = true := decide_eq_true c5
            clear c5
            replace H := Option.bind_eq_some_iff.mp H
            obtain ⟨t225, A60, H⟩ := H
            replace H : (if t225 = true then (some x8_1) else (impl_Slot_59.l0 k1 l0 a1 (l0.length : Int) (wrap64 (x8_1 + 1)))) = some r := H
            have A6 := Aside0.mk A60
            clear A60
            by_cases c7 : t225 = true
            · subst c7
              have H1 : (some x8_1) = some r := by rw [if_pos rfl] at H; exact H
              clear H
              have H := H1
              clear H1
              obtain rfl := Option.some.inj H
              have p224 : 0 ≤ (x8_1 : Int) := of_decide_eq_true (by first | (with_reducible assumption) | assumption)
              have q224 : x8_1 < (l0.length : Int) := of_decide_eq_true (by first | (with_reducible assumption) | assumption)
              obtain ⟨ad224, e224, hx224_0, hx224_1, hx224_2, hx224_3⟩ := at_T65 HR0.out x8_1 p224 q224
              cases e224
              replace hx224_0 := (HB.out.cell (World.block_lt_of_cell? w _ hx224_0)).trans hx224_0
              replace hx224_1 := (HB.out.cell (World.block_lt_of_cell? w _ hx224_1)).trans hx224_1
              replace hx224_2 := (HB.out.cell (World.block_lt_of_cell? w _ hx224_2)).trans hx224_2
              replace hx224_3 := (HB.out.cell (World.block_lt_of_cell? w _ hx224_3)).trans hx224_3
              replace p224 := eq_true p224
              replace q224 := eq_true q224
              go_wp2_with (first | ((with_reducible refine gate_dst (N := 16) rfl ?_); refine goesF_ (some 16) rfl rfl Try.func60 (by kernel_rfl) rfl #[.agg #[.int .i64 ((rd_T65 l0 x8_1).f0), .int .i64 ((rd_T65 l0 x8_1).f1), .int .i64 ((rd_T65 l0 x8_1).f2), .bool ((rd_T65 l0 x8_1).f3)], .pointer (some ga)] rfl rfl (by first | rfl | (simp only [List.map_toArray, List.map_cons, List.map_nil]; rfl)) ?_; (refine (impl_PlaceOf_1.calls ((rd_T65 l0 x8_1).f0) ((rd_T65 l0 x8_1).f1) ((rd_T65 l0 x8_1).f2) ((rd_T65 l0 x8_1).f3) a1 true _ ga ?sideid A6.out).mono ?_); (case sideid => exact (HB.out.cell (World.block_lt_of_cell? w _ HID.out)).trans HID.out); rintro e w8 ⟨rfl, hb⟩; refine ⟨_, rfl, ?_⟩; have n0_ := Aside0.mk (below_step (be_ HB.out) hb); clear HB; have HB := n0_; clear n0_; (try clear hb); (try clear hb2); (try clear hk); (try clear hi)))
              go_ret
              exact ⟨by first | rfl | (simp [errW_none, errW_some] <;> rfl) | (simp [*, errW_none, errW_some] <;> rfl), be_ HB.out⟩
            · replace c7 := Bool.eq_false_iff.mpr c7
              subst c7
              have H1 : (impl_Slot_59.l0 k1 l0 a1 (l0.length : Int) (wrap64 (x8_1 + 1))) = some r := by rw [if_neg (show ¬ (false = true) by decide)] at H; exact H
              clear H
              have H := H1
              clear H1
              have H' := Aside0.mk H
              clear H
              have p224 : 0 ≤ (x8_1 : Int) := of_decide_eq_true (by first | (with_reducible assumption) | assumption)
              have q224 : x8_1 < (l0.length : Int) := of_decide_eq_true (by first | (with_reducible assumption) | assumption)
              obtain ⟨ad224, e224, hx224_0, hx224_1, hx224_2, hx224_3⟩ := at_T65 HR0.out x8_1 p224 q224
              cases e224
              replace hx224_0 := (HB.out.cell (World.block_lt_of_cell? w _ hx224_0)).trans hx224_0
              replace hx224_1 := (HB.out.cell (World.block_lt_of_cell? w _ hx224_1)).trans hx224_1
              replace hx224_2 := (HB.out.cell (World.block_lt_of_cell? w _ hx224_2)).trans hx224_2
              replace hx224_3 := (HB.out.cell (World.block_lt_of_cell? w _ hx224_3)).trans hx224_3
              replace p224 := eq_true p224
              replace q224 := eq_true q224
              go_wp2_with (first | ((with_reducible refine gate_dst (N := 16) rfl ?_); refine goesF_ (some 16) rfl rfl Try.func60 (by kernel_rfl) rfl #[.agg #[.int .i64 ((rd_T65 l0 x8_1).f0), .int .i64 ((rd_T65 l0 x8_1).f1), .int .i64 ((rd_T65 l0 x8_1).f2), .bool ((rd_T65 l0 x8_1).f3)], .pointer (some ga)] rfl rfl (by first | rfl | (simp only [List.map_toArray, List.map_cons, List.map_nil]; rfl)) ?_; (refine (impl_PlaceOf_1.calls ((rd_T65 l0 x8_1).f0) ((rd_T65 l0 x8_1).f1) ((rd_T65 l0 x8_1).f2) ((rd_T65 l0 x8_1).f3) a1 false _ ga ?sideid A6.out).mono ?_); (case sideid => exact (HB.out.cell (World.block_lt_of_cell? w _ HID.out)).trans HID.out); rintro e w9 ⟨rfl, hb⟩; refine ⟨_, rfl, ?_⟩; have n0_ := Aside0.mk (below_step (be_ HB.out) hb); clear HB; have HB := n0_; clear n0_; (try clear hb); (try clear hb2); (try clear hk); (try clear hi)))
              go_roundg k1
              case measure => have := HK1.out; omega
              case rel => exact ⟨(wrap64 (x8_1 + 1)), (by first | rfl | (simp; done) | (simp [*]; done)), H', ⟨by have := HK1.out; omega⟩, ⟨be_ HB.out⟩⟩
          · rw [if_neg c5] at H
            exact absurd H (by simp)
        · rw [if_neg c4] at H
          exact absurd H (by simp)
      · rw [if_neg c3] at H
        have c3b0 : decide (x8_1 < (l0.length : Int)) = false := decide_eq_false c3
        clear c3
        obtain rfl := Option.some.inj H
        go_wp2
        go_ret
        exact ⟨by first | rfl | (simp [errW_none, errW_some] <;> rfl) | (simp [*, errW_none, errW_some] <;> rfl), be_ HB.out⟩

/-! ### impl_PlaceOf: function 27 -/
def impl_PlaceOf.f (k : Nat) (l0_0 : List (S65)) (a0_1 : Int) (a0_2 : Int) (a0_3 : Int) (a0_4 : Int) (a1 : Int) : Option (Int) := (impl_QueueOk.f k l0_0 a0_1 a0_2 a0_3 a0_4).bind fun t227 => (if t227 = true then ((impl_Slot_59.f k l0_0 a1).bind fun t228 => (some t228)) else (some (-1)))
theorem impl_PlaceOf.mono : ∀ a0 a1 a2 a3 a4 a5 k, LeO (impl_PlaceOf.f k a0 a1 a2 a3 a4 a5) (impl_PlaceOf.f (k + 1) a0 a1 a2 a3 a4 a5) := by
  intro a0 a1 a2 a3 a4 a5 k
  unfold impl_PlaceOf.f
  repeat' first
      | (with_reducible exact impl_QueueOk.mono _ _ _ _ _ _)
      | (with_reducible exact impl_Slot_59.mono _ _ _)
      | (with_reducible exact LeO.refl _)
      | (with_reducible exact LeO.none _)
      | (with_reducible refine LeO.ite ?_ ?_)
      | (with_reducible refine LeO.bind ?_ (fun _ => ?_))
      | exact impl_QueueOk.mono _ _ _ _ _ _
      | exact impl_Slot_59.mono _ _ _
      | exact LeO.none _
      | refine LeO.ite ?_ ?_
      | refine LeO.bind ?_ (fun _ => ?_)
set_option maxHeartbeats 40000000 in
set_option maxRecDepth 100000 in
theorem impl_PlaceOf.calls (k : Nat) (A0_0 : Option Addr) (c0_0 : Nat) (l0_0 : List (S65)) (a0_1 : Int) (a0_2 : Int) (a0_3 : Int) (a0_4 : Int) (a1 : Int) (r : Int) (w : World) (hr0_0 : Kd.C k65 w A0_0 l0_0.length l0_0) (hc0_0 : l0_0.length ≤ c0_0) (h : impl_PlaceOf.f k l0_0 a0_1 a0_2 a0_3 a0_4 a1 = some r) :
    Calls Try.prog 27 #[.agg #[.slice A0_0 l0_0.length c0_0, .int .i64 a0_1, .int .i64 a0_2, .int .i64 a0_3, .int .i64 a0_4], .int .i64 a1] w fun e w' => e = .returned (.int .i64 r) ∧ Below w.heap.size w w' := by
  have hu28 := Try.underlying28
  have HR0_0 := Aside0.mk hr0_0
  have HC0_0 := Aside0.mk hc0_0
  clear hr0_0 hc0_0
  have HB := Aside0.mk (Below.refl w.heap.size w)
  have H : ((impl_QueueOk.f k l0_0 a0_1 a0_2 a0_3 a0_4).bind fun t227 => (if t227 = true then ((impl_Slot_59.f k l0_0 a1).bind fun t228 => (some t228)) else (some (-1)))) = some r := h
  clear h
  replace H := Option.bind_eq_some_iff.mp H
  obtain ⟨t227, A30, H⟩ := H
  replace H : (if t227 = true then ((impl_Slot_59.f k l0_0 a1).bind fun t228 => (some t228)) else (some (-1))) = some r := H
  have A3 := Aside0.mk A30
  clear A30
  by_cases c4 : t227 = true
  · subst c4
    have H1 : ((impl_Slot_59.f k l0_0 a1).bind fun t228 => (some t228)) = some r := by rw [if_pos rfl] at H; exact H
    clear H
    have H := H1
    clear H1
    replace H := Option.bind_eq_some_iff.mp H
    obtain ⟨t228, A50, H⟩ := H
    replace H : (some t228) = some r := H
    have A5 := Aside0.mk A50
    clear A50
    obtain rfl := Option.some.inj H
    have hmf : ∀ (fn : Fn) (first cap : Array Value) (w : World), (Instr.makeFunc fn first cap).run Try.prog w = .ok (.func fn first cap) w := fun _ _ _ _ => rfl
    go_enter Try.func27, Try.ntmps27
    go_wp2_with (first | ((with_reducible refine gate_dst (N := 3) rfl ?_); refine box_event ?hg (N := 3) ?hd (cs := #[.int .i64 a1]) (t := 3) ?hr ?_; (case hd => rfl); (case hg => rfl); (case hr => first | (go_simp; done) | (go_simp; rfl)); intro gid hgid wid hboxid hb; have BKID := Aside0.mk hboxid; clear hboxid hgid; have m0_ := Aside0.mk (blk_below (g := gb226) (o := .cells #[.slice A0_0 l0_0.length c0_0, .int .i64 a0_1, .int .i64 a0_2, .int .i64 a0_3, .int .i64 a0_4] 28 (0, 0)) BK226.out hb); have m1_ := Aside0.mk (below_step HB.out hb); clear BK226 HB; have BK226 := m0_; have HB := m1_; clear m0_ m1_; have hcy_0 : wid.cell? ⟨gb226, 0, none⟩ = some (.slice A0_0 l0_0.length c0_0) := (blk_cell BK226.out 0).trans rfl; have hcy_1 : wid.cell? ⟨gb226, 1, none⟩ = some (.int .i64 a0_1) := (blk_cell BK226.out 1).trans rfl; have hcy_2 : wid.cell? ⟨gb226, 2, none⟩ = some (.int .i64 a0_2) := (blk_cell BK226.out 2).trans rfl; have hcy_3 : wid.cell? ⟨gb226, 3, none⟩ = some (.int .i64 a0_3) := (blk_cell BK226.out 3).trans rfl; have hcy_4 : wid.cell? ⟨gb226, 4, none⟩ = some (.int .i64 a0_4) := (blk_cell BK226.out 4).trans rfl; have hfy_0 := blk_frozen BK226.out 0; have hfy_1 := blk_frozen BK226.out 1; have hfy_2 := blk_frozen BK226.out 2; have hfy_3 := blk_frozen BK226.out 3; have hfy_4 := blk_frozen BK226.out 4; clear hb) | ((with_reducible refine gate_dst (N := 2) rfl ?_); refine box_event ?hg (N := 2) ?hd (cs := #[.slice A0_0 l0_0.length c0_0, .int .i64 a0_1, .int .i64 a0_2, .int .i64 a0_3, .int .i64 a0_4]) (t := 28) ?hr ?_; (case hd => rfl); (case hg => rfl); (case hr => first | (go_simp; done) | (go_simp; rfl)); intro gb226 hg w6 hbox hb; have n0_ := Aside0.mk (below_step (be_ HB.out) hb); have n1_ := Aside0.mk (hbox); have n2_ := Aside0.mk ((by rw [hg]; exact (below_size (be_ HB.out)) : w.heap.size ≤ gb226)); have n3_ := Aside0.mk ((by rw [hg]; exact (below_size (be_ HB.out)) : w.heap.size ≤ gb226)); clear HB; have HB := n0_; have BK226 := n1_; have GW226 := n2_; have GE226 := n3_; clear n0_ n1_ n2_ n3_; clear hb hbox hg; obtain ⟨hcz7_0, hcz7_1, hcz7_2, hcz7_3, hcz7_4, hfz7_0, hfz7_1, hfz7_2, hfz7_3, hfz7_4⟩ := cz5_ BK226.out) | ((with_reducible refine gate_callee (f := 25) rfl ?_); refine goesL_ (some 6) rfl rfl Try.func25 (by kernel_rfl) rfl #[.agg #[.slice A0_0 l0_0.length c0_0, .int .i64 a0_1, .int .i64 a0_2, .int .i64 a0_3, .int .i64 a0_4]] rfl (by (try simp only [List.map_toArray, List.map_cons, List.map_nil]); first | done | rfl | (simp only [List.length_drop, List.length_take]; rfl)) ?_; (with_reducible refine (impl_QueueOk.calls k _ _ l0_0 a0_1 a0_2 a0_3 a0_4 true _ ?side1 ?side2 A3.out).mono ?_); (case side1 => repeat (first | exact (Kd.C_below HR0_0.out HB.out) | (with_reducible refine Kd.C_alloc ?_ _) | (with_reducible refine Kd.C_drewN ?_ _) | (with_reducible refine Kd.C_drew ?_))); (case side2 => exact HC0_0.out); rintro e w8 ⟨rfl, hb⟩; refine ⟨_, rfl, ?_⟩; have m2_ := Aside0.mk (blk_below (g := gid) (o := .cells #[.int .i64 a1] 3 (0, 0)) BKID.out hb); clear BKID; have BKID := m2_; clear m2_; have n0_ := Aside0.mk (blk_below (g := gb226) (o := .cells #[.slice A0_0 l0_0.length c0_0, .int .i64 a0_1, .int .i64 a0_2, .int .i64 a0_3, .int .i64 a0_4] 28 (0, 0)) (bl_ BK226.out) hb); have n1_ := Aside0.mk (below_step (be_ HB.out) hb); clear BK226 HB; have BK226 := n0_; have HB := n1_; clear n0_ n1_; (try clear hb); (try clear hb2); (try clear hk); (try clear hi); obtain ⟨hcz9_0, hcz9_1, hcz9_2, hcz9_3, hcz9_4, hfz9_0, hfz9_1, hfz9_2, hfz9_3, hfz9_4⟩ := cz5_ BK226.out) | ((with_reducible refine gate_callee (f := 59) rfl ?_); refine goesL_ (some 11) rfl rfl Try.func59 (by kernel_rfl) rfl #[.slice A0_0 l0_0.length c0_0, .func (.func 60) #[] #[.pointer (some ⟨gid, 0, none⟩)]] rfl (by (try simp only [List.map_toArray, List.map_cons, List.map_nil]); first | done | rfl | (simp only [List.length_drop, List.length_take]; rfl)) ?_; (refine (impl_Slot_59.calls k _ _ l0_0 a1 t228 _ ⟨gid, 0, none⟩ ?sideid ?side1 ?side2 A5.out).mono ?_); (case sideid => exact (blk_cell BKID.out 0).trans rfl); (case side1 => repeat (first | exact (Kd.C_below HR0_0.out HB.out) | (with_reducible refine Kd.C_alloc ?_ _) | (with_reducible refine Kd.C_drewN ?_ _) | (with_reducible refine Kd.C_drew ?_))); (case side2 => exact HC0_0.out); rintro e w10 ⟨rfl, hb⟩; refine ⟨_, rfl, ?_⟩; have n0_ := Aside0.mk (blk_below (g := gb226) (o := .cells #[.slice A0_0 l0_0.length c0_0, .int .i64 a0_1, .int .i64 a0_2, .int .i64 a0_3, .int .i64 a0_4] 28 (0, 0)) (bl_ BK226.out) hb); have n1_ := Aside0.mk (below_step (be_ HB.out) hb); clear BK226 HB; have BK226 := n0_; have HB := n1_; clear n0_ n1_; (try clear hb); (try clear hb2); (try clear hk); (try clear hi)))
    go_ret
    exact ⟨by first | rfl | (simp [errW_none, errW_some] <;> rfl) | (simp [*, errW_none, errW_some] <;> rfl), be_ HB.out⟩
  · replace c4 := Bool.eq_false_iff.mpr c4
    subst c4
    have H1 : (some (-1)) = some r := by rw [if_neg (show ¬ (false = true) by decide)] at H; exact H
    clear H
    have H := H1
    clear H1
    obtain rfl := Option.some.inj H
    have hmf : ∀ (fn : Fn) (first cap : Array Value) (w : World), (Instr.makeFunc fn first cap).run Try.prog w = .ok (.func fn first cap) w := fun _ _ _ _ => rfl
    go_enter Try.func27, Try.ntmps27
    go_wp2_with (first | ((with_reducible refine gate_dst (N := 3) rfl ?_); refine box_event ?hg (N := 3) ?hd (cs := #[.int .i64 a1]) (t := 3) ?hr ?_; (case hd => rfl); (case hg => rfl); (case hr => first | (go_simp; done) | (go_simp; rfl)); intro gid hgid wid hboxid hb; have BKID := Aside0.mk hboxid; clear hboxid hgid; have m0_ := Aside0.mk (blk_below (g := gb226) (o := .cells #[.slice A0_0 l0_0.length c0_0, .int .i64 a0_1, .int .i64 a0_2, .int .i64 a0_3, .int .i64 a0_4] 28 (0, 0)) BK226.out hb); have m1_ := Aside0.mk (below_step HB.out hb); clear BK226 HB; have BK226 := m0_; have HB := m1_; clear m0_ m1_; have hcy_0 : wid.cell? ⟨gb226, 0, none⟩ = some (.slice A0_0 l0_0.length c0_0) := (blk_cell BK226.out 0).trans rfl; have hcy_1 : wid.cell? ⟨gb226, 1, none⟩ = some (.int .i64 a0_1) := (blk_cell BK226.out 1).trans rfl; have hcy_2 : wid.cell? ⟨gb226, 2, none⟩ = some (.int .i64 a0_2) := (blk_cell BK226.out 2).trans rfl; have hcy_3 : wid.cell? ⟨gb226, 3, none⟩ = some (.int .i64 a0_3) := (blk_cell BK226.out 3).trans rfl; have hcy_4 : wid.cell? ⟨gb226, 4, none⟩ = some (.int .i64 a0_4) := (blk_cell BK226.out 4).trans rfl; have hfy_0 := blk_frozen BK226.out 0; have hfy_1 := blk_frozen BK226.out 1; have hfy_2 := blk_frozen BK226.out 2; have hfy_3 := blk_frozen BK226.out 3; have hfy_4 := blk_frozen BK226.out 4; clear hb) | ((with_reducible refine gate_dst (N := 2) rfl ?_); refine box_event ?hg (N := 2) ?hd (cs := #[.slice A0_0 l0_0.length c0_0, .int .i64 a0_1, .int .i64 a0_2, .int .i64 a0_3, .int .i64 a0_4]) (t := 28) ?hr ?_; (case hd => rfl); (case hg => rfl); (case hr => first | (go_simp; done) | (go_simp; rfl)); intro gb226 hg w11 hbox hb; have n0_ := Aside0.mk (below_step (be_ HB.out) hb); have n1_ := Aside0.mk (hbox); have n2_ := Aside0.mk ((by rw [hg]; exact (below_size (be_ HB.out)) : w.heap.size ≤ gb226)); have n3_ := Aside0.mk ((by rw [hg]; exact (below_size (be_ HB.out)) : w.heap.size ≤ gb226)); clear HB; have HB := n0_; have BK226 := n1_; have GW226 := n2_; have GE226 := n3_; clear n0_ n1_ n2_ n3_; clear hb hbox hg; obtain ⟨hcz12_0, hcz12_1, hcz12_2, hcz12_3, hcz12_4, hfz12_0, hfz12_1, hfz12_2, hfz12_3, hfz12_4⟩ := cz5_ BK226.out) | ((with_reducible refine gate_callee (f := 25) rfl ?_); refine goesL_ (some 6) rfl rfl Try.func25 (by kernel_rfl) rfl #[.agg #[.slice A0_0 l0_0.length c0_0, .int .i64 a0_1, .int .i64 a0_2, .int .i64 a0_3, .int .i64 a0_4]] rfl (by (try simp only [List.map_toArray, List.map_cons, List.map_nil]); first | done | rfl | (simp only [List.length_drop, List.length_take]; rfl)) ?_; (with_reducible refine (impl_QueueOk.calls k _ _ l0_0 a0_1 a0_2 a0_3 a0_4 false _ ?side1 ?side2 A3.out).mono ?_); (case side1 => repeat (first | exact (Kd.C_below HR0_0.out HB.out) | (with_reducible refine Kd.C_alloc ?_ _) | (with_reducible refine Kd.C_drewN ?_ _) | (with_reducible refine Kd.C_drew ?_))); (case side2 => exact HC0_0.out); rintro e w13 ⟨rfl, hb⟩; refine ⟨_, rfl, ?_⟩; have m2_ := Aside0.mk (blk_below (g := gid) (o := .cells #[.int .i64 a1] 3 (0, 0)) BKID.out hb); clear BKID; have BKID := m2_; clear m2_; have n0_ := Aside0.mk (blk_below (g := gb226) (o := .cells #[.slice A0_0 l0_0.length c0_0, .int .i64 a0_1, .int .i64 a0_2, .int .i64 a0_3, .int .i64 a0_4] 28 (0, 0)) (bl_ BK226.out) hb); have n1_ := Aside0.mk (below_step (be_ HB.out) hb); clear BK226 HB; have BK226 := n0_; have HB := n1_; clear n0_ n1_; (try clear hb); (try clear hb2); (try clear hk); (try clear hi)))
    go_ret
    exact ⟨by first | rfl | (simp [errW_none, errW_some] <;> rfl) | (simp [*, errW_none, errW_some] <;> rfl), be_ HB.out⟩

/-! ### impl_Slot_67: function 67 -/
def impl_Slot_67.f (l0 : List (S65)) : Option ((List (S65))) := (some (([] : List (S65)) : List (S65))).bind fun y229 => (if y229.length + l0.length < 4398046511104 then (some (y229 ++ l0)) else (none))
set_option maxHeartbeats 40000000 in
set_option maxRecDepth 100000 in
theorem impl_Slot_67.calls (A0 : Option Addr) (c0 : Nat) (l0 : List (S65)) (r : List (S65)) (w : World) (hr0 : Kd.C k65 w A0 l0.length l0) (hc0 : l0.length ≤ c0) (h : impl_Slot_67.f l0 = some r) :
    Calls Try.prog 67 #[.slice A0 l0.length c0] w fun e w' => ∃ v0_ : Value, e = .returned (v0_) ∧ Kd.R k65 65 w' w.heap.size (fun _ => True) v0_ r ∧ Below w.heap.size w w' := by
  rcases A0 with _ | A0
  · obtain rfl : l0 = [] := by
      rcases Nat.eq_zero_or_pos l0.length with h0 | h0
      · exact List.eq_nil_of_length_eq_zero h0
      · obtain ⟨_, e, _⟩ := hr0.2.2 h0
        cases e
    obtain rfl : [] = r := by simpa [impl_Slot_67.f] using h
    have qT : ∀ (w : World) (a : Option Addr) (n c n' c' : Nat), (binOp .eql 26 (.slice a n c) (.slice none n' c')).run Try.prog w = .ok (.bool a.isNone) w := fun w a n c n' c' => Lib.run_eql_slice_nil w _ _ a n c n' c' Try.underlying26
    go_enter Try.func67, Try.ntmps67
    go_wp2
    go_ret
    exact ⟨_, rfl, Kd.R_nil _ _ _ _ _, Below.refl _ _⟩
  have qT : ∀ (w : World) (a : Option Addr) (n c n' c' : Nat), (binOp .eql 26 (.slice a n c) (.slice none n' c')).run Try.prog w = .ok (.bool a.isNone) w := fun w a n c n' c' => Lib.run_eql_slice_nil w _ _ a n c n' c' Try.underlying26
  have HR0 := Aside0.mk hr0
  have HC0 := Aside0.mk hc0
  clear hr0 hc0
  have HB := Aside0.mk (Below.refl w.heap.size w)
  have H : ((some (([] : List (S65)) : List (S65))).bind fun y229 => (if y229.length + l0.length < 4398046511104 then (some (y229 ++ l0)) else (none))) = some r := h
  clear h
  obtain ⟨y229, hy229⟩ : ∃ y_ : List (S65), y_ = (([] : List (S65))) := ⟨_, rfl⟩
  replace H : (if y229.length + l0.length < 4398046511104 then (some (y229 ++ l0)) else (none)) = some r := by first | (rw [hy229]; with_reducible exact H) | (have H2_ := (Option.bind_some _ _).symm.trans H; rw [hy229]; with_reducible exact H2_) | (have H2_ := (Option.bind_some _ _).symm.trans H; with_reducible exact H2_) | with_reducible exact H | (rw [hy229]; exact H) | exact H
  have Ny229 := Aside0.mk hy229
  clear hy229
  by_cases c2 : y229.length + l0.length < 4398046511104
  · rw [if_pos c2] at H
    have LMc2 := Aside0.mk c2
    clear c2
    obtain ⟨y232, hy232⟩ : ∃ y_ : List (S65), y_ = (y229 ++ l0) := ⟨_, rfl⟩
    replace H : (some y232) = some r := by first | (rw [hy232]; with_reducible exact H) | (have H2_ := (Option.bind_some _ _).symm.trans H; rw [hy232]; with_reducible exact H2_) | (have H2_ := (Option.bind_some _ _).symm.trans H; with_reducible exact H2_) | with_reducible exact H | (rw [hy232]; exact H) | exact H
    have Ny232 := Aside0.mk hy232
    clear hy232
    obtain rfl := Option.some.inj H
    go_enter Try.func67, Try.ntmps67
    go_wp2_with (first | ((with_reducible refine gate_dst (N := 5) rfl ?_); refine Kd.R_lit k65 _ 65 ?hg (N := 5) ?hd (xs := ([] : List (S65))) (inner := []) (ok := fun _ => True) (okp := fun _ => True) ?hr ?hp (fun _ hk => hk) trivial (Below.refl _ _) (Nat.le_refl _) (by simp) ?_; (case hd => rfl); (case hg => rfl); (case hr => first | (go_simp; done) | (go_simp; rfl)); (case hp => exact (Reps.none _ _)); intro v230 w3 ho4 hb hg_ hnew_; clear hg_ hnew_; (first | rw [← Ny229.out] at ho4 | (simp only [Int.reduceToNat] at ho4; rw [← Ny229.out] at ho4)); have n0_ := Aside0.mk (Kd.R_lower ho4 (below_size (be_ HB.out))); have n1_ := Aside0.mk (below_step (be_ HB.out) hb); clear HB; have HO231 := n0_; have HB := n1_; clear n0_ n1_; clear hb ho4) | ((with_reducible refine gate_builtin (b := .append) (xs := #[.tmp 5, .tmp 6]) rfl ?_); at_builtin; refine Kd.R_append_rows k65 (w0 := w) w.heap.size rfl (.tmp 5) (.tmp 6) 26 65 (.agg #[(.int .i64 0), (.int .i64 0), (.int .i64 0), (.bool false)]) 32 rfl Try.underlying26 info65 rfl (by decide) (by omega) v230 y229 l0 _ _ _ (fun _ => True) (fun _ => False) rfl rfl ?aO ?aR (fun _ _ h => h) (fun _ h => h.elim) ?aF ?aB ?aS ?aL ?_; (case aR => repeat (first | exact (Kd.C_below HR0.out HB.out) | (with_reducible refine Kd.C_alloc ?_ _) | (with_reducible refine Kd.C_drewN ?_ _) | (with_reducible refine Kd.C_drew ?_))); (case aB => exact (be_ HB.out)); (case aF => exact (fun _ _ => trivial)); (case aO => exact (ro_ HO231.out)); (case aS => exact (below_size (be_ HB.out))); (case aL => have := LMc2.out; omega); intro v233 w5 ho hb hg hat; rw [← Ny232.out] at ho; have n0_ := Aside0.mk (hb); have n1_ := Aside0.mk (ho); clear HB HO231; have HB := n0_; have HO234 := n1_; clear n0_ n1_; clear ho hb hg hat))
    go_ret
    exact ⟨_, by first | rfl | (simp [errW_none, errW_some] <;> rfl) | (simp [*, errW_none, errW_some] <;> rfl), by (with_reducible repeat (first | apply Kd.R_alloc | apply Kd.R_drewN | apply Kd.R_drew)); exact HO234.out, be_ HB.out⟩
  · rw [if_neg c2] at H
    exact absurd H (by simp)

/-! ### impl_ownQueue: function 50 -/
def impl_ownQueue.f (l0_0 : List (S65)) (a0_1 : Int) (a0_2 : Int) (a0_3 : Int) (a0_4 : Int) : Option ((List (S65)) × Int × Int × Int × Int) := (impl_Slot_67.f l0_0).bind fun t237 => (some (t237, a0_1, a0_2, a0_3, a0_4))
set_option maxHeartbeats 40000000 in
set_option maxRecDepth 100000 in
theorem impl_ownQueue.calls (A0_0 : Option Addr) (c0_0 : Nat) (l0_0 : List (S65)) (a0_1 : Int) (a0_2 : Int) (a0_3 : Int) (a0_4 : Int) (r1 : List (S65)) (r2 : Int) (r3 : Int) (r4 : Int) (r5 : Int) (w : World) (hr0_0 : Kd.C k65 w A0_0 l0_0.length l0_0) (hc0_0 : l0_0.length ≤ c0_0) (h : impl_ownQueue.f l0_0 a0_1 a0_2 a0_3 a0_4 = some (r1, r2, r3, r4, r5)) :
    Calls Try.prog 50 #[.agg #[.slice A0_0 l0_0.length c0_0, .int .i64 a0_1, .int .i64 a0_2, .int .i64 a0_3, .int .i64 a0_4]] w fun e w' => ∃ v0_ : Value, e = .returned (.agg #[v0_, .int .i64 r2, .int .i64 r3, .int .i64 r4, .int .i64 r5]) ∧ Kd.R k65 65 w' w.heap.size (fun _ => True) v0_ r1 ∧ Below w.heap.size w w' := by
  have hu28 := Try.underlying28
  have HR0_0 := Aside0.mk hr0_0
  have HC0_0 := Aside0.mk hc0_0
  clear hr0_0 hc0_0
  have HB := Aside0.mk (Below.refl w.heap.size w)
  have H : ((impl_Slot_67.f l0_0).bind fun t237 => (some (t237, a0_1, a0_2, a0_3, a0_4))) = some (r1, r2, r3, r4, r5) := h
  clear h
  replace H := Option.bind_eq_some_iff.mp H
  obtain ⟨t237, A20, H⟩ := H
  replace H : (some (t237, a0_1, a0_2, a0_3, a0_4)) = some (r1, r2, r3, r4, r5) := H
  have A2 := Aside0.mk A20
  clear A20
  simp only [Option.some.injEq, Prod.mk.injEq] at H
  obtain ⟨rfl, rfl, rfl, rfl, rfl⟩ := H
  go_enter Try.func50, Try.ntmps50
  go_wp2_with (first | ((with_reducible refine gate_dst (N := 1) rfl ?_); refine box_event ?hg (N := 1) ?hd (cs := #[.slice A0_0 l0_0.length c0_0, .int .i64 a0_1, .int .i64 a0_2, .int .i64 a0_3, .int .i64 a0_4]) (t := 28) ?hr ?_; (case hd => rfl); (case hg => rfl); (case hr => first | (go_simp; done) | (go_simp; rfl)); intro gb235 hg w3 hbox hb; have n0_ := Aside0.mk (below_step (be_ HB.out) hb); have n1_ := Aside0.mk (hbox); have n2_ := Aside0.mk ((by rw [hg]; exact (below_size (be_ HB.out)) : w.heap.size ≤ gb235)); have n3_ := Aside0.mk ((by rw [hg]; exact (below_size (be_ HB.out)) : w.heap.size ≤ gb235)); clear HB; have HB := n0_; have BK235 := n1_; have GW235 := n2_; have GE235 := n3_; clear n0_ n1_ n2_ n3_; clear hb hbox hg) | ((with_reducible refine gate_dst (N := 2) rfl ?_); refine box_event ?hg (N := 2) ?hd (cs := #[.slice none 0 0, .int .i64 0, .int .i64 0, .int .i64 0, .int .i64 0]) (t := 28) ?hr ?_; (case hd => rfl); (case hg => rfl); (case hr => first | (go_simp; done) | (go_simp; rfl)); intro gb236 hg w4 hbox hb; have n0_ := Aside0.mk (blk_below (g := gb235) (o := .cells #[.slice A0_0 l0_0.length c0_0, .int .i64 a0_1, .int .i64 a0_2, .int .i64 a0_3, .int .i64 a0_4] 28 (0, 0)) (bl_ BK235.out) hb); have n1_ := Aside0.mk (below_step (be_ HB.out) hb); have n2_ := Aside0.mk (hbox); have n3_ := Aside0.mk ((by rw [hg]; exact (below_size (be_ HB.out)) : w.heap.size ≤ gb236)); have n4_ := Aside0.mk ((by rw [hg]; exact (below_size (be_ HB.out)) : w.heap.size ≤ gb236)); have n5_ := Aside0.mk ((by rw [hg]; exact Nat.ne_of_lt (blk_lt (g := gb235) (o := .cells #[.slice A0_0 l0_0.length c0_0, .int .i64 a0_1, .int .i64 a0_2, .int .i64 a0_3, .int .i64 a0_4] 28 (0, 0)) (bl_ BK235.out)) : gb235 ≠ gb236)); have n6_ := Aside0.mk ((by rw [hg]; exact Nat.ne_of_gt (blk_lt (g := gb235) (o := .cells #[.slice A0_0 l0_0.length c0_0, .int .i64 a0_1, .int .i64 a0_2, .int .i64 a0_3, .int .i64 a0_4] 28 (0, 0)) (bl_ BK235.out)) : gb236 ≠ gb235)); clear BK235 HB; have BK235 := n0_; have HB := n1_; have BK236 := n2_; have GW236 := n3_; have GE236 := n4_; have NB235_236 := n5_; have NB236_235 := n6_; clear n0_ n1_ n2_ n3_ n4_ n5_ n6_; clear hb hbox hg; have hnb5 := NB235_236.out; have hnc5 := NB236_235.out; obtain ⟨hcz6_0, hcz6_1, hcz6_2, hcz6_3, hcz6_4, hfz6_0, hfz6_1, hfz6_2, hfz6_3, hfz6_4⟩ := cz5_ BK235.out) | ((with_reducible refine gate_callee (f := 67) rfl ?_); refine goesL_ (some 5) rfl rfl Try.func67 (by kernel_rfl) rfl #[.slice A0_0 l0_0.length c0_0] rfl (by (try simp only [List.map_toArray, List.map_cons, List.map_nil]); first | done | rfl | (simp only [List.length_drop, List.length_take]; rfl)) ?_; (with_reducible refine (impl_Slot_67.calls _ _ l0_0 t237 _ ?side1 ?side2 A2.out).mono ?_); (case side1 => repeat (first | exact (Kd.C_below HR0_0.out HB.out) | (with_reducible refine Kd.C_alloc ?_ _) | (with_reducible refine Kd.C_drewN ?_ _) | (with_reducible refine Kd.C_drew ?_))); (case side2 => exact HC0_0.out); rintro e w7 ⟨v238, rfl, ho0, hb⟩; refine ⟨_, rfl, ?_⟩; have n0_ := Aside0.mk (Kd.R_lower ho0 (below_size (be_ HB.out))); have n1_ := Aside0.mk (blk_below (g := gb235) (o := .cells #[.slice A0_0 l0_0.length c0_0, .int .i64 a0_1, .int .i64 a0_2, .int .i64 a0_3, .int .i64 a0_4] 28 (0, 0)) (bl_ BK235.out) hb); have n2_ := Aside0.mk (blk_below (g := gb236) (o := .cells #[.slice none 0 0, .int .i64 0, .int .i64 0, .int .i64 0, .int .i64 0] 28 (0, 0)) (bl_ BK236.out) hb); have n3_ := Aside0.mk (below_step (be_ HB.out) hb); clear BK235 BK236 HB; have HO239 := n0_; have BK235 := n1_; have BK236 := n2_; have HB := n3_; clear n0_ n1_ n2_ n3_; (try clear hb); (try clear hb2); (try clear hk); (try clear hi); (try clear ho0); obtain ⟨Ao8, co8, eo8⟩ := Kd.R_slice HO239.out; subst eo8; obtain ⟨hcz9_0, hcz9_1, hcz9_2, hcz9_3, hcz9_4, hfz9_0, hfz9_1, hfz9_2, hfz9_3, hfz9_4⟩ := cz5_ BK235.out; obtain ⟨hcz10_0, hcz10_1, hcz10_2, hcz10_3, hcz10_4, hfz10_0, hfz10_1, hfz10_2, hfz10_3, hfz10_4⟩ := cz5_ BK236.out))
  refine bodyPost_ret (results_cell_row rfl _ _ gb236 28 #[.slice Ao8 t237.length co8, .int .i64 a0_1, .int .i64 a0_2, .int .i64 a0_3, .int .i64 a0_4] (0, 0) _ rfl (by refine bl_ ?_; refine blk_put (cs := #[.slice Ao8 t237.length co8, .int .i64 a0_1, .int .i64 a0_2, .int .i64 a0_3, .int .i64 0]) ?_ 4 _ rfl; refine bl_ ?_; refine blk_put (cs := #[.slice Ao8 t237.length co8, .int .i64 a0_1, .int .i64 a0_2, .int .i64 0, .int .i64 0]) ?_ 3 _ rfl; refine bl_ ?_; refine blk_put (cs := #[.slice Ao8 t237.length co8, .int .i64 a0_1, .int .i64 0, .int .i64 0, .int .i64 0]) ?_ 2 _ rfl; refine bl_ ?_; refine blk_put (cs := #[.slice Ao8 t237.length co8, .int .i64 0, .int .i64 0, .int .i64 0, .int .i64 0]) ?_ 1 _ rfl; refine bl_ ?_; refine blk_put (cs := #[.slice none 0 0, .int .i64 0, .int .i64 0, .int .i64 0, .int .i64 0]) ?_ 0 _ rfl; refine bl_ ?_; refine blk_far ?_ NB236_235.out _; refine bl_ ?_; exact BK236.out) Try.underlying28 rfl (by kernel_rfl)) rfl ?_
  exact ⟨_, by first | rfl | (simp [errW_none, errW_some] <;> rfl) | (simp [*, errW_none, errW_some] <;> rfl), by (with_reducible repeat (first | apply Kd.R_alloc | apply Kd.R_drewN | apply Kd.R_drew)); exact Kd.R_mono (Kd.R_far (p := ⟨gb236, 4, none⟩) (Kd.R_far (p := ⟨gb236, 3, none⟩) (Kd.R_far (p := ⟨gb236, 2, none⟩) (Kd.R_far (p := ⟨gb236, 1, none⟩) (Kd.R_far (p := ⟨gb236, 0, none⟩) (Kd.R_far (p := ⟨gb235, 0, none⟩) (Kd.R_types (Kd.R_types HO239.out BK235.out (by decide)) BK236.out (by decide)) (fun _ hk => hk.1.2) (.slice Ao8 t237.length co8)) (fun _ hk => hk.2) (.slice Ao8 t237.length co8)) (fun _ hk => hk.2) (.int .i64 a0_1)) (fun _ hk => hk.2) (.int .i64 a0_2)) (fun _ hk => hk.2) (.int .i64 a0_3)) (fun _ hk => hk.2) (.int .i64 a0_4)) (fun _ hk => trivial), be_ HB.out⟩

/-! ### impl_PushBack: function 21 -/
def impl_PushBack.j0 : Nat → Int → Bool → List (S65) → Int → Int → Int → Int → List (S65) → Int → Int → Int → Int → Option ((List (S65)) × Int × Int × Int × Int × Int)
  | 0, _, _, _, _, _, _, _, _, _, _, _, _ => none
  | k + 1, x1, x28, x241000, x241001, x241002, x241003, x241004, x250000, x250001, x250002, x250003, x250004 => if x28 = true then (some (x250000, x250001, x250002, x250003, x250004, (-1))) else (if 0 ≤ x241003 then (if x241003 < (x241000.length : Int) then (if x241003 < (x250000.length : Int) then ((some (x250000.set (x241003 : Int).toNat (⟨x1, x241002, (-1), true⟩ : S65) : List (S65))).bind fun y254 => (if x241002 ≥ 0 then (if 0 ≤ x241002 then (if x241002 < (x250000.length : Int) then (some ((y254.set (x241002 : Int).toNat (⟨(rd_T65 y254 x241002).f0, (rd_T65 y254 x241002).f1, x241003, (rd_T65 y254 x241002).f3⟩ : S65)), x250001, x241003, (rd_T65 x241000 x241003).f2, wrap64 (x250004 + 1), x241003)) else (none)) else (none)) else (some (y254, x241003, x241003, (rd_T65 x241000 x241003).f2, wrap64 (x250004 + 1), x241003)))) else (none)) else (none)) else (none))
def impl_PushBack.f (k : Nat) (l0_0 : List (S65)) (a0_1 : Int) (a0_2 : Int) (a0_3 : Int) (a0_4 : Int) (a1 : Int) : Option ((List (S65)) × Int × Int × Int × Int × Int) := (impl_ownQueue.f l0_0 a0_1 a0_2 a0_3 a0_4).bind fun bt242 => ((impl_QueueOk.f k l0_0 a0_1 a0_2 a0_3 a0_4).bind fun t250 => (if t250 = true then (if a0_3 < 0 then (impl_PushBack.j0 k a1 true l0_0 a0_1 a0_2 a0_3 a0_4 bt242.1 bt242.2.1 bt242.2.2.1 bt242.2.2.2.1 bt242.2.2.2.2) else ((impl_isId.f a1).bind fun t251 => (if t251 = true then ((impl_PlaceOf.f k l0_0 a0_1 a0_2 a0_3 a0_4 a1).bind fun t252 => (impl_PushBack.j0 k a1 (decide (t252 ≥ 0)) l0_0 a0_1 a0_2 a0_3 a0_4 bt242.1 bt242.2.1 bt242.2.2.1 bt242.2.2.2.1 bt242.2.2.2.2)) else (impl_PushBack.j0 k a1 true l0_0 a0_1 a0_2 a0_3 a0_4 bt242.1 bt242.2.1 bt242.2.2.1 bt242.2.2.2.1 bt242.2.2.2.2)))) else (impl_PushBack.j0 k a1 true l0_0 a0_1 a0_2 a0_3 a0_4 bt242.1 bt242.2.1 bt242.2.2.1 bt242.2.2.2.1 bt242.2.2.2.2)))
theorem impl_PushBack.mono_l : ∀ k, (∀ y0 y1 y2 y3 y4 y5 y6 y7 y8 y9 y10 y11, LeO (impl_PushBack.j0 k y0 y1 y2 y3 y4 y5 y6 y7 y8 y9 y10 y11) (impl_PushBack.j0 (k + 1) y0 y1 y2 y3 y4 y5 y6 y7 y8 y9 y10 y11))
  | 0 => fun _ _ _ _ _ _ _ _ _ _ _ _ r h => by simp [impl_PushBack.j0] at h
  | k + 1 => by
    have ih0 := impl_PushBack.mono_l k
    · intro y0 y1 y2 y3 y4 y5 y6 y7 y8 y9 y10 y11
      unfold impl_PushBack.j0
      repeat' first
      | (with_reducible exact ih0 _ _ _ _ _ _ _ _ _ _ _ _)
      | (with_reducible exact impl_PlaceOf.mono _ _ _ _ _ _ _)
      | (with_reducible exact impl_QueueOk.mono _ _ _ _ _ _)
      | (with_reducible exact LeO.refl _)
      | (with_reducible exact LeO.none _)
      | (with_reducible refine LeO.ite ?_ ?_)
      | (with_reducible refine LeO.bind ?_ (fun _ => ?_))
      | exact ih0 _ _ _ _ _ _ _ _ _ _ _ _
      | exact impl_PlaceOf.mono _ _ _ _ _ _ _
      | exact impl_QueueOk.mono _ _ _ _ _ _
      | exact LeO.none _
      | refine LeO.ite ?_ ?_
      | refine LeO.bind ?_ (fun _ => ?_)
theorem impl_PushBack.mono : ∀ a0 a1 a2 a3 a4 a5 k, LeO (impl_PushBack.f k a0 a1 a2 a3 a4 a5) (impl_PushBack.f (k + 1) a0 a1 a2 a3 a4 a5) := by
  intro a0 a1 a2 a3 a4 a5 k
  have ih0 := impl_PushBack.mono_l k
  unfold impl_PushBack.f
  repeat' first
      | (with_reducible exact ih0 _ _ _ _ _ _ _ _ _ _ _ _)
      | (with_reducible exact impl_PlaceOf.mono _ _ _ _ _ _ _)
      | (with_reducible exact impl_QueueOk.mono _ _ _ _ _ _)
      | (with_reducible exact LeO.refl _)
      | (with_reducible exact LeO.none _)
      | (with_reducible refine LeO.ite ?_ ?_)
      | (with_reducible refine LeO.bind ?_ (fun _ => ?_))
      | exact ih0 _ _ _ _ _ _ _ _ _ _ _ _
      | exact impl_PlaceOf.mono _ _ _ _ _ _ _
      | exact impl_QueueOk.mono _ _ _ _ _ _
      | exact LeO.none _
      | refine LeO.ite ?_ ?_
      | refine LeO.bind ?_ (fun _ => ?_)
set_option maxHeartbeats 40000000 in
set_option maxRecDepth 100000 in
theorem impl_PushBack.calls (k : Nat) (A0_0 : Option Addr) (c0_0 : Nat) (l0_0 : List (S65)) (a0_1 : Int) (a0_2 : Int) (a0_3 : Int) (a0_4 : Int) (a1 : Int) (r1 : List (S65)) (r2 : Int) (r3 : Int) (r4 : Int) (r5 : Int) (r6 : Int) (w : World) (hr0_0 : Kd.C k65 w A0_0 l0_0.length l0_0) (hc0_0 : l0_0.length ≤ c0_0) (h : impl_PushBack.f k l0_0 a0_1 a0_2 a0_3 a0_4 a1 = some (r1, r2, r3, r4, r5, r6)) :
    Calls Try.prog 21 #[.agg #[.slice A0_0 l0_0.length c0_0, .int .i64 a0_1, .int .i64 a0_2, .int .i64 a0_3, .int .i64 a0_4], .int .i64 a1] w fun e w' => ∃ v0_ : Value, e = .returned (.tuple #[.agg #[v0_, .int .i64 r2, .int .i64 r3, .int .i64 r4, .int .i64 r5], .int .i64 r6]) ∧ Kd.R k65 65 w' w.heap.size (fun _ => True) v0_ r1 ∧ Below w.heap.size w w' := by
  have hu28 := Try.underlying28
  have hu65 := Try.underlying65
  have HR0_0 := Aside0.mk hr0_0
  have HC0_0 := Aside0.mk hc0_0
  clear hr0_0 hc0_0
  have HB := Aside0.mk (Below.refl w.heap.size w)
  have H : ((impl_ownQueue.f l0_0 a0_1 a0_2 a0_3 a0_4).bind fun bt242 => ((impl_QueueOk.f k l0_0 a0_1 a0_2 a0_3 a0_4).bind fun t250 => (if t250 = true then (if a0_3 < 0 then (impl_PushBack.j0 k a1 true l0_0 a0_1 a0_2 a0_3 a0_4 bt242.1 bt242.2.1 bt242.2.2.1 bt242.2.2.2.1 bt242.2.2.2.2) else ((impl_isId.f a1).bind fun t251 => (if t251 = true then ((impl_PlaceOf.f k l0_0 a0_1 a0_2 a0_3 a0_4 a1).bind fun t252 => (impl_PushBack.j0 k a1 (decide (t252 ≥ 0)) l0_0 a0_1 a0_2 a0_3 a0_4 bt242.1 bt242.2.1 bt242.2.2.1 bt242.2.2.2.1 bt242.2.2.2.2)) else (impl_PushBack.j0 k a1 true l0_0 a0_1 a0_2 a0_3 a0_4 bt242.1 bt242.2.1 bt242.2.2.1 bt242.2.2.2.1 bt242.2.2.2.2)))) else (impl_PushBack.j0 k a1 true l0_0 a0_1 a0_2 a0_3 a0_4 bt242.1 bt242.2.1 bt242.2.2.1 bt242.2.2.2.1 bt242.2.2.2.2)))) = some (r1, r2, r3, r4, r5, r6) := h
  clear h
  replace H := Option.bind_eq_some_iff.mp H
  obtain ⟨⟨t242, t245, t246, t247, t248⟩, A30, H⟩ := H
  replace H : ((impl_QueueOk.f k l0_0 a0_1 a0_2 a0_3 a0_4).bind fun t250 => (if t250 = true then (if a0_3 < 0 then (impl_PushBack.j0 k a1 true l0_0 a0_1 a0_2 a0_3 a0_4 t242 t245 t246 t247 t248) else ((impl_isId.f a1).bind fun t251 => (if t251 = true then ((impl_PlaceOf.f k l0_0 a0_1 a0_2 a0_3 a0_4 a1).bind fun t252 => (impl_PushBack.j0 k a1 (decide (t252 ≥ 0)) l0_0 a0_1 a0_2 a0_3 a0_4 t242 t245 t246 t247 t248)) else (impl_PushBack.j0 k a1 true l0_0 a0_1 a0_2 a0_3 a0_4 t242 t245 t246 t247 t248)))) else (impl_PushBack.j0 k a1 true l0_0 a0_1 a0_2 a0_3 a0_4 t242 t245 t246 t247 t248))) = some (r1, r2, r3, r4, r5, r6) := H
  have A3 := Aside0.mk A30
  clear A30
  have HC4 := Aside0.mk H
  clear H
  go_enter Try.func21, Try.ntmps21
  go_upto_region 2 with (first | ((with_reducible refine gate_dst (N := 2) rfl ?_); refine box_event ?hg (N := 2) ?hd (cs := #[.slice A0_0 l0_0.length c0_0, .int .i64 a0_1, .int .i64 a0_2, .int .i64 a0_3, .int .i64 a0_4]) (t := 28) ?hr ?_; (case hd => rfl); (case hg => rfl); (case hr => first | (go_simp; done) | (go_simp; rfl)); intro gb240 hg w5 hbox hb; have n0_ := Aside0.mk (below_step (be_ HB.out) hb); have n1_ := Aside0.mk (hbox); have n2_ := Aside0.mk ((by rw [hg]; exact (below_size (be_ HB.out)) : w.heap.size ≤ gb240)); have n3_ := Aside0.mk ((by rw [hg]; exact (below_size (be_ HB.out)) : w.heap.size ≤ gb240)); clear HB; have HB := n0_; have BK240 := n1_; have GW240 := n2_; have GE240 := n3_; clear n0_ n1_ n2_ n3_; clear hb hbox hg) | ((with_reducible refine gate_dst (N := 4) rfl ?_); refine box_event ?hg (N := 4) ?hd (cs := #[.slice none 0 0, .int .i64 0, .int .i64 0, .int .i64 0, .int .i64 0]) (t := 28) ?hr ?_; (case hd => rfl); (case hg => rfl); (case hr => first | (go_simp; done) | (go_simp; rfl)); intro gb241 hg w6 hbox hb; have n0_ := Aside0.mk (blk_below (g := gb240) (o := .cells #[.slice A0_0 l0_0.length c0_0, .int .i64 a0_1, .int .i64 a0_2, .int .i64 a0_3, .int .i64 a0_4] 28 (0, 0)) (bl_ BK240.out) hb); have n1_ := Aside0.mk (below_step (be_ HB.out) hb); have n2_ := Aside0.mk (hbox); have n3_ := Aside0.mk ((by rw [hg]; exact (below_size (be_ HB.out)) : w.heap.size ≤ gb241)); have n4_ := Aside0.mk ((by rw [hg]; exact (below_size (be_ HB.out)) : w.heap.size ≤ gb241)); have n5_ := Aside0.mk ((by rw [hg]; exact Nat.ne_of_lt (blk_lt (g := gb240) (o := .cells #[.slice A0_0 l0_0.length c0_0, .int .i64 a0_1, .int .i64 a0_2, .int .i64 a0_3, .int .i64 a0_4] 28 (0, 0)) (bl_ BK240.out)) : gb240 ≠ gb241)); have n6_ := Aside0.mk ((by rw [hg]; exact Nat.ne_of_gt (blk_lt (g := gb240) (o := .cells #[.slice A0_0 l0_0.length c0_0, .int .i64 a0_1, .int .i64 a0_2, .int .i64 a0_3, .int .i64 a0_4] 28 (0, 0)) (bl_ BK240.out)) : gb241 ≠ gb240)); clear BK240 HB; have BK240 := n0_; have HB := n1_; have BK241 := n2_; have GW241 := n3_; have GE241 := n4_; have NB240_241 := n5_; have NB241_240 := n6_; clear n0_ n1_ n2_ n3_ n4_ n5_ n6_; clear hb hbox hg; have hnb7 := NB240_241.out; have hnc7 := NB241_240.out; obtain ⟨hcz8_0, hcz8_1, hcz8_2, hcz8_3, hcz8_4, hfz8_0, hfz8_1, hfz8_2, hfz8_3, hfz8_4⟩ := cz5_ BK240.out) | ((with_reducible refine gate_callee (f := 50) rfl ?_); refine goesL_ (some 9) rfl rfl Try.func50 (by kernel_rfl) rfl #[.agg #[.slice A0_0 l0_0.length c0_0, .int .i64 a0_1, .int .i64 a0_2, .int .i64 a0_3, .int .i64 a0_4]] rfl (by (try simp only [List.map_toArray, List.map_cons, List.map_nil]); first | done | rfl | (simp only [List.length_drop, List.length_take]; rfl)) ?_; (with_reducible refine (impl_ownQueue.calls _ _ l0_0 a0_1 a0_2 a0_3 a0_4 t242 t245 t246 t247 t248 _ ?side1 ?side2 A3.out).mono ?_); (case side1 => repeat (first | exact (Kd.C_below HR0_0.out HB.out) | (with_reducible refine Kd.C_alloc ?_ _) | (with_reducible refine Kd.C_drewN ?_ _) | (with_reducible refine Kd.C_drew ?_))); (case side2 => exact HC0_0.out); rintro e w9 ⟨v243, rfl, ho0, hb⟩; refine ⟨_, rfl, ?_⟩; have n0_ := Aside0.mk (Kd.R_lower ho0 (below_size (be_ HB.out))); have n1_ := Aside0.mk (blk_below (g := gb240) (o := .cells #[.slice A0_0 l0_0.length c0_0, .int .i64 a0_1, .int .i64 a0_2, .int .i64 a0_3, .int .i64 a0_4] 28 (0, 0)) (bl_ BK240.out) hb); have n2_ := Aside0.mk (blk_below (g := gb241) (o := .cells #[.slice none 0 0, .int .i64 0, .int .i64 0, .int .i64 0, .int .i64 0] 28 (0, 0)) (bl_ BK241.out) hb); have n3_ := Aside0.mk (below_step (be_ HB.out) hb); clear BK240 BK241 HB; have HO244 := n0_; have BK240 := n1_; have BK241 := n2_; have HB := n3_; clear n0_ n1_ n2_ n3_; (try clear hb); (try clear hb2); (try clear hk); (try clear hi); (try clear ho0)) | ((with_reducible refine gate_dst (N := 6) rfl ?_); refine box_event ?hg (N := 6) ?hd (cs := #[.slice none 0 0, .int .i64 0, .int .i64 0, .int .i64 0, .int .i64 0]) (t := 28) ?hr ?_; (case hd => rfl); (case hg => rfl); (case hr => first | (go_simp; done) | (go_simp; rfl)); intro gb249 hg w10 hbox hb; have n0_ := Aside0.mk (Kd.R_below (ro_ HO244.out) hb); have n1_ := Aside0.mk (blk_below (g := gb240) (o := .cells #[.slice A0_0 l0_0.length c0_0, .int .i64 a0_1, .int .i64 a0_2, .int .i64 a0_3, .int .i64 a0_4] 28 (0, 0)) (bl_ BK240.out) hb); have n2_ := Aside0.mk (blk_below (g := gb241) (o := .cells #[.slice none 0 0, .int .i64 0, .int .i64 0, .int .i64 0, .int .i64 0] 28 (0, 0)) (bl_ BK241.out) hb); have n3_ := Aside0.mk (below_step (be_ HB.out) hb); have n4_ := Aside0.mk (hbox); have n5_ := Aside0.mk ((by rw [hg]; exact (below_size (be_ HB.out)) : w.heap.size ≤ gb249)); have n6_ := Aside0.mk ((by rw [hg]; exact (below_size (be_ HB.out)) : w.heap.size ≤ gb249)); have n7_ := Aside0.mk ((by rw [hg]; exact Nat.ne_of_lt (blk_lt (g := gb240) (o := .cells #[.slice A0_0 l0_0.length c0_0, .int .i64 a0_1, .int .i64 a0_2, .int .i64 a0_3, .int .i64 a0_4] 28 (0, 0)) (bl_ BK240.out)) : gb240 ≠ gb249)); have n8_ := Aside0.mk ((by rw [hg]; exact Nat.ne_of_gt (blk_lt (g := gb240) (o := .cells #[.slice A0_0 l0_0.length c0_0, .int .i64 a0_1, .int .i64 a0_2, .int .i64 a0_3, .int .i64 a0_4] 28 (0, 0)) (bl_ BK240.out)) : gb249 ≠ gb240)); have n9_ := Aside0.mk ((by rw [hg]; exact Nat.ne_of_lt (blk_lt (g := gb241) (o := .cells #[.slice none 0 0, .int .i64 0, .int .i64 0, .int .i64 0, .int .i64 0] 28 (0, 0)) (bl_ BK241.out)) : gb241 ≠ gb249)); have n10_ := Aside0.mk ((by rw [hg]; exact Nat.ne_of_gt (blk_lt (g := gb241) (o := .cells #[.slice none 0 0, .int .i64 0, .int .i64 0, .int .i64 0, .int .i64 0] 28 (0, 0)) (bl_ BK241.out)) : gb249 ≠ gb241)); clear HO244 BK240 BK241 HB; have HO244 := n0_; have BK240 := n1_; have BK241 := n2_; have HB := n3_; have BK249 := n4_; have GW249 := n5_; have GE249 := n6_; have NB240_249 := n7_; have NB249_240 := n8_; have NB241_249 := n9_; have NB249_241 := n10_; clear n0_ n1_ n2_ n3_ n4_ n5_ n6_ n7_ n8_ n9_ n10_; clear hb hbox hg; obtain ⟨Ao11, co11, eo11⟩ := Kd.R_slice HO244.out; subst eo11; have hnb12 := NB249_240.out; have hnc12 := NB240_249.out; have hnb13 := NB249_241.out; have hnc13 := NB241_249.out; obtain ⟨hcz14_0, hcz14_1, hcz14_2, hcz14_3, hcz14_4, hfz14_0, hfz14_1, hfz14_2, hfz14_3, hfz14_4⟩ := cz5_ BK249.out))
  (try simp only [Act.put, List.setIfInBounds_toArray, List.set_cons_zero, List.set_cons_succ])
  go_cut [28] (fun zv28 wc => ∃ (kq : Nat) (x28_3 : Bool), zv28 = .bool x28_3 ∧ Aside0 (impl_PushBack.j0 kq a1 x28_3 l0_0 a0_1 a0_2 a0_3 a0_4 t242 t245 t246 t247 t248 = some (r1, r2, r3, r4, r5, r6)) ∧ Aside0 (kq ≤ k) ∧ Aside0 (Kd.R k65 65 wc w.heap.size (fun _ => True) (.slice Ao11 t242.length co11) t242) ∧ Aside0 (wc.heap[gb240]? = some (.cells #[(.slice A0_0 l0_0.length c0_0), .int .i64 a0_1, .int .i64 a0_2, .int .i64 a0_3, .int .i64 a0_4] 28 (0, 0))) ∧ Aside0 (wc.heap[gb241]? = some (.cells #[(.slice none 0 0), .int .i64 0, .int .i64 0, .int .i64 0, .int .i64 0] 28 (0, 0))) ∧ Aside0 (wc.heap[gb249]? = some (.cells #[(.slice Ao11 t242.length co11), .int .i64 t245, .int .i64 t246, .int .i64 t247, .int .i64 t248] 28 (0, 0))) ∧ Aside0 (Below w.heap.size w wc))
  case first =>
    have H := HC4.out
    clear HC4
    replace H := Option.bind_eq_some_iff.mp H
    obtain ⟨t250, A150, H⟩ := H
    replace H : (if t250 = true then (if a0_3 < 0 then (impl_PushBack.j0 k a1 true l0_0 a0_1 a0_2 a0_3 a0_4 t242 t245 t246 t247 t248) else ((impl_isId.f a1).bind fun t251 => (if t251 = true then ((impl_PlaceOf.f k l0_0 a0_1 a0_2 a0_3 a0_4 a1).bind fun t252 => (impl_PushBack.j0 k a1 (decide (t252 ≥ 0)) l0_0 a0_1 a0_2 a0_3 a0_4 t242 t245 t246 t247 t248)) else (impl_PushBack.j0 k a1 true l0_0 a0_1 a0_2 a0_3 a0_4 t242 t245 t246 t247 t248)))) else (impl_PushBack.j0 k a1 true l0_0 a0_1 a0_2 a0_3 a0_4 t242 t245 t246 t247 t248)) = some (r1, r2, r3, r4, r5, r6) := H
    have A15 := Aside0.mk A150
    clear A150
    by_cases c16 : t250 = true
    · subst c16
      have H1 : (if a0_3 < 0 then (impl_PushBack.j0 k a1 true l0_0 a0_1 a0_2 a0_3 a0_4 t242 t245 t246 t247 t248) else ((impl_isId.f a1).bind fun t251 => (if t251 = true then ((impl_PlaceOf.f k l0_0 a0_1 a0_2 a0_3 a0_4 a1).bind fun t252 => (impl_PushBack.j0 k a1 (decide (t252 ≥ 0)) l0_0 a0_1 a0_2 a0_3 a0_4 t242 t245 t246 t247 t248)) else (impl_PushBack.j0 k a1 true l0_0 a0_1 a0_2 a0_3 a0_4 t242 t245 t246 t247 t248)))) = some (r1, r2, r3, r4, r5, r6) := by rw [if_pos rfl] at H; exact H
      clear H
      have H := H1
      clear H1
      by_cases c17 : a0_3 < 0
      · rw [if_pos c17] at H
        have c17b0 : decide (a0_3 < 0) = true := decide_eq_true c17
        clear c17
        (first | rw [c17b0] | (simp only [i64_w, i32_w]; rw [c17b0]) | skip)
        have H' := Aside0.mk H
        clear H
        have hnb18 := NB240_241.out
        have hnc18 := NB241_240.out
        have hnb19 := NB240_249.out
        have hnc19 := NB249_240.out
        have hcz20_0 : w10.cell? ⟨gb240, 0, none⟩ = some (.slice A0_0 l0_0.length c0_0) := (blk_cell BK240.out 0).trans rfl
        have hcz20_1 : w10.cell? ⟨gb240, 1, none⟩ = some (.int .i64 a0_1) := (blk_cell BK240.out 1).trans rfl
        have hcz20_2 : w10.cell? ⟨gb240, 2, none⟩ = some (.int .i64 a0_2) := (blk_cell BK240.out 2).trans rfl
        have hcz20_3 : w10.cell? ⟨gb240, 3, none⟩ = some (.int .i64 a0_3) := (blk_cell BK240.out 3).trans rfl
        have hcz20_4 : w10.cell? ⟨gb240, 4, none⟩ = some (.int .i64 a0_4) := (blk_cell BK240.out 4).trans rfl
        have hfz20_0 := blk_frozen BK240.out 0
        have hfz20_1 := blk_frozen BK240.out 1
        have hfz20_2 := blk_frozen BK240.out 2
        have hfz20_3 := blk_frozen BK240.out 3
        have hfz20_4 := blk_frozen BK240.out 4
        go_wp2_with (first | ((with_reducible refine gate_callee (f := 25) rfl ?_); refine goesL_ (some 11) rfl rfl Try.func25 (by kernel_rfl) rfl #[.agg #[.slice A0_0 l0_0.length c0_0, .int .i64 a0_1, .int .i64 a0_2, .int .i64 a0_3, .int .i64 a0_4]] rfl (by (try simp only [List.map_toArray, List.map_cons, List.map_nil]); first | done | rfl | (simp only [List.length_drop, List.length_take]; rfl)) ?_; (with_reducible refine (impl_QueueOk.calls k _ _ l0_0 a0_1 a0_2 a0_3 a0_4 true _ ?side1 ?side2 A15.out).mono ?_); (case side1 => exact Kd.C_below HR0_0.out (be_ HB.out)); (case side2 => exact HC0_0.out); rintro e w21 ⟨rfl, hb⟩; refine ⟨_, rfl, ?_⟩; have n0_ := Aside0.mk (Kd.R_below (by (with_reducible repeat (first | apply Kd.R_alloc | apply Kd.R_drewN | apply Kd.R_drew)); exact (Kd.R_mono (Kd.R_far (p := ⟨gb249, 4, none⟩) (Kd.R_far (p := ⟨gb249, 3, none⟩) (Kd.R_far (p := ⟨gb249, 2, none⟩) (Kd.R_far (p := ⟨gb249, 1, none⟩) (Kd.R_far (p := ⟨gb249, 0, none⟩) (Kd.R_types HO244.out BK249.out (by decide)) (fun _ hk => hk.2) (.slice Ao11 t242.length co11)) (fun _ hk => hk.2) (.int .i64 t245)) (fun _ hk => hk.2) (.int .i64 t246)) (fun _ hk => hk.2) (.int .i64 t247)) (fun _ hk => hk.2) (.int .i64 t248)) (fun _ h_ => h_.1))) hb); have n1_ := Aside0.mk (blk_below (g := gb240) (o := .cells #[.slice A0_0 l0_0.length c0_0, .int .i64 a0_1, .int .i64 a0_2, .int .i64 a0_3, .int .i64 a0_4] 28 (0, 0)) (by refine bl_ ?_; refine blk_far ?_ NB240_249.out _; refine bl_ ?_; refine blk_far ?_ NB240_249.out _; refine bl_ ?_; refine blk_far ?_ NB240_249.out _; refine bl_ ?_; refine blk_far ?_ NB240_249.out _; refine bl_ ?_; refine blk_far ?_ NB240_249.out _; refine bl_ ?_; exact BK240.out) hb); have n2_ := Aside0.mk (blk_below (g := gb241) (o := .cells #[.slice none 0 0, .int .i64 0, .int .i64 0, .int .i64 0, .int .i64 0] 28 (0, 0)) (by refine bl_ ?_; refine blk_far ?_ NB241_249.out _; refine bl_ ?_; refine blk_far ?_ NB241_249.out _; refine bl_ ?_; refine blk_far ?_ NB241_249.out _; refine bl_ ?_; refine blk_far ?_ NB241_249.out _; refine bl_ ?_; refine blk_far ?_ NB241_249.out _; refine bl_ ?_; exact BK241.out) hb); have n3_ := Aside0.mk (blk_below (g := gb249) (o := .cells #[.slice Ao11 t242.length co11, .int .i64 t245, .int .i64 t246, .int .i64 t247, .int .i64 t248] 28 (0, 0)) (by refine bl_ ?_; refine blk_put (cs := #[.slice Ao11 t242.length co11, .int .i64 t245, .int .i64 t246, .int .i64 t247, .int .i64 0]) ?_ 4 _ rfl; refine bl_ ?_; refine blk_put (cs := #[.slice Ao11 t242.length co11, .int .i64 t245, .int .i64 t246, .int .i64 0, .int .i64 0]) ?_ 3 _ rfl; refine bl_ ?_; refine blk_put (cs := #[.slice Ao11 t242.length co11, .int .i64 t245, .int .i64 0, .int .i64 0, .int .i64 0]) ?_ 2 _ rfl; refine bl_ ?_; refine blk_put (cs := #[.slice Ao11 t242.length co11, .int .i64 0, .int .i64 0, .int .i64 0, .int .i64 0]) ?_ 1 _ rfl; refine bl_ ?_; refine blk_put (cs := #[.slice none 0 0, .int .i64 0, .int .i64 0, .int .i64 0, .int .i64 0]) ?_ 0 _ rfl; refine bl_ ?_; exact BK249.out) hb); have n4_ := Aside0.mk (below_step (be_ HB.out) hb); clear HO244 BK240 BK241 BK249 HB; have HO244 := n0_; have BK240 := n1_; have BK241 := n2_; have BK249 := n3_; have HB := n4_; clear n0_ n1_ n2_ n3_ n4_; (try clear hb); (try clear hb2); (try clear hk); (try clear hi); obtain ⟨hcz22_0, hcz22_1, hcz22_2, hcz22_3, hcz22_4, hfz22_0, hfz22_1, hfz22_2, hfz22_3, hfz22_4⟩ := cz5_ BK240.out))
        go_meet
        case rel => exact ⟨_, (true), (by first | rfl | (simp; done) | (simp [*]; done)), H', ⟨by first | omega | exact Nat.le_refl _⟩, ⟨by (with_reducible repeat (first | apply Kd.R_alloc | apply Kd.R_drewN | apply Kd.R_drew)); exact HO244.out⟩, ⟨by refine bl_ ?_; exact BK240.out⟩, ⟨by refine bl_ ?_; exact BK241.out⟩, ⟨by refine bl_ ?_; exact BK249.out⟩, ⟨be_ HB.out⟩⟩
      · rw [if_neg c17] at H
        have c17b0 : decide (a0_3 < 0) = false := decide_eq_false c17
        clear c17
        (first | rw [c17b0] | (simp only [i64_w, i32_w]; rw [c17b0]) | skip)
        replace H := Option.bind_eq_some_iff.mp H
        obtain ⟨t251, A230, H⟩ := H
        replace H : (if t251 = true then ((impl_PlaceOf.f k l0_0 a0_1 a0_2 a0_3 a0_4 a1).bind fun t252 => (impl_PushBack.j0 k a1 (decide (t252 ≥ 0)) l0_0 a0_1 a0_2 a0_3 a0_4 t242 t245 t246 t247 t248)) else (impl_PushBack.j0 k a1 true l0_0 a0_1 a0_2 a0_3 a0_4 t242 t245 t246 t247 t248)) = some (r1, r2, r3, r4, r5, r6) := H
        have A23 := Aside0.mk A230
        clear A230
        by_cases c24 : t251 = true
        · subst c24
          have H1 : ((impl_PlaceOf.f k l0_0 a0_1 a0_2 a0_3 a0_4 a1).bind fun t252 => (impl_PushBack.j0 k a1 (decide (t252 ≥ 0)) l0_0 a0_1 a0_2 a0_3 a0_4 t242 t245 t246 t247 t248)) = some (r1, r2, r3, r4, r5, r6) := by rw [if_pos rfl] at H; exact H
          clear H
          have H := H1
          clear H1
          replace H := Option.bind_eq_some_iff.mp H
          obtain ⟨t252, A250, H⟩ := H
          replace H : (impl_PushBack.j0 k a1 (decide (t252 ≥ 0)) l0_0 a0_1 a0_2 a0_3 a0_4 t242 t245 t246 t247 t248) = some (r1, r2, r3, r4, r5, r6) := H
          have A25 := Aside0.mk A250
          clear A250
          have H' := Aside0.mk H
          clear H
          have hnb26 := NB240_241.out
          have hnc26 := NB241_240.out
          have hnb27 := NB240_249.out
          have hnc27 := NB249_240.out
          have hcz28_0 : w10.cell? ⟨gb240, 0, none⟩ = some (.slice A0_0 l0_0.length c0_0) := (blk_cell BK240.out 0).trans rfl
          have hcz28_1 : w10.cell? ⟨gb240, 1, none⟩ = some (.int .i64 a0_1) := (blk_cell BK240.out 1).trans rfl
          have hcz28_2 : w10.cell? ⟨gb240, 2, none⟩ = some (.int .i64 a0_2) := (blk_cell BK240.out 2).trans rfl
          have hcz28_3 : w10.cell? ⟨gb240, 3, none⟩ = some (.int .i64 a0_3) := (blk_cell BK240.out 3).trans rfl
          have hcz28_4 : w10.cell? ⟨gb240, 4, none⟩ = some (.int .i64 a0_4) := (blk_cell BK240.out 4).trans rfl
          have hfz28_0 := blk_frozen BK240.out 0
          have hfz28_1 := blk_frozen BK240.out 1
          have hfz28_2 := blk_frozen BK240.out 2
          have hfz28_3 := blk_frozen BK240.out 3
          have hfz28_4 := blk_frozen BK240.out 4
          go_wp2_with (first | ((with_reducible refine gate_callee (f := 25) rfl ?_); refine goesL_ (some 11) rfl rfl Try.func25 (by kernel_rfl) rfl #[.agg #[.slice A0_0 l0_0.length c0_0, .int .i64 a0_1, .int .i64 a0_2, .int .i64 a0_3, .int .i64 a0_4]] rfl (by (try simp only [List.map_toArray, List.map_cons, List.map_nil]); first | done | rfl | (simp only [List.length_drop, List.length_take]; rfl)) ?_; (with_reducible refine (impl_QueueOk.calls k _ _ l0_0 a0_1 a0_2 a0_3 a0_4 true _ ?side1 ?side2 A15.out).mono ?_); (case side1 => exact Kd.C_below HR0_0.out (be_ HB.out)); (case side2 => exact HC0_0.out); rintro e w29 ⟨rfl, hb⟩; refine ⟨_, rfl, ?_⟩; have n0_ := Aside0.mk (Kd.R_below (by (with_reducible repeat (first | apply Kd.R_alloc | apply Kd.R_drewN | apply Kd.R_drew)); exact (Kd.R_mono (Kd.R_far (p := ⟨gb249, 4, none⟩) (Kd.R_far (p := ⟨gb249, 3, none⟩) (Kd.R_far (p := ⟨gb249, 2, none⟩) (Kd.R_far (p := ⟨gb249, 1, none⟩) (Kd.R_far (p := ⟨gb249, 0, none⟩) (Kd.R_types HO244.out BK249.out (by decide)) (fun _ hk => hk.2) (.slice Ao11 t242.length co11)) (fun _ hk => hk.2) (.int .i64 t245)) (fun _ hk => hk.2) (.int .i64 t246)) (fun _ hk => hk.2) (.int .i64 t247)) (fun _ hk => hk.2) (.int .i64 t248)) (fun _ h_ => h_.1))) hb); have n1_ := Aside0.mk (blk_below (g := gb240) (o := .cells #[.slice A0_0 l0_0.length c0_0, .int .i64 a0_1, .int .i64 a0_2, .int .i64 a0_3, .int .i64 a0_4] 28 (0, 0)) (by refine bl_ ?_; refine blk_far ?_ NB240_249.out _; refine bl_ ?_; refine blk_far ?_ NB240_249.out _; refine bl_ ?_; refine blk_far ?_ NB240_249.out _; refine bl_ ?_; refine blk_far ?_ NB240_249.out _; refine bl_ ?_; refine blk_far ?_ NB240_249.out _; refine bl_ ?_; exact BK240.out) hb); have n2_ := Aside0.mk (blk_below (g := gb241) (o := .cells #[.slice none 0 0, .int .i64 0, .int .i64 0, .int .i64 0, .int .i64 0] 28 (0, 0)) (by refine bl_ ?_; refine blk_far ?_ NB241_249.out _; refine bl_ ?_; refine blk_far ?_ NB241_249.out _; refine bl_ ?_; refine blk_far ?_ NB241_249.out _; refine bl_ ?_; refine blk_far ?_ NB241_249.out _; refine bl_ ?_; refine blk_far ?_ NB241_249.out _; refine bl_ ?_; exact BK241.out) hb); have n3_ := Aside0.mk (blk_below (g := gb249) (o := .cells #[.slice Ao11 t242.length co11, .int .i64 t245, .int .i64 t246, .int .i64 t247, .int .i64 t248] 28 (0, 0)) (by refine bl_ ?_; refine blk_put (cs := #[.slice Ao11 t242.length co11, .int .i64 t245, .int .i64 t246, .int .i64 t247, .int .i64 0]) ?_ 4 _ rfl; refine bl_ ?_; refine blk_put (cs := #[.slice Ao11 t242.length co11, .int .i64 t245, .int .i64 t246, .int .i64 0, .int .i64 0]) ?_ 3 _ rfl; refine bl_ ?_; refine blk_put (cs := #[.slice Ao11 t242.length co11, .int .i64 t245, .int .i64 0, .int .i64 0, .int .i64 0]) ?_ 2 _ rfl; refine bl_ ?_; refine blk_put (cs := #[.slice Ao11 t242.length co11, .int .i64 0, .int .i64 0, .int .i64 0, .int .i64 0]) ?_ 1 _ rfl; refine bl_ ?_; refine blk_put (cs := #[.slice none 0 0, .int .i64 0, .int .i64 0, .int .i64 0, .int .i64 0]) ?_ 0 _ rfl; refine bl_ ?_; exact BK249.out) hb); have n4_ := Aside0.mk (below_step (be_ HB.out) hb); clear HO244 BK240 BK241 BK249 HB; have HO244 := n0_; have BK240 := n1_; have BK241 := n2_; have BK249 := n3_; have HB := n4_; clear n0_ n1_ n2_ n3_ n4_; (try clear hb); (try clear hb2); (try clear hk); (try clear hi); obtain ⟨hcz30_0, hcz30_1, hcz30_2, hcz30_3, hcz30_4, hfz30_0, hfz30_1, hfz30_2, hfz30_3, hfz30_4⟩ := cz5_ BK240.out) | (go_at_call 55; (with_reducible refine (impl_isId.calls a1 true _ A23.out).mono ?_); rintro e w' ⟨rfl, ⟨nd, rfl⟩⟩) | (go_at_call 27; (with_reducible refine (impl_PlaceOf.calls k _ _ l0_0 a0_1 a0_2 a0_3 a0_4 a1 t252 _ ?side1 ?side2 A25.out).mono ?_); (case side1 => repeat (first | exact (Kd.C_below HR0_0.out (be_ HB.out)) | (with_reducible refine Kd.C_alloc ?_ _) | (with_reducible refine Kd.C_drewN ?_ _) | (with_reducible refine Kd.C_drew ?_))); (case side2 => exact HC0_0.out); rintro e w31 ⟨rfl, hb⟩; have n0_ := Aside0.mk (Kd.R_below (ro_ HO244.out) hb); have n1_ := Aside0.mk (blk_below (g := gb240) (o := .cells #[.slice A0_0 l0_0.length c0_0, .int .i64 a0_1, .int .i64 a0_2, .int .i64 a0_3, .int .i64 a0_4] 28 (0, 0)) (bl_ BK240.out) hb); have n2_ := Aside0.mk (blk_below (g := gb241) (o := .cells #[.slice none 0 0, .int .i64 0, .int .i64 0, .int .i64 0, .int .i64 0] 28 (0, 0)) (bl_ BK241.out) hb); have n3_ := Aside0.mk (blk_below (g := gb249) (o := .cells #[.slice Ao11 t242.length co11, .int .i64 t245, .int .i64 t246, .int .i64 t247, .int .i64 t248] 28 (0, 0)) (bl_ BK249.out) hb); have n4_ := Aside0.mk (below_step (be_ HB.out) hb); clear HO244 BK240 BK241 BK249 HB; have HO244 := n0_; have BK240 := n1_; have BK241 := n2_; have BK249 := n3_; have HB := n4_; clear n0_ n1_ n2_ n3_ n4_; (try clear hb); (try clear hb2); (try clear hk); (try clear hi)))
          go_meet
          case rel => exact ⟨_, (decide (t252 ≥ 0)), (by first | rfl | (simp; done) | (simp [*]; done)), H', ⟨by first | omega | exact Nat.le_refl _⟩, ⟨by (with_reducible repeat (first | apply Kd.R_alloc | apply Kd.R_drewN | apply Kd.R_drew)); exact HO244.out⟩, ⟨by refine bl_ ?_; exact BK240.out⟩, ⟨by refine bl_ ?_; exact BK241.out⟩, ⟨by refine bl_ ?_; exact BK249.out⟩, ⟨be_ HB.out⟩⟩
        · replace c24 := Bool.eq_false_iff.mpr c24
          subst c24
          have H1 : (impl_PushBack.j0 k a1 true l0_0 a0_1 a0_2 a0_3 a0_4 t242 t245 t246 t247 t248) = some (r1, r2, r3, r4, r5, r6) := by rw [if_neg (show ¬ (false = true) by decide)] at H; exact H
          clear H
          have H := H1
          clear H1
          have H' := Aside0.mk H
          clear H
          have hnb32 := NB240_241.out
          have hnc32 := NB241_240.out
          have hnb33 := NB240_249.out
          have hnc33 := NB249_240.out
          have hcz34_0 : w10.cell? ⟨gb240, 0, none⟩ = some (.slice A0_0 l0_0.length c0_0) := (blk_cell BK240.out 0).trans rfl
          have hcz34_1 : w10.cell? ⟨gb240, 1, none⟩ = some (.int .i64 a0_1) := (blk_cell BK240.out 1).trans rfl
          have hcz34_2 : w10.cell? ⟨gb240, 2, none⟩ = some (.int .i64 a0_2) := (blk_cell BK240.out 2).trans rfl
          have hcz34_3 : w10.cell? ⟨gb240, 3, none⟩ = some (.int .i64 a0_3) := (blk_cell BK240.out 3).trans rfl
          have hcz34_4 : w10.cell? ⟨gb240, 4, none⟩ = some (.int .i64 a0_4) := (blk_cell BK240.out 4).trans rfl
          have hfz34_0 := blk_frozen BK240.out 0
          have hfz34_1 := blk_frozen BK240.out 1
          have hfz34_2 := blk_frozen BK240.out 2
          have hfz34_3 := blk_frozen BK240.out 3
          have hfz34_4 := blk_frozen BK240.out 4
          go_wp2_with (first | ((with_reducible refine gate_callee (f := 25) rfl ?_); refine goesL_ (some 11) rfl rfl Try.func25 (by kernel_rfl) rfl #[.agg #[.slice A0_0 l0_0.length c0_0, .int .i64 a0_1, .int .i64 a0_2, .int .i64 a0_3, .int .i64 a0_4]] rfl (by (try simp only [List.map_toArray, List.map_cons, List.map_nil]); first | done | rfl | (simp only [List.length_drop, List.length_take]; rfl)) ?_; (with_reducible refine (impl_QueueOk.calls k _ _ l0_0 a0_1 a0_2 a0_3 a0_4 true _ ?side1 ?side2 A15.out).mono ?_); (case side1 => exact Kd.C_below HR0_0.out (be_ HB.out)); (case side2 => exact HC0_0.out); rintro e w35 ⟨rfl, hb⟩; refine ⟨_, rfl, ?_⟩; have n0_ := Aside0.mk (Kd.R_below (by (with_reducible repeat (first | apply Kd.R_alloc | apply Kd.R_drewN | apply Kd.R_drew)); exact (Kd.R_mono (Kd.R_far (p := ⟨gb249, 4, none⟩) (Kd.R_far (p := ⟨gb249, 3, none⟩) (Kd.R_far (p := ⟨gb249, 2, none⟩) (Kd.R_far (p := ⟨gb249, 1, none⟩) (Kd.R_far (p := ⟨gb249, 0, none⟩) (Kd.R_types HO244.out BK249.out (by decide)) (fun _ hk => hk.2) (.slice Ao11 t242.length co11)) (fun _ hk => hk.2) (.int .i64 t245)) (fun _ hk => hk.2) (.int .i64 t246)) (fun _ hk => hk.2) (.int .i64 t247)) (fun _ hk => hk.2) (.int .i64 t248)) (fun _ h_ => h_.1))) hb); have n1_ := Aside0.mk (blk_below (g := gb240) (o := .cells #[.slice A0_0 l0_0.length c0_0, .int .i64 a0_1, .int .i64 a0_2, .int .i64 a0_3, .int .i64 a0_4] 28 (0, 0)) (by refine bl_ ?_; refine blk_far ?_ NB240_249.out _; refine bl_ ?_; refine blk_far ?_ NB240_249.out _; refine bl_ ?_; refine blk_far ?_ NB240_249.out _; refine bl_ ?_; refine blk_far ?_ NB240_249.out _; refine bl_ ?_; refine blk_far ?_ NB240_249.out _; refine bl_ ?_; exact BK240.out) hb); have n2_ := Aside0.mk (blk_below (g := gb241) (o := .cells #[.slice none 0 0, .int .i64 0, .int .i64 0, .int .i64 0, .int .i64 0] 28 (0, 0)) (by refine bl_ ?_; refine blk_far ?_ NB241_249.out _; refine bl_ ?_; refine blk_far ?_ NB241_249.out _; refine bl_ ?_; refine blk_far ?_ NB241_249.out _; refine bl_ ?_; refine blk_far ?_ NB241_249.out _; refine bl_ ?_; refine blk_far ?_ NB241_249.out _; refine bl_ ?_; exact BK241.out) hb); have n3_ := Aside0.mk (blk_below (g := gb249) (o := .cells #[.slice Ao11 t242.length co11, .int .i64 t245, .int .i64 t246, .int .i64 t247, .int .i64 t248] 28 (0, 0)) (by refine bl_ ?_; refine blk_put (cs := #[.slice Ao11 t242.length co11, .int .i64 t245, .int .i64 t246, .int .i64 t247, .int .i64 0]) ?_ 4 _ rfl; refine bl_ ?_; refine blk_put (cs := #[.slice Ao11 t242.length co11, .int .i64 t245, .int .i64 t246, .int .i64 0, .int .i64 0]) ?_ 3 _ rfl; refine bl_ ?_; refine blk_put (cs := #[.slice Ao11 t242.length co11, .int .i64 t245, .int .i64 0, .int .i64 0, .int .i64 0]) ?_ 2 _ rfl; refine bl_ ?_; refine blk_put (cs := #[.slice Ao11 t242.length co11, .int .i64 0, .int .i64 0, .int .i64 0, .int .i64 0]) ?_ 1 _ rfl; refine bl_ ?_; refine blk_put (cs := #[.slice none 0 0, .int .i64 0, .int .i64 0, .int .i64 0, .int .i64 0]) ?_ 0 _ rfl; refine bl_ ?_; exact BK249.out) hb); have n4_ := Aside0.mk (below_step (be_ HB.out) hb); clear HO244 BK240 BK241 BK249 HB; have HO244 := n0_; have BK240 := n1_; have BK241 := n2_; have BK249 := n3_; have HB := n4_; clear n0_ n1_ n2_ n3_ n4_; (try clear hb); (try clear hb2); (try clear hk); (try clear hi); obtain ⟨hcz36_0, hcz36_1, hcz36_2, hcz36_3, hcz36_4, hfz36_0, hfz36_1, hfz36_2, hfz36_3, hfz36_4⟩ := cz5_ BK240.out) | (go_at_call 55; (with_reducible refine (impl_isId.calls a1 false _ A23.out).mono ?_); rintro e w' ⟨rfl, ⟨nd, rfl⟩⟩))
          go_meet
          case rel => exact ⟨_, (true), (by first | rfl | (simp; done) | (simp [*]; done)), H', ⟨by first | omega | exact Nat.le_refl _⟩, ⟨by (with_reducible repeat (first | apply Kd.R_alloc | apply Kd.R_drewN | apply Kd.R_drew)); exact HO244.out⟩, ⟨by refine bl_ ?_; exact BK240.out⟩, ⟨by refine bl_ ?_; exact BK241.out⟩, ⟨by refine bl_ ?_; exact BK249.out⟩, ⟨be_ HB.out⟩⟩
    · replace c16 := Bool.eq_false_iff.mpr c16
      subst c16
      have H1 : (impl_PushBack.j0 k a1 true l0_0 a0_1 a0_2 a0_3 a0_4 t242 t245 t246 t247 t248) = some (r1, r2, r3, r4, r5, r6) := by rw [if_neg (show ¬ (false = true) by decide)] at H; exact H
      clear H
      have H := H1
      clear H1
      have H' := Aside0.mk H
      clear H
      have hnb37 := NB240_241.out
      have hnc37 := NB241_240.out
      have hnb38 := NB240_249.out
      have hnc38 := NB249_240.out
      have hcz39_0 : w10.cell? ⟨gb240, 0, none⟩ = some (.slice A0_0 l0_0.length c0_0) := (blk_cell BK240.out 0).trans rfl
      have hcz39_1 : w10.cell? ⟨gb240, 1, none⟩ = some (.int .i64 a0_1) := (blk_cell BK240.out 1).trans rfl
      have hcz39_2 : w10.cell? ⟨gb240, 2, none⟩ = some (.int .i64 a0_2) := (blk_cell BK240.out 2).trans rfl
      have hcz39_3 : w10.cell? ⟨gb240, 3, none⟩ = some (.int .i64 a0_3) := (blk_cell BK240.out 3).trans rfl
      have hcz39_4 : w10.cell? ⟨gb240, 4, none⟩ = some (.int .i64 a0_4) := (blk_cell BK240.out 4).trans rfl
      have hfz39_0 := blk_frozen BK240.out 0
      have hfz39_1 := blk_frozen BK240.out 1
      have hfz39_2 := blk_frozen BK240.out 2
      have hfz39_3 := blk_frozen BK240.out 3
      have hfz39_4 := blk_frozen BK240.out 4
      go_wp2_with (first | ((with_reducible refine gate_callee (f := 25) rfl ?_); refine goesL_ (some 11) rfl rfl Try.func25 (by kernel_rfl) rfl #[.agg #[.slice A0_0 l0_0.length c0_0, .int .i64 a0_1, .int .i64 a0_2, .int .i64 a0_3, .int .i64 a0_4]] rfl (by (try simp only [List.map_toArray, List.map_cons, List.map_nil]); first | done | rfl | (simp only [List.length_drop, List.length_take]; rfl)) ?_; (with_reducible refine (impl_QueueOk.calls k _ _ l0_0 a0_1 a0_2 a0_3 a0_4 false _ ?side1 ?side2 A15.out).mono ?_); (case side1 => exact Kd.C_below HR0_0.out (be_ HB.out)); (case side2 => exact HC0_0.out); rintro e w40 ⟨rfl, hb⟩; refine ⟨_, rfl, ?_⟩; have n0_ := Aside0.mk (Kd.R_below (by (with_reducible repeat (first | apply Kd.R_alloc | apply Kd.R_drewN | apply Kd.R_drew)); exact (Kd.R_mono (Kd.R_far (p := ⟨gb249, 4, none⟩) (Kd.R_far (p := ⟨gb249, 3, none⟩) (Kd.R_far (p := ⟨gb249, 2, none⟩) (Kd.R_far (p := ⟨gb249, 1, none⟩) (Kd.R_far (p := ⟨gb249, 0, none⟩) (Kd.R_types HO244.out BK249.out (by decide)) (fun _ hk => hk.2) (.slice Ao11 t242.length co11)) (fun _ hk => hk.2) (.int .i64 t245)) (fun _ hk => hk.2) (.int .i64 t246)) (fun _ hk => hk.2) (.int .i64 t247)) (fun _ hk => hk.2) (.int .i64 t248)) (fun _ h_ => h_.1))) hb); have n1_ := Aside0.mk (blk_below (g := gb240) (o := .cells #[.slice A0_0 l0_0.length c0_0, .int .i64 a0_1, .int .i64 a0_2, .int .i64 a0_3, .int .i64 a0_4] 28 (0, 0)) (by refine bl_ ?_; refine blk_far ?_ NB240_249.out _; refine bl_ ?_; refine blk_far ?_ NB240_249.out _; refine bl_ ?_; refine blk_far ?_ NB240_249.out _; refine bl_ ?_; refine blk_far ?_ NB240_249.out _; refine bl_ ?_; refine blk_far ?_ NB240_249.out _; refine bl_ ?_; exact BK240.out) hb); have n2_ := Aside0.mk (blk_below (g := gb241) (o := .cells #[.slice none 0 0, .int .i64 0, .int .i64 0, .int .i64 0, .int .i64 0] 28 (0, 0)) (by refine bl_ ?_; refine blk_far ?_ NB241_249.out _; refine bl_ ?_; refine blk_far ?_ NB241_249.out _; refine bl_ ?_; refine blk_far ?_ NB241_249.out _; refine bl_ ?_; refine blk_far ?_ NB241_249.out _; refine bl_ ?_; refine blk_far ?_ NB241_249.out _; refine bl_ ?_; exact BK241.out) hb); have n3_ := Aside0.mk (blk_below (g := gb249) (o := .cells #[.slice Ao11 t242.length co11, .int .i64 t245, .int .i64 t246, .int .i64 t247, .int .i64 t248] 28 (0, 0)) (by refine bl_ ?_; refine blk_put (cs := #[.slice Ao11 t242.length co11, .int .i64 t245, .int .i64 t246, .int .i64 t247, .int .i64 0]) ?_ 4 _ rfl; refine bl_ ?_; refine blk_put (cs := #[.slice Ao11 t242.length co11, .int .i64 t245, .int .i64 t246, .int .i64 0, .int .i64 0]) ?_ 3 _ rfl; refine bl_ ?_; refine blk_put (cs := #[.slice Ao11 t242.length co11, .int .i64 t245, .int .i64 0, .int .i64 0, .int .i64 0]) ?_ 2 _ rfl; refine bl_ ?_; refine blk_put (cs := #[.slice Ao11 t242.length co11, .int .i64 0, .int .i64 0, .int .i64 0, .int .i64 0]) ?_ 1 _ rfl; refine bl_ ?_; refine blk_put (cs := #[.slice none 0 0, .int .i64 0, .int .i64 0, .int .i64 0, .int .i64 0]) ?_ 0 _ rfl; refine bl_ ?_; exact BK249.out) hb); have n4_ := Aside0.mk (below_step (be_ HB.out) hb); clear HO244 BK240 BK241 BK249 HB; have HO244 := n0_; have BK240 := n1_; have BK241 := n2_; have BK249 := n3_; have HB := n4_; clear n0_ n1_ n2_ n3_ n4_; (try clear hb); (try clear hb2); (try clear hk); (try clear hi)))
      go_meet
      case rel => exact ⟨_, (true), (by first | rfl | (simp; done) | (simp [*]; done)), H', ⟨by first | omega | exact Nat.le_refl _⟩, ⟨by (with_reducible repeat (first | apply Kd.R_alloc | apply Kd.R_drewN | apply Kd.R_drew)); exact HO244.out⟩, ⟨by refine bl_ ?_; exact BK240.out⟩, ⟨by refine bl_ ?_; exact BK241.out⟩, ⟨by refine bl_ ?_; exact BK249.out⟩, ⟨be_ HB.out⟩⟩
  case rest =>
    clear HC4
    try clear c1
    try clear c2
    try clear p2
    try clear c3
    try clear c5
    try clear c7
    try clear c12
    try clear c13
    try clear c16
    try clear c17
    try clear c17b0
    try clear c18
    try clear c19
    try clear c21
    try clear c24
    try clear c25
    try clear c26
    try clear c27
    try clear c32
    try clear c33
    try clear c37
    try clear c38
    try clear hcz14_0
    try clear hcz14_1
    try clear hcz14_2
    try clear hcz14_3
    try clear hcz14_4
    try clear hcz20_0
    try clear hcz20_1
    try clear hcz20_2
    try clear hcz20_3
    try clear hcz20_4
    try clear hcz22_0
    try clear hcz22_1
    try clear hcz22_2
    try clear hcz22_3
    try clear hcz22_4
    try clear hcz28_0
    try clear hcz28_1
    try clear hcz28_2
    try clear hcz28_3
    try clear hcz28_4
    try clear hcz30_0
    try clear hcz30_1
    try clear hcz30_2
    try clear hcz30_3
    try clear hcz30_4
    try clear hcz34_0
    try clear hcz34_1
    try clear hcz34_2
    try clear hcz34_3
    try clear hcz34_4
    try clear hcz36_0
    try clear hcz36_1
    try clear hcz36_2
    try clear hcz36_3
    try clear hcz36_4
    try clear hcz39_0
    try clear hcz39_1
    try clear hcz39_2
    try clear hcz39_3
    try clear hcz39_4
    try clear hcz8_0
    try clear hcz8_1
    try clear hcz8_2
    try clear hcz8_3
    try clear hcz8_4
    try clear hfz14_0
    try clear hfz14_1
    try clear hfz14_2
    try clear hfz14_3
    try clear hfz14_4
    try clear hfz20_0
    try clear hfz20_1
    try clear hfz20_2
    try clear hfz20_3
    try clear hfz20_4
    try clear hfz22_0
    try clear hfz22_1
    try clear hfz22_2
    try clear hfz22_3
    try clear hfz22_4
    try clear hfz28_0
    try clear hfz28_1
    try clear hfz28_2
    try clear hfz28_3
    try clear hfz28_4
    try clear hfz30_0
    try clear hfz30_1
    try clear hfz30_2
    try clear hfz30_3
    try clear hfz30_4
    try clear hfz34_0
    try clear hfz34_1
    try clear hfz34_2
    try clear hfz34_3
    try clear hfz34_4
    try clear hfz36_0
    try clear hfz36_1
    try clear hfz36_2
    try clear hfz36_3
    try clear hfz36_4
    try clear hfz39_0
    try clear hfz39_1
    try clear hfz39_2
    try clear hfz39_3
    try clear hfz39_4
    try clear hfz8_0
    try clear hfz8_1
    try clear hfz8_2
    try clear hfz8_3
    try clear hfz8_4
    obtain ⟨kq, x28_3, rfl, HA, HJ3, HO_250000, BK240, BK241, BK249, HB⟩ := hcut
    cases kq with
    | zero => exact absurd HA.out (by simp [impl_PushBack.j0])
    | succ kj3 =>
      have H := HA.out
      clear HA
      simp only [impl_PushBack.j0] at H
      by_cases c41 : x28_3 = true
      · subst c41
        have H1 : (some (t242, t245, t246, t247, t248, (-1))) = some (r1, r2, r3, r4, r5, r6) := by rw [if_pos rfl] at H; exact H
        clear H
        have H := H1
        clear H1
        simp only [Option.some.injEq, Prod.mk.injEq] at H
        obtain ⟨rfl, rfl, rfl, rfl, rfl, rfl⟩ := H
        have hnb42 := NB249_240.out
        have hnc42 := NB240_249.out
        have hnb43 := NB249_241.out
        have hnc43 := NB241_249.out
        have hcz44_0 : wc.cell? ⟨gb249, 0, none⟩ = some (.slice Ao11 t242.length co11) := (blk_cell BK249.out 0).trans rfl
        have hcz44_1 : wc.cell? ⟨gb249, 1, none⟩ = some (.int .i64 t245) := (blk_cell BK249.out 1).trans rfl
        have hcz44_2 : wc.cell? ⟨gb249, 2, none⟩ = some (.int .i64 t246) := (blk_cell BK249.out 2).trans rfl
        have hcz44_3 : wc.cell? ⟨gb249, 3, none⟩ = some (.int .i64 t247) := (blk_cell BK249.out 3).trans rfl
        have hcz44_4 : wc.cell? ⟨gb249, 4, none⟩ = some (.int .i64 t248) := (blk_cell BK249.out 4).trans rfl
        have hfz44_0 := blk_frozen BK249.out 0
        have hfz44_1 := blk_frozen BK249.out 1
        have hfz44_2 := blk_frozen BK249.out 2
        have hfz44_3 := blk_frozen BK249.out 3
        have hfz44_4 := blk_frozen BK249.out 4
        have hnb45 := NB241_240.out
        have hnc45 := NB240_241.out
        have hcz46_0 : wc.cell? ⟨gb241, 0, none⟩ = some (.slice none 0 0) := (blk_cell BK241.out 0).trans rfl
        have hcz46_1 : wc.cell? ⟨gb241, 1, none⟩ = some (.int .i64 0) := (blk_cell BK241.out 1).trans rfl
        have hcz46_2 : wc.cell? ⟨gb241, 2, none⟩ = some (.int .i64 0) := (blk_cell BK241.out 2).trans rfl
        have hcz46_3 : wc.cell? ⟨gb241, 3, none⟩ = some (.int .i64 0) := (blk_cell BK241.out 3).trans rfl
        have hcz46_4 : wc.cell? ⟨gb241, 4, none⟩ = some (.int .i64 0) := (blk_cell BK241.out 4).trans rfl
        have hfz46_0 := blk_frozen BK241.out 0
        have hfz46_1 := blk_frozen BK241.out 1
        have hfz46_2 := blk_frozen BK241.out 2
        have hfz46_3 := blk_frozen BK241.out 3
        have hfz46_4 := blk_frozen BK241.out 4
        go_wp2
        refine bodyPost_ret (results_ct rfl _ _ gb241 28 #[.slice Ao11 t242.length co11, .int .i64 t245, .int .i64 t246, .int .i64 t247, .int .i64 t248] (0, 0) _ rfl (by refine bl_ ?_; refine blk_put (cs := #[.slice Ao11 t242.length co11, .int .i64 t245, .int .i64 t246, .int .i64 t247, .int .i64 0]) ?_ 4 _ rfl; refine bl_ ?_; refine blk_put (cs := #[.slice Ao11 t242.length co11, .int .i64 t245, .int .i64 t246, .int .i64 0, .int .i64 0]) ?_ 3 _ rfl; refine bl_ ?_; refine blk_put (cs := #[.slice Ao11 t242.length co11, .int .i64 t245, .int .i64 0, .int .i64 0, .int .i64 0]) ?_ 2 _ rfl; refine bl_ ?_; refine blk_put (cs := #[.slice Ao11 t242.length co11, .int .i64 0, .int .i64 0, .int .i64 0, .int .i64 0]) ?_ 1 _ rfl; refine bl_ ?_; refine blk_put (cs := #[.slice none 0 0, .int .i64 0, .int .i64 0, .int .i64 0, .int .i64 0]) ?_ 0 _ rfl; refine bl_ ?_; exact BK241.out) Try.underlying28 rfl (by kernel_rfl)) rfl ?_
        exact ⟨_, by first | rfl | (simp [errW_none, errW_some] <;> rfl) | (simp [*, errW_none, errW_some] <;> rfl), by (with_reducible repeat (first | apply Kd.R_alloc | apply Kd.R_drewN | apply Kd.R_drew)); exact Kd.R_mono (Kd.R_far (p := ⟨gb241, 4, none⟩) (Kd.R_far (p := ⟨gb241, 3, none⟩) (Kd.R_far (p := ⟨gb241, 2, none⟩) (Kd.R_far (p := ⟨gb241, 1, none⟩) (Kd.R_far (p := ⟨gb241, 0, none⟩) (Kd.R_types HO_250000.out BK241.out (by decide)) (fun _ hk => hk.2) (.slice Ao11 t242.length co11)) (fun _ hk => hk.2) (.int .i64 t245)) (fun _ hk => hk.2) (.int .i64 t246)) (fun _ hk => hk.2) (.int .i64 t247)) (fun _ hk => hk.2) (.int .i64 t248)) (fun _ hk => trivial), be_ HB.out⟩
      · replace c41 := Bool.eq_false_iff.mpr c41
        subst c41
        have H1 : (if 0 ≤ a0_3 then (if a0_3 < (l0_0.length : Int) then (if a0_3 < (t242.length : Int) then ((some (t242.set (a0_3 : Int).toNat (⟨a1, a0_2, (-1), true⟩ : S65) : List (S65))).bind fun y254 => (if a0_2 ≥ 0 then (if 0 ≤ a0_2 then (if a0_2 < (t242.length : Int) then (some ((y254.set (a0_2 : Int).toNat (⟨(rd_T65 y254 a0_2).f0, (rd_T65 y254 a0_2).f1, a0_3, (rd_T65 y254 a0_2).f3⟩ : S65)), t245, a0_3, (rd_T65 l0_0 a0_3).f2, wrap64 (t248 + 1), a0_3)) else (none)) else (none)) else (some (y254, a0_3, a0_3, (rd_T65 l0_0 a0_3).f2, wrap64 (t248 + 1), a0_3)))) else (none)) else (none)) else (none)) = some (r1, r2, r3, r4, r5, r6) := by rw [if_neg (show ¬ (false = true) by decide)] at H; exact H
        clear H
        have H := H1
        clear H1
        by_cases c47 : 0 ≤ a0_3
        · rw [if_pos c47] at H
          have c47b0 : decide (0 ≤ a0_3) = true := decide_eq_true c47
          clear c47
          by_cases c48 : a0_3 < (l0_0.length : Int)
          · rw [if_pos c48] at H
            have c48b0 : decide (a0_3 < (l0_0.length : Int)) = true := decide_eq_true c48
            clear c48
            by_cases c49 : a0_3 < (t242.length : Int)
            · rw [if_pos c49] at H
              have c49b0 : decide (a0_3 < (t242.length : Int)) = true := decide_eq_true c49
              clear c49
              obtain ⟨y254, hy254⟩ : ∃ y_ : List (S65), y_ = (t242.set (a0_3 : Int).toNat (⟨a1, a0_2, (-1), true⟩ : S65)) := ⟨_, rfl⟩
              replace H : (if a0_2 ≥ 0 then (if 0 ≤ a0_2 then (if a0_2 < (t242.length : Int) then (some ((y254.set (a0_2 : Int).toNat (⟨(rd_T65 y254 a0_2).f0, (rd_T65 y254 a0_2).f1, a0_3, (rd_T65 y254 a0_2).f3⟩ : S65)), t245, a0_3, (rd_T65 l0_0 a0_3).f2, wrap64 (t248 + 1), a0_3)) else (none)) else (none)) else (some (y254, a0_3, a0_3, (rd_T65 l0_0 a0_3).f2, wrap64 (t248 + 1), a0_3))) = some (r1, r2, r3, r4, r5, r6) := by first | (rw [hy254]; with_reducible exact H) | (have H2_ := (Option.bind_some _ _).symm.trans H; rw [hy254]; with_reducible exact H2_) | (have H2_ := (Option.bind_some _ _).symm.trans H; with_reducible exact H2_) | with_reducible exact H | (rw [hy254]; exact H) | exact H
              have Ny254 := Aside0.mk hy254
              clear hy254
              by_cases c51 : a0_2 ≥ 0
              · rw [if_pos c51] at H
                have c51b0 : decide (0 ≤ a0_2) = true := decide_eq_true c51
                clear c51
                by_cases c52 : 0 ≤ a0_2
                · rw [if_pos c52] at H
                  have c52b0 : decide (0 ≤ a0_2) = true := decide_eq_true c52
                  clear c52
                  by_cases c53 : a0_2 < (t242.length : Int)
                  · rw [if_pos c53] at H
                    have c53b0 : decide (a0_2 < (t242.length : Int)) = true := decide_eq_true c53
                    clear c53
                    obtain ⟨y255, hy255⟩ : ∃ y_ : List (S65), y_ = (y254.set (a0_2 : Int).toNat (⟨(rd_T65 y254 a0_2).f0, (rd_T65 y254 a0_2).f1, a0_3, (rd_T65 y254 a0_2).f3⟩ : S65)) := ⟨_, rfl⟩
                    replace H : (some (y255, t245, a0_3, (rd_T65 l0_0 a0_3).f2, wrap64 (t248 + 1), a0_3)) = some (r1, r2, r3, r4, r5, r6) := by first | (rw [hy255]; with_reducible exact H) | (have H2_ := (Option.bind_some _ _).symm.trans H; rw [hy255]; with_reducible exact H2_) | (have H2_ := (Option.bind_some _ _).symm.trans H; with_reducible exact H2_) | with_reducible exact H | (rw [hy255]; exact H) | exact H
                    have Ny255 := Aside0.mk hy255
                    clear hy255
                    simp only [Option.some.injEq, Prod.mk.injEq] at H
                    obtain ⟨rfl, rfl, rfl, rfl, rfl, rfl⟩ := H
                    have hnb55 := NB240_241.out
                    have hnc55 := NB241_240.out
                    have hnb56 := NB240_249.out
                    have hnc56 := NB249_240.out
                    have hcz57_0 : wc.cell? ⟨gb240, 0, none⟩ = some (.slice A0_0 l0_0.length c0_0) := (blk_cell BK240.out 0).trans rfl
                    have hcz57_1 : wc.cell? ⟨gb240, 1, none⟩ = some (.int .i64 a0_1) := (blk_cell BK240.out 1).trans rfl
                    have hcz57_2 : wc.cell? ⟨gb240, 2, none⟩ = some (.int .i64 a0_2) := (blk_cell BK240.out 2).trans rfl
                    have hcz57_3 : wc.cell? ⟨gb240, 3, none⟩ = some (.int .i64 a0_3) := (blk_cell BK240.out 3).trans rfl
                    have hcz57_4 : wc.cell? ⟨gb240, 4, none⟩ = some (.int .i64 a0_4) := (blk_cell BK240.out 4).trans rfl
                    have hfz57_0 := blk_frozen BK240.out 0
                    have hfz57_1 := blk_frozen BK240.out 1
                    have hfz57_2 := blk_frozen BK240.out 2
                    have hfz57_3 := blk_frozen BK240.out 3
                    have hfz57_4 := blk_frozen BK240.out 4
                    have p253 : 0 ≤ (a0_3 : Int) := of_decide_eq_true (by first | (with_reducible assumption) | assumption)
                    have q253 : a0_3 < (l0_0.length : Int) := of_decide_eq_true (by first | (with_reducible assumption) | assumption)
                    obtain ⟨ad253, e253, hx253_0, hx253_1, hx253_2, hx253_3⟩ := at_T65 HR0_0.out a0_3 p253 q253
                    cases e253
                    replace hx253_0 := (HB.out.cell (World.block_lt_of_cell? w _ hx253_0)).trans hx253_0
                    replace hx253_1 := (HB.out.cell (World.block_lt_of_cell? w _ hx253_1)).trans hx253_1
                    replace hx253_2 := (HB.out.cell (World.block_lt_of_cell? w _ hx253_2)).trans hx253_2
                    replace hx253_3 := (HB.out.cell (World.block_lt_of_cell? w _ hx253_3)).trans hx253_3
                    replace p253 := eq_true p253
                    replace q253 := eq_true q253
                    have hnb58 := NB249_241.out
                    have hnc58 := NB241_249.out
                    have hcz59_0 : wc.cell? ⟨gb249, 0, none⟩ = some (.slice Ao11 t242.length co11) := (blk_cell BK249.out 0).trans rfl
                    have hcz59_1 : wc.cell? ⟨gb249, 1, none⟩ = some (.int .i64 t245) := (blk_cell BK249.out 1).trans rfl
                    have hcz59_2 : wc.cell? ⟨gb249, 2, none⟩ = some (.int .i64 t246) := (blk_cell BK249.out 2).trans rfl
                    have hcz59_3 : wc.cell? ⟨gb249, 3, none⟩ = some (.int .i64 t247) := (blk_cell BK249.out 3).trans rfl
                    have hcz59_4 : wc.cell? ⟨gb249, 4, none⟩ = some (.int .i64 t248) := (blk_cell BK249.out 4).trans rfl
                    have hfz59_0 := blk_frozen BK249.out 0
                    have hfz59_1 := blk_frozen BK249.out 1
                    have hfz59_2 := blk_frozen BK249.out 2
                    have hfz59_3 := blk_frozen BK249.out 3
                    have hfz59_4 := blk_frozen BK249.out 4
                    go_wp2_with (first | ((with_reducible refine gate_store (t := 3) (p := 38) rfl ?_); refine store_event (t := 3) (p := 38) (v := ?vo_w60) (w1 := (wc.setCell ⟨gb249, 3, none⟩ (.int .i64 ((rd_T65 l0_0 a0_3).f2)))) ?hg ?ho ?hn ?hr ?_; (case ho => rfl); (case hg => rfl); (case hn => rfl); (case hr => first | (go_simp; done) | (go_simp; rfl)); intro w60 hw; have n0_ : Aside0 (Kd.R k65 65 w60 w.heap.size (fun _ => True) (.slice Ao11 t242.length co11) t242) := ⟨(by rw [hw]; exact (by (with_reducible repeat (first | apply Kd.R_alloc | apply Kd.R_drewN | apply Kd.R_drew)); exact Kd.R_mono (Kd.R_far (p := ⟨gb249, 3, none⟩) (Kd.R_types HO_250000.out BK249.out (by decide)) (fun _ hk => hk.2) (.int .i64 ((rd_T65 l0_0 a0_3).f2))) (fun _ hk => trivial)))⟩; have n1_ : Aside0 (w60.heap[gb240]? = some (.cells #[.slice (some ad253) l0_0.length c0_0, .int .i64 a0_1, .int .i64 a0_2, .int .i64 a0_3, .int .i64 a0_4] 28 (0, 0))) := ⟨(by rw [hw]; exact (by refine bl_ ?_; refine blk_far ?_ NB240_249.out _; refine bl_ ?_; exact BK240.out))⟩; have n2_ : Aside0 (w60.heap[gb241]? = some (.cells #[.slice none 0 0, .int .i64 0, .int .i64 0, .int .i64 0, .int .i64 0] 28 (0, 0))) := ⟨(by rw [hw]; exact (by refine bl_ ?_; refine blk_far ?_ NB241_249.out _; refine bl_ ?_; exact BK241.out))⟩; have n3_ : Aside0 (w60.heap[gb249]? = some (.cells #[.slice Ao11 t242.length co11, .int .i64 t245, .int .i64 t246, .int .i64 ((rd_T65 l0_0 a0_3).f2), .int .i64 t248] 28 (0, 0))) := ⟨(by rw [hw]; exact (by refine bl_ ?_; refine blk_put (cs := #[.slice Ao11 t242.length co11, .int .i64 t245, .int .i64 t246, .int .i64 t247, .int .i64 t248]) ?_ 3 _ rfl; refine bl_ ?_; exact BK249.out))⟩; have n4_ : Aside0 (Below w.heap.size w w60) := ⟨(by rw [hw]; exact (be_ HB.out))⟩; clear hw HO_250000 BK240 BK241 BK249 HB; have HO_250000 := n0_; have BK240 := n1_; have BK241 := n2_; have BK249 := n3_; have HB := n4_; clear n0_ n1_ n2_ n3_ n4_; obtain ⟨hcz61_0, hcz61_1, hcz61_2, hcz61_3, hcz61_4, hfz61_0, hfz61_1, hfz61_2, hfz61_3, hfz61_4⟩ := cz5_ BK249.out; obtain ⟨hcz62_0, hcz62_1, hcz62_2, hcz62_3, hcz62_4, hfz62_0, hfz62_1, hfz62_2, hfz62_3, hfz62_4⟩ := cz5_ BK240.out; have p50 : 0 ≤ (a0_3 : Int) := of_decide_eq_true (by first | (with_reducible assumption) | assumption); have q50 : (a0_3 : Int) < ((t242.length : Int) : Int) := of_decide_eq_true (by first | (with_reducible assumption) | assumption); obtain ⟨go50, co50, eo50, gb50, gl50, cl50, HG50⟩ := Kd.R_form HO_250000.out (by omega); (first | cases eo50 | (injection eo50 with ea_ en_ ec_; (first | subst ea_ | (injection ea_ with ea_; subst ea_)); subst ec_; clear en_)); have GB50 := Aside0.mk gb50; have GG50 := Aside0.mk HG50; clear gb50 gl50 HG50; obtain ⟨ce50, hcl50, hM50, hcc50, hfr50⟩ := Kd.R_elem HO_250000.out z65 (a0_3 : Int) p50 q50; obtain rfl := k65_openM hM50; have hx50_0 : w60.cell? ⟨go50, (a0_3 : Int).toNat * 4, none⟩ = some (.int .i64 ((rd_T65 t242 a0_3).f0)) := hcc50 0 _ rfl; have hx50_1 : w60.cell? ⟨go50, (a0_3 : Int).toNat * 4 + 1, none⟩ = some (.int .i64 ((rd_T65 t242 a0_3).f1)) := hcc50 1 _ rfl; have hx50_2 : w60.cell? ⟨go50, (a0_3 : Int).toNat * 4 + 2, none⟩ = some (.int .i64 ((rd_T65 t242 a0_3).f2)) := hcc50 2 _ rfl; have hx50_3 : w60.cell? ⟨go50, (a0_3 : Int).toNat * 4 + 3, none⟩ = some (.bool ((rd_T65 t242 a0_3).f3)) := hcc50 3 _ rfl; have hf50_0 : w60.frozen? ⟨go50, (a0_3 : Int).toNat * 4, none⟩ = false := hfr50 0; have hf50_1 : w60.frozen? ⟨go50, (a0_3 : Int).toNat * 4 + 1, none⟩ = false := hfr50 1; have hf50_2 : w60.frozen? ⟨go50, (a0_3 : Int).toNat * 4 + 2, none⟩ = false := hfr50 2; have hf50_3 : w60.frozen? ⟨go50, (a0_3 : Int).toNat * 4 + 3, none⟩ = false := hfr50 3; clear hcl50 hcc50 hfr50 hM50; replace p50 := eq_true p50; replace q50 := eq_true q50; have HX63 := Aside0.mk (show Kd.R k65 65 w60 w.heap.size (fun _ => True) (.slice (some ⟨go50, 0, none⟩) t242.length co11) t242 from (ro_ HO_250000.out)); obtain ⟨ce63, hcl63, hM63, hcc63, hfr63⟩ := Kd.R_elem HX63.out z65 (a0_3 : Int) (of_decide_eq_true (by first | (with_reducible assumption) | assumption)) (by have h_ : (a0_3 : Int) < ((t242.length : Int) : Int) := of_decide_eq_true (by first | (with_reducible assumption) | assumption); first | exact h_ | (have e_ := (Kd.R_reads' HO_250000.out).1; omega) | simpa using h_); obtain rfl := k65_openM hM63; have HP63 := Kd.R_seg HX63.out (a0_3 : Int) (of_decide_eq_true (by first | (with_reducible assumption) | assumption)) (by have h_ : (a0_3 : Int) < ((t242.length : Int) : Int) := of_decide_eq_true (by first | (with_reducible assumption) | assumption); first | exact h_ | (have e_ := (Kd.R_reads' HO_250000.out).1; omega) | simpa using h_) (seg := [.int .i64 a1, .int .i64 a0_2, .int .i64 (-1), .bool true]) (j := 0) hcl63 hcc63 (show 4 ≤ 4 from by decide) (x' := (⟨a1, a0_2, (-1), true⟩ : S65)) (k65_mkM _ _ _ (⟨a1, a0_2, (-1), true⟩ : S65) ) (fun _ hk => hk); have hx63_0 := hcc63 0 _ rfl; (try simp only [show (k65).sz = 4 from rfl, Nat.mul_one, Nat.add_zero] at hx63_0); have hf63_0 := hfr63 0; (try simp only [show (k65).sz = 4 from rfl, Nat.mul_one, Nat.add_zero] at hf63_0); have hx63_1 := hcc63 1 _ rfl; (try simp only [show (k65).sz = 4 from rfl, Nat.mul_one, Nat.add_zero] at hx63_1); have hf63_1 := hfr63 1; (try simp only [show (k65).sz = 4 from rfl, Nat.mul_one, Nat.add_zero] at hf63_1); have hx63_2 := hcc63 2 _ rfl; (try simp only [show (k65).sz = 4 from rfl, Nat.mul_one, Nat.add_zero] at hx63_2); have hf63_2 := hfr63 2; (try simp only [show (k65).sz = 4 from rfl, Nat.mul_one, Nat.add_zero] at hf63_2); have hx63_3 := hcc63 3 _ rfl; (try simp only [show (k65).sz = 4 from rfl, Nat.mul_one, Nat.add_zero] at hx63_3); have hf63_3 := hfr63 3; (try simp only [show (k65).sz = 4 from rfl, Nat.mul_one, Nat.add_zero] at hf63_3); clear hcl63 hcc63 hfr63 hM63) | ((with_reducible refine gate_store (t := 65) (p := 46) rfl ?_); refine store_event (t := 65) (p := 46) (v := ?vo_w64) (w1 := ((((w60.setCell ⟨go50, (a0_3 : Int).toNat * 4, none⟩ (.int .i64 a1)).setCell ⟨go50, (a0_3 : Int).toNat * 4 + 1, none⟩ (.int .i64 a0_2)).setCell ⟨go50, (a0_3 : Int).toNat * 4 + 2, none⟩ (.int .i64 (-1))).setCell ⟨go50, (a0_3 : Int).toNat * 4 + 3, none⟩ (.bool true))) ?hg ?ho ?hn ?hr ?_; (case ho => rfl); (case hg => rfl); (case hn => rfl); (case hr => first | (go_simp; done) | (go_simp; rfl)); intro w64 hw; have hg : w60.grownBy w64 (some go50) := (by rw [hw]; exact HP63.2); have hp_ : Kd.R k65 65 w64 w.heap.size (fun _ => True) (.slice (some ⟨go50, 0, none⟩) t242.length co11) y254 := (by rw [hw, Ny254.out]; exact HP63.1); clear HP63; have n0_ := Aside0.mk (hp_); have n1_ := Aside0.mk (blk_grown (g := gb240) (o := .cells #[.slice (some ad253) l0_0.length c0_0, .int .i64 a0_1, .int .i64 a0_2, .int .i64 a0_3, .int .i64 a0_4] 28 (0, 0)) (bl_ BK240.out) hg (Kd.R_ne HO_250000.out BK240.out (by decide))); have n2_ := Aside0.mk (blk_grown (g := gb241) (o := .cells #[.slice none 0 0, .int .i64 0, .int .i64 0, .int .i64 0, .int .i64 0] 28 (0, 0)) (bl_ BK241.out) hg (Kd.R_ne HO_250000.out BK241.out (by decide))); have n3_ := Aside0.mk (blk_grown (g := gb249) (o := .cells #[.slice (some ⟨go50, 0, none⟩) t242.length co11, .int .i64 t245, .int .i64 t246, .int .i64 ((rd_T65 l0_0 a0_3).f2), .int .i64 t248] 28 (0, 0)) (bl_ BK249.out) hg (Kd.R_ne HO_250000.out BK249.out (by decide))); have n4_ := Aside0.mk ((by rw [hw]; exact below_set (below_set (below_set (below_set (HB.out) GB50.out) GB50.out) GB50.out) GB50.out : Below w.heap.size w w64)); clear HO_250000 BK240 BK241 BK249 HB; have HO_250000 := n0_; have BK240 := n1_; have BK241 := n2_; have BK249 := n3_; have HB := n4_; clear n0_ n1_ n2_ n3_ n4_; clear hg hw hp_; obtain ⟨hcz65_0, hcz65_1, hcz65_2, hcz65_3, hcz65_4, hfz65_0, hfz65_1, hfz65_2, hfz65_3, hfz65_4⟩ := cz5_ BK240.out; obtain ⟨hcz66_0, hcz66_1, hcz66_2, hcz66_3, hcz66_4, hfz66_0, hfz66_1, hfz66_2, hfz66_3, hfz66_4⟩ := cz5_ BK249.out; have p54 : 0 ≤ (a0_2 : Int) := of_decide_eq_true (by first | (with_reducible assumption) | assumption); have q54 : (a0_2 : Int) < ((t242.length : Int) : Int) := of_decide_eq_true (by first | (with_reducible assumption) | assumption); obtain ⟨ce54, hcl54, hM54, hcc54, hfr54⟩ := Kd.R_elem HO_250000.out z65 (a0_2 : Int) p54 q54; obtain rfl := k65_openM hM54; have hx54_0 : w64.cell? ⟨go50, (a0_2 : Int).toNat * 4, none⟩ = some (.int .i64 ((rd_T65 y254 a0_2).f0)) := hcc54 0 _ rfl; have hx54_1 : w64.cell? ⟨go50, (a0_2 : Int).toNat * 4 + 1, none⟩ = some (.int .i64 ((rd_T65 y254 a0_2).f1)) := hcc54 1 _ rfl; have hx54_2 : w64.cell? ⟨go50, (a0_2 : Int).toNat * 4 + 2, none⟩ = some (.int .i64 ((rd_T65 y254 a0_2).f2)) := hcc54 2 _ rfl; have hx54_3 : w64.cell? ⟨go50, (a0_2 : Int).toNat * 4 + 3, none⟩ = some (.bool ((rd_T65 y254 a0_2).f3)) := hcc54 3 _ rfl; have hf54_0 : w64.frozen? ⟨go50, (a0_2 : Int).toNat * 4, none⟩ = false := hfr54 0; have hf54_1 : w64.frozen? ⟨go50, (a0_2 : Int).toNat * 4 + 1, none⟩ = false := hfr54 1; have hf54_2 : w64.frozen? ⟨go50, (a0_2 : Int).toNat * 4 + 2, none⟩ = false := hfr54 2; have hf54_3 : w64.frozen? ⟨go50, (a0_2 : Int).toNat * 4 + 3, none⟩ = false := hfr54 3; clear hcl54 hcc54 hfr54 hM54; replace p54 := eq_true p54; replace q54 := eq_true q54; have HX67 := Aside0.mk (show Kd.R k65 65 w64 w.heap.size (fun _ => True) (.slice (some ⟨go50, 0, none⟩) t242.length co11) y254 from (ro_ HO_250000.out)); obtain ⟨ce67, hcl67, hM67, hcc67, hfr67⟩ := Kd.R_elem HX67.out z65 (a0_2 : Int) (of_decide_eq_true (by first | (with_reducible assumption) | assumption)) (by have h_ : (a0_2 : Int) < ((t242.length : Int) : Int) := of_decide_eq_true (by first | (with_reducible assumption) | assumption); first | exact h_ | (have e_ := (Kd.R_reads' HO_250000.out).1; omega) | simpa using h_); obtain rfl := k65_openM hM67; have HP67 := Kd.R_seg HX67.out (a0_2 : Int) (of_decide_eq_true (by first | (with_reducible assumption) | assumption)) (by have h_ : (a0_2 : Int) < ((t242.length : Int) : Int) := of_decide_eq_true (by first | (with_reducible assumption) | assumption); first | exact h_ | (have e_ := (Kd.R_reads' HO_250000.out).1; omega) | simpa using h_) (seg := [.int .i64 a0_3]) (j := 2) hcl67 hcc67 (show 3 ≤ 4 from by decide) (x' := (⟨(rd_T65 y254 a0_2).f0, (rd_T65 y254 a0_2).f1, a0_3, (rd_T65 y254 a0_2).f3⟩ : S65)) (k65_mkM _ _ _ (⟨(rd_T65 y254 a0_2).f0, (rd_T65 y254 a0_2).f1, a0_3, (rd_T65 y254 a0_2).f3⟩ : S65) ) (fun _ hk => hk); have hx67_2 := hcc67 2 _ rfl; (try simp only [show (k65).sz = 4 from rfl, Nat.mul_one, Nat.add_zero] at hx67_2); have hf67_2 := hfr67 2; (try simp only [show (k65).sz = 4 from rfl, Nat.mul_one, Nat.add_zero] at hf67_2); clear hcl67 hcc67 hfr67 hM67) | ((with_reducible refine gate_store (t := 3) (p := 56) rfl ?_); refine store_event (t := 3) (p := 56) (v := ?vo_w68) (w1 := (w64.setCell ⟨go50, (a0_2 : Int).toNat * 4 + 2, none⟩ (.int .i64 a0_3))) ?hg ?ho ?hn ?hr ?_; (case ho => rfl); (case hg => rfl); (case hn => rfl); (case hr => first | (go_simp; done) | (go_simp; rfl)); intro w68 hw; have hg : w64.grownBy w68 (some go50) := (by rw [hw]; exact HP67.2); have hp_ : Kd.R k65 65 w68 w.heap.size (fun _ => True) (.slice (some ⟨go50, 0, none⟩) t242.length co11) y255 := (by rw [hw, Ny255.out]; exact HP67.1); clear HP67; have n0_ := Aside0.mk (hp_); have n1_ := Aside0.mk (blk_grown (g := gb240) (o := .cells #[.slice (some ad253) l0_0.length c0_0, .int .i64 a0_1, .int .i64 a0_2, .int .i64 a0_3, .int .i64 a0_4] 28 (0, 0)) (bl_ BK240.out) hg (Kd.R_ne HO_250000.out BK240.out (by decide))); have n2_ := Aside0.mk (blk_grown (g := gb241) (o := .cells #[.slice none 0 0, .int .i64 0, .int .i64 0, .int .i64 0, .int .i64 0] 28 (0, 0)) (bl_ BK241.out) hg (Kd.R_ne HO_250000.out BK241.out (by decide))); have n3_ := Aside0.mk (blk_grown (g := gb249) (o := .cells #[.slice (some ⟨go50, 0, none⟩) t242.length co11, .int .i64 t245, .int .i64 t246, .int .i64 ((rd_T65 l0_0 a0_3).f2), .int .i64 t248] 28 (0, 0)) (bl_ BK249.out) hg (Kd.R_ne HO_250000.out BK249.out (by decide))); have n4_ := Aside0.mk ((by rw [hw]; exact below_set (HB.out) GB50.out : Below w.heap.size w w68)); clear HO_250000 BK240 BK241 BK249 HB; have HO_250000 := n0_; have BK240 := n1_; have BK241 := n2_; have BK249 := n3_; have HB := n4_; clear n0_ n1_ n2_ n3_ n4_; clear hg hw hp_; obtain ⟨hcz69_0, hcz69_1, hcz69_2, hcz69_3, hcz69_4, hfz69_0, hfz69_1, hfz69_2, hfz69_3, hfz69_4⟩ := cz5_ BK249.out; obtain ⟨hcz70_0, hcz70_1, hcz70_2, hcz70_3, hcz70_4, hfz70_0, hfz70_1, hfz70_2, hfz70_3, hfz70_4⟩ := cz5_ BK241.out))
                    refine bodyPost_ret (results_ct rfl _ _ gb241 28 #[.slice (some ⟨go50, 0, none⟩) t242.length co11, .int .i64 t245, .int .i64 a0_3, .int .i64 ((rd_T65 l0_0 a0_3).f2), .int .i64 (wrap64 (t248 + 1))] (0, 0) _ rfl (by refine bl_ ?_; refine blk_put (cs := #[.slice (some ⟨go50, 0, none⟩) t242.length co11, .int .i64 t245, .int .i64 a0_3, .int .i64 ((rd_T65 l0_0 a0_3).f2), .int .i64 0]) ?_ 4 _ rfl; refine bl_ ?_; refine blk_put (cs := #[.slice (some ⟨go50, 0, none⟩) t242.length co11, .int .i64 t245, .int .i64 a0_3, .int .i64 0, .int .i64 0]) ?_ 3 _ rfl; refine bl_ ?_; refine blk_put (cs := #[.slice (some ⟨go50, 0, none⟩) t242.length co11, .int .i64 t245, .int .i64 0, .int .i64 0, .int .i64 0]) ?_ 2 _ rfl; refine bl_ ?_; refine blk_put (cs := #[.slice (some ⟨go50, 0, none⟩) t242.length co11, .int .i64 0, .int .i64 0, .int .i64 0, .int .i64 0]) ?_ 1 _ rfl; refine bl_ ?_; refine blk_put (cs := #[.slice none 0 0, .int .i64 0, .int .i64 0, .int .i64 0, .int .i64 0]) ?_ 0 _ rfl; refine bl_ ?_; refine blk_far ?_ NB241_249.out _; refine bl_ ?_; refine blk_far ?_ NB241_249.out _; refine bl_ ?_; exact BK241.out) Try.underlying28 rfl (by kernel_rfl)) rfl ?_
                    exact ⟨_, by first | rfl | (simp [errW_none, errW_some] <;> rfl) | (simp [*, errW_none, errW_some] <;> rfl), by (with_reducible repeat (first | apply Kd.R_alloc | apply Kd.R_drewN | apply Kd.R_drew)); exact Kd.R_mono (Kd.R_far (p := ⟨gb241, 4, none⟩) (Kd.R_far (p := ⟨gb241, 3, none⟩) (Kd.R_far (p := ⟨gb241, 2, none⟩) (Kd.R_far (p := ⟨gb241, 1, none⟩) (Kd.R_far (p := ⟨gb241, 0, none⟩) (Kd.R_far (p := ⟨gb249, 4, none⟩) (Kd.R_far (p := ⟨gb249, 2, none⟩) (Kd.R_types (Kd.R_types HO_250000.out BK249.out (by decide)) BK241.out (by decide)) (fun _ hk => hk.1.2) (.int .i64 a0_3)) (fun _ hk => hk.1.2) (.int .i64 (wrap64 (t248 + 1)))) (fun _ hk => hk.2) (.slice (some ⟨go50, 0, none⟩) t242.length co11)) (fun _ hk => hk.2) (.int .i64 t245)) (fun _ hk => hk.2) (.int .i64 a0_3)) (fun _ hk => hk.2) (.int .i64 ((rd_T65 l0_0 a0_3).f2))) (fun _ hk => hk.2) (.int .i64 (wrap64 (t248 + 1)))) (fun _ hk => trivial), be_ HB.out⟩
                  · rw [if_neg c53] at H
                    exact absurd H (by simp)
                · rw [if_neg c52] at H
                  exact absurd H (by simp)
              · rw [if_neg c51] at H
                have c51b0 : decide (0 ≤ a0_2) = false := decide_eq_false c51
                clear c51
                simp only [Option.some.injEq, Prod.mk.injEq] at H
                obtain ⟨rfl, rfl, rfl, rfl, rfl, rfl⟩ := H
                have hnb71 := NB240_241.out
                have hnc71 := NB241_240.out
                have hnb72 := NB240_249.out
                have hnc72 := NB249_240.out
                have hcz73_0 : wc.cell? ⟨gb240, 0, none⟩ = some (.slice A0_0 l0_0.length c0_0) := (blk_cell BK240.out 0).trans rfl
                have hcz73_1 : wc.cell? ⟨gb240, 1, none⟩ = some (.int .i64 a0_1) := (blk_cell BK240.out 1).trans rfl
                have hcz73_2 : wc.cell? ⟨gb240, 2, none⟩ = some (.int .i64 a0_2) := (blk_cell BK240.out 2).trans rfl
                have hcz73_3 : wc.cell? ⟨gb240, 3, none⟩ = some (.int .i64 a0_3) := (blk_cell BK240.out 3).trans rfl
                have hcz73_4 : wc.cell? ⟨gb240, 4, none⟩ = some (.int .i64 a0_4) := (blk_cell BK240.out 4).trans rfl
                have hfz73_0 := blk_frozen BK240.out 0
                have hfz73_1 := blk_frozen BK240.out 1
                have hfz73_2 := blk_frozen BK240.out 2
                have hfz73_3 := blk_frozen BK240.out 3
                have hfz73_4 := blk_frozen BK240.out 4
                have p253 : 0 ≤ (a0_3 : Int) := of_decide_eq_true (by first | (with_reducible assumption) | assumption)
                have q253 : a0_3 < (l0_0.length : Int) := of_decide_eq_true (by first | (with_reducible assumption) | assumption)
                obtain ⟨ad253, e253, hx253_0, hx253_1, hx253_2, hx253_3⟩ := at_T65 HR0_0.out a0_3 p253 q253
                cases e253
                replace hx253_0 := (HB.out.cell (World.block_lt_of_cell? w _ hx253_0)).trans hx253_0
                replace hx253_1 := (HB.out.cell (World.block_lt_of_cell? w _ hx253_1)).trans hx253_1
                replace hx253_2 := (HB.out.cell (World.block_lt_of_cell? w _ hx253_2)).trans hx253_2
                replace hx253_3 := (HB.out.cell (World.block_lt_of_cell? w _ hx253_3)).trans hx253_3
                replace p253 := eq_true p253
                replace q253 := eq_true q253
                have hnb74 := NB249_241.out
                have hnc74 := NB241_249.out
                have hcz75_0 : wc.cell? ⟨gb249, 0, none⟩ = some (.slice Ao11 t242.length co11) := (blk_cell BK249.out 0).trans rfl
                have hcz75_1 : wc.cell? ⟨gb249, 1, none⟩ = some (.int .i64 t245) := (blk_cell BK249.out 1).trans rfl
                have hcz75_2 : wc.cell? ⟨gb249, 2, none⟩ = some (.int .i64 t246) := (blk_cell BK249.out 2).trans rfl
                have hcz75_3 : wc.cell? ⟨gb249, 3, none⟩ = some (.int .i64 t247) := (blk_cell BK249.out 3).trans rfl
                have hcz75_4 : wc.cell? ⟨gb249, 4, none⟩ = some (.int .i64 t248) := (blk_cell BK249.out 4).trans rfl
                have hfz75_0 := blk_frozen BK249.out 0
                have hfz75_1 := blk_frozen BK249.out 1
                have hfz75_2 := blk_frozen BK249.out 2
                have hfz75_3 := blk_frozen BK249.out 3
                have hfz75_4 := blk_frozen BK249.out 4
                go_wp2_with (first | ((with_reducible refine gate_store (t := 3) (p := 38) rfl ?_); refine store_event (t := 3) (p := 38) (v := ?vo_w76) (w1 := (wc.setCell ⟨gb249, 3, none⟩ (.int .i64 ((rd_T65 l0_0 a0_3).f2)))) ?hg ?ho ?hn ?hr ?_; (case ho => rfl); (case hg => rfl); (case hn => rfl); (case hr => first | (go_simp; done) | (go_simp; rfl)); intro w76 hw; have n0_ : Aside0 (Kd.R k65 65 w76 w.heap.size (fun _ => True) (.slice Ao11 t242.length co11) t242) := ⟨(by rw [hw]; exact (by (with_reducible repeat (first | apply Kd.R_alloc | apply Kd.R_drewN | apply Kd.R_drew)); exact Kd.R_mono (Kd.R_far (p := ⟨gb249, 3, none⟩) (Kd.R_types HO_250000.out BK249.out (by decide)) (fun _ hk => hk.2) (.int .i64 ((rd_T65 l0_0 a0_3).f2))) (fun _ hk => trivial)))⟩; have n1_ : Aside0 (w76.heap[gb240]? = some (.cells #[.slice (some ad253) l0_0.length c0_0, .int .i64 a0_1, .int .i64 a0_2, .int .i64 a0_3, .int .i64 a0_4] 28 (0, 0))) := ⟨(by rw [hw]; exact (by refine bl_ ?_; refine blk_far ?_ NB240_249.out _; refine bl_ ?_; exact BK240.out))⟩; have n2_ : Aside0 (w76.heap[gb241]? = some (.cells #[.slice none 0 0, .int .i64 0, .int .i64 0, .int .i64 0, .int .i64 0] 28 (0, 0))) := ⟨(by rw [hw]; exact (by refine bl_ ?_; refine blk_far ?_ NB241_249.out _; refine bl_ ?_; exact BK241.out))⟩; have n3_ : Aside0 (w76.heap[gb249]? = some (.cells #[.slice Ao11 t242.length co11, .int .i64 t245, .int .i64 t246, .int .i64 ((rd_T65 l0_0 a0_3).f2), .int .i64 t248] 28 (0, 0))) := ⟨(by rw [hw]; exact (by refine bl_ ?_; refine blk_put (cs := #[.slice Ao11 t242.length co11, .int .i64 t245, .int .i64 t246, .int .i64 t247, .int .i64 t248]) ?_ 3 _ rfl; refine bl_ ?_; exact BK249.out))⟩; have n4_ : Aside0 (Below w.heap.size w w76) := ⟨(by rw [hw]; exact (be_ HB.out))⟩; clear hw HO_250000 BK240 BK241 BK249 HB; have HO_250000 := n0_; have BK240 := n1_; have BK241 := n2_; have BK249 := n3_; have HB := n4_; clear n0_ n1_ n2_ n3_ n4_; obtain ⟨hcz77_0, hcz77_1, hcz77_2, hcz77_3, hcz77_4, hfz77_0, hfz77_1, hfz77_2, hfz77_3, hfz77_4⟩ := cz5_ BK249.out; obtain ⟨hcz78_0, hcz78_1, hcz78_2, hcz78_3, hcz78_4, hfz78_0, hfz78_1, hfz78_2, hfz78_3, hfz78_4⟩ := cz5_ BK240.out; have p50 : 0 ≤ (a0_3 : Int) := of_decide_eq_true (by first | (with_reducible assumption) | assumption); have q50 : (a0_3 : Int) < ((t242.length : Int) : Int) := of_decide_eq_true (by first | (with_reducible assumption) | assumption); obtain ⟨go50, co50, eo50, gb50, gl50, cl50, HG50⟩ := Kd.R_form HO_250000.out (by omega); (first | cases eo50 | (injection eo50 with ea_ en_ ec_; (first | subst ea_ | (injection ea_ with ea_; subst ea_)); subst ec_; clear en_)); have GB50 := Aside0.mk gb50; have GG50 := Aside0.mk HG50; clear gb50 gl50 HG50; obtain ⟨ce50, hcl50, hM50, hcc50, hfr50⟩ := Kd.R_elem HO_250000.out z65 (a0_3 : Int) p50 q50; obtain rfl := k65_openM hM50; have hx50_0 : w76.cell? ⟨go50, (a0_3 : Int).toNat * 4, none⟩ = some (.int .i64 ((rd_T65 t242 a0_3).f0)) := hcc50 0 _ rfl; have hx50_1 : w76.cell? ⟨go50, (a0_3 : Int).toNat * 4 + 1, none⟩ = some (.int .i64 ((rd_T65 t242 a0_3).f1)) := hcc50 1 _ rfl; have hx50_2 : w76.cell? ⟨go50, (a0_3 : Int).toNat * 4 + 2, none⟩ = some (.int .i64 ((rd_T65 t242 a0_3).f2)) := hcc50 2 _ rfl; have hx50_3 : w76.cell? ⟨go50, (a0_3 : Int).toNat * 4 + 3, none⟩ = some (.bool ((rd_T65 t242 a0_3).f3)) := hcc50 3 _ rfl; have hf50_0 : w76.frozen? ⟨go50, (a0_3 : Int).toNat * 4, none⟩ = false := hfr50 0; have hf50_1 : w76.frozen? ⟨go50, (a0_3 : Int).toNat * 4 + 1, none⟩ = false := hfr50 1; have hf50_2 : w76.frozen? ⟨go50, (a0_3 : Int).toNat * 4 + 2, none⟩ = false := hfr50 2; have hf50_3 : w76.frozen? ⟨go50, (a0_3 : Int).toNat * 4 + 3, none⟩ = false := hfr50 3; clear hcl50 hcc50 hfr50 hM50; replace p50 := eq_true p50; replace q50 := eq_true q50; have HX79 := Aside0.mk (show Kd.R k65 65 w76 w.heap.size (fun _ => True) (.slice (some ⟨go50, 0, none⟩) t242.length co11) t242 from (ro_ HO_250000.out)); obtain ⟨ce79, hcl79, hM79, hcc79, hfr79⟩ := Kd.R_elem HX79.out z65 (a0_3 : Int) (of_decide_eq_true (by first | (with_reducible assumption) | assumption)) (by have h_ : (a0_3 : Int) < ((t242.length : Int) : Int) := of_decide_eq_true (by first | (with_reducible assumption) | assumption); first | exact h_ | (have e_ := (Kd.R_reads' HO_250000.out).1; omega) | simpa using h_); obtain rfl := k65_openM hM79; have HP79 := Kd.R_seg HX79.out (a0_3 : Int) (of_decide_eq_true (by first | (with_reducible assumption) | assumption)) (by have h_ : (a0_3 : Int) < ((t242.length : Int) : Int) := of_decide_eq_true (by first | (with_reducible assumption) | assumption); first | exact h_ | (have e_ := (Kd.R_reads' HO_250000.out).1; omega) | simpa using h_) (seg := [.int .i64 a1, .int .i64 a0_2, .int .i64 (-1), .bool true]) (j := 0) hcl79 hcc79 (show 4 ≤ 4 from by decide) (x' := (⟨a1, a0_2, (-1), true⟩ : S65)) (k65_mkM _ _ _ (⟨a1, a0_2, (-1), true⟩ : S65) ) (fun _ hk => hk); have hx79_0 := hcc79 0 _ rfl; (try simp only [show (k65).sz = 4 from rfl, Nat.mul_one, Nat.add_zero] at hx79_0); have hf79_0 := hfr79 0; (try simp only [show (k65).sz = 4 from rfl, Nat.mul_one, Nat.add_zero] at hf79_0); have hx79_1 := hcc79 1 _ rfl; (try simp only [show (k65).sz = 4 from rfl, Nat.mul_one, Nat.add_zero] at hx79_1); have hf79_1 := hfr79 1; (try simp only [show (k65).sz = 4 from rfl, Nat.mul_one, Nat.add_zero] at hf79_1); have hx79_2 := hcc79 2 _ rfl; (try simp only [show (k65).sz = 4 from rfl, Nat.mul_one, Nat.add_zero] at hx79_2); have hf79_2 := hfr79 2; (try simp only [show (k65).sz = 4 from rfl, Nat.mul_one, Nat.add_zero] at hf79_2); have hx79_3 := hcc79 3 _ rfl; (try simp only [show (k65).sz = 4 from rfl, Nat.mul_one, Nat.add_zero] at hx79_3); have hf79_3 := hfr79 3; (try simp only [show (k65).sz = 4 from rfl, Nat.mul_one, Nat.add_zero] at hf79_3); clear hcl79 hcc79 hfr79 hM79) | ((with_reducible refine gate_store (t := 65) (p := 46) rfl ?_); refine store_event (t := 65) (p := 46) (v := ?vo_w80) (w1 := ((((w76.setCell ⟨go50, (a0_3 : Int).toNat * 4, none⟩ (.int .i64 a1)).setCell ⟨go50, (a0_3 : Int).toNat * 4 + 1, none⟩ (.int .i64 a0_2)).setCell ⟨go50, (a0_3 : Int).toNat * 4 + 2, none⟩ (.int .i64 (-1))).setCell ⟨go50, (a0_3 : Int).toNat * 4 + 3, none⟩ (.bool true))) ?hg ?ho ?hn ?hr ?_; (case ho => rfl); (case hg => rfl); (case hn => rfl); (case hr => first | (go_simp; done) | (go_simp; rfl)); intro w80 hw; have hg : w76.grownBy w80 (some go50) := (by rw [hw]; exact HP79.2); have hp_ : Kd.R k65 65 w80 w.heap.size (fun _ => True) (.slice (some ⟨go50, 0, none⟩) t242.length co11) y254 := (by rw [hw, Ny254.out]; exact HP79.1); clear HP79; have n0_ := Aside0.mk (hp_); have n1_ := Aside0.mk (blk_grown (g := gb240) (o := .cells #[.slice (some ad253) l0_0.length c0_0, .int .i64 a0_1, .int .i64 a0_2, .int .i64 a0_3, .int .i64 a0_4] 28 (0, 0)) (bl_ BK240.out) hg (Kd.R_ne HO_250000.out BK240.out (by decide))); have n2_ := Aside0.mk (blk_grown (g := gb241) (o := .cells #[.slice none 0 0, .int .i64 0, .int .i64 0, .int .i64 0, .int .i64 0] 28 (0, 0)) (bl_ BK241.out) hg (Kd.R_ne HO_250000.out BK241.out (by decide))); have n3_ := Aside0.mk (blk_grown (g := gb249) (o := .cells #[.slice (some ⟨go50, 0, none⟩) t242.length co11, .int .i64 t245, .int .i64 t246, .int .i64 ((rd_T65 l0_0 a0_3).f2), .int .i64 t248] 28 (0, 0)) (bl_ BK249.out) hg (Kd.R_ne HO_250000.out BK249.out (by decide))); have n4_ := Aside0.mk ((by rw [hw]; exact below_set (below_set (below_set (below_set (HB.out) GB50.out) GB50.out) GB50.out) GB50.out : Below w.heap.size w w80)); clear HO_250000 BK240 BK241 BK249 HB; have HO_250000 := n0_; have BK240 := n1_; have BK241 := n2_; have BK249 := n3_; have HB := n4_; clear n0_ n1_ n2_ n3_ n4_; clear hg hw hp_; obtain ⟨hcz81_0, hcz81_1, hcz81_2, hcz81_3, hcz81_4, hfz81_0, hfz81_1, hfz81_2, hfz81_3, hfz81_4⟩ := cz5_ BK240.out; obtain ⟨hcz82_0, hcz82_1, hcz82_2, hcz82_3, hcz82_4, hfz82_0, hfz82_1, hfz82_2, hfz82_3, hfz82_4⟩ := cz5_ BK249.out; obtain ⟨hcz83_0, hcz83_1, hcz83_2, hcz83_3, hcz83_4, hfz83_0, hfz83_1, hfz83_2, hfz83_3, hfz83_4⟩ := cz5_ BK241.out))
                refine bodyPost_ret (results_ct rfl _ _ gb241 28 #[.slice (some ⟨go50, 0, none⟩) t242.length co11, .int .i64 a0_3, .int .i64 a0_3, .int .i64 ((rd_T65 l0_0 a0_3).f2), .int .i64 (wrap64 (t248 + 1))] (0, 0) _ rfl (by refine bl_ ?_; refine blk_put (cs := #[.slice (some ⟨go50, 0, none⟩) t242.length co11, .int .i64 a0_3, .int .i64 a0_3, .int .i64 ((rd_T65 l0_0 a0_3).f2), .int .i64 0]) ?_ 4 _ rfl; refine bl_ ?_; refine blk_put (cs := #[.slice (some ⟨go50, 0, none⟩) t242.length co11, .int .i64 a0_3, .int .i64 a0_3, .int .i64 0, .int .i64 0]) ?_ 3 _ rfl; refine bl_ ?_; refine blk_put (cs := #[.slice (some ⟨go50, 0, none⟩) t242.length co11, .int .i64 a0_3, .int .i64 0, .int .i64 0, .int .i64 0]) ?_ 2 _ rfl; refine bl_ ?_; refine blk_put (cs := #[.slice (some ⟨go50, 0, none⟩) t242.length co11, .int .i64 0, .int .i64 0, .int .i64 0, .int .i64 0]) ?_ 1 _ rfl; refine bl_ ?_; refine blk_put (cs := #[.slice none 0 0, .int .i64 0, .int .i64 0, .int .i64 0, .int .i64 0]) ?_ 0 _ rfl; refine bl_ ?_; refine blk_far ?_ NB241_249.out _; refine bl_ ?_; refine blk_far ?_ NB241_249.out _; refine bl_ ?_; refine blk_far ?_ NB241_249.out _; refine bl_ ?_; exact BK241.out) Try.underlying28 rfl (by kernel_rfl)) rfl ?_
                exact ⟨_, by first | rfl | (simp [errW_none, errW_some] <;> rfl) | (simp [*, errW_none, errW_some] <;> rfl), by (with_reducible repeat (first | apply Kd.R_alloc | apply Kd.R_drewN | apply Kd.R_drew)); exact Kd.R_mono (Kd.R_far (p := ⟨gb241, 4, none⟩) (Kd.R_far (p := ⟨gb241, 3, none⟩) (Kd.R_far (p := ⟨gb241, 2, none⟩) (Kd.R_far (p := ⟨gb241, 1, none⟩) (Kd.R_far (p := ⟨gb241, 0, none⟩) (Kd.R_far (p := ⟨gb249, 4, none⟩) (Kd.R_far (p := ⟨gb249, 2, none⟩) (Kd.R_far (p := ⟨gb249, 1, none⟩) (Kd.R_types (Kd.R_types HO_250000.out BK249.out (by decide)) BK241.out (by decide)) (fun _ hk => hk.1.2) (.int .i64 a0_3)) (fun _ hk => hk.1.2) (.int .i64 a0_3)) (fun _ hk => hk.1.2) (.int .i64 (wrap64 (t248 + 1)))) (fun _ hk => hk.2) (.slice (some ⟨go50, 0, none⟩) t242.length co11)) (fun _ hk => hk.2) (.int .i64 a0_3)) (fun _ hk => hk.2) (.int .i64 a0_3)) (fun _ hk => hk.2) (.int .i64 ((rd_T65 l0_0 a0_3).f2))) (fun _ hk => hk.2) (.int .i64 (wrap64 (t248 + 1)))) (fun _ hk => trivial), be_ HB.out⟩
            · rw [if_neg c49] at H
              exact absurd H (by simp)
          · rw [if_neg c48] at H
            exact absurd H (by simp)
        · rw [if_neg c47] at H
          exact absurd H (by simp)

end Go.Proofs.Ytgpgkedbanmheaa.MFnExactPushBack
