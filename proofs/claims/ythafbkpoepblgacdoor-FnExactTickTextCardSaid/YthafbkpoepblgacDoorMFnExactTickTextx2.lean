-- Written by a program of this session over the kit's print, with stand-ins for the functions that the print leaves; Lean checks it.
import Derived.Test.YthafbkpoepblgacDoorTab
import Derived.Test.YthafbkpoepblgacDoorMFnExactTickTextx0
import Derived.Test.YthafbkpoepblgacDoorMFnExactTickTextx1
namespace Go.Proofs.YthafbkpoepblgacDoor.MFnExactTickText
open Go.RowKit Go.Proofs.YthafbkpoepblgacDoorW.PrintWords Go.Proofs.YthafbkpoepblgacDoorW.PrintLast Go.Proofs.YthafbkpoepblgacDoorW.PrintMore Go.Proofs.YthafbkpoepblgacDoor.Tab
attribute [local go_sem] max2_int min2_int max_two min_two max_three min_three max_four min_four   -- for this text's walks alone
set_option linter.unusedVariables false
set_option linter.unusedSimpArgs false

/-! ### strconv_Itoa_12: function 12 -/
def strconv_Itoa_12.f (k : Nat) (a0 : Int) : Option (ByteArray) := (spec_l01Num.f k a0).bind fun t133 => (some t133)
theorem strconv_Itoa_12.mono : ∀ a0 k, LeO (strconv_Itoa_12.f k a0) (strconv_Itoa_12.f (k + 1) a0) := by
  intro a0 k
  unfold strconv_Itoa_12.f
  repeat' first
      | (with_reducible exact spec_l01Num.mono _ _)
      | (with_reducible exact LeO.refl _)
      | (with_reducible exact LeO.none _)
      | (with_reducible refine LeO.ite ?_ ?_)
      | (with_reducible refine LeO.bind ?_ (fun _ => ?_))
      | exact spec_l01Num.mono _ _
      | exact LeO.none _
      | refine LeO.ite ?_ ?_
      | refine LeO.bind ?_ (fun _ => ?_)
/-- A number's sign and digits ahead of what is there. -/
def numTail (x : Int) (s : List UInt8) (b : Bool) : List UInt8 := (if b then [45] else []) ++ ((if x = 0 then [] else Go.Lib.decDigits x.natAbs) ++ s)
theorem numTail_step (x : Int) (s : List UInt8) (b : Bool) (h : x ≠ 0) : numTail (Int.tdiv x 10) (UInt8.ofNat (48 + x.natAbs % 10) :: s) b = numTail x s b := by
  unfold numTail
  rw [if_neg h]
  congr 1
  have hd : (Int.tdiv x 10).natAbs = x.natAbs / 10 := by rw [Int.natAbs_tdiv]; rfl
  by_cases h10 : x.natAbs < 10
  · have h0 : Int.tdiv x 10 = 0 := by omega
    rw [if_pos h0, Go.Lib.decDigits_one h10, Nat.mod_eq_of_lt h10]; rfl
  · have h0 : Int.tdiv x 10 ≠ 0 := by omega
    rw [if_neg h0, hd]
    conv => rhs; rw [Go.Lib.decDigits, dif_neg h10]
    simp
theorem digit_byte (x : Int) (d : Int) (h : d = x.natAbs % 10) : (strOfNums [wrap64 (48 + d) % 256]).data.toList = [UInt8.ofNat (48 + x.natAbs % 10)] := by
  have e : wrap64 (48 + d) % 256 = ((48 + x.natAbs % 10 : Nat) : Int) := by unfold wrap64; omega
  rw [strOfNums_data, e]; show [UInt8.ofNat ((48 + x.natAbs % 10 : Nat) : Int).toNat] = _; rw [Int.toNat_natCast]
theorem bytes_cat (a b : ByteArray) : (a ++ b).data.toList = a.data.toList ++ b.data.toList := by simp
theorem l01Num_loop : ∀ (k : Nat) (x : Int) (s r : ByteArray) (b : Bool), -9223372036854775808 ≤ x → x ≤ 9223372036854775807 → spec_l01Num.l0 k x s b = some r → r.data.toList = numTail x s.data.toList b
  | 0, _, _, _, _, _, _, h => by simp [spec_l01Num.l0] at h
  | k + 1, x, s, r, b, h0, h1, h => by
    rw [spec_l01Num.l0] at h
    by_cases hx : x = 0
    · rw [if_pos hx] at h
      unfold numTail; rw [if_pos hx]
      cases b with
      | true =>
        rw [if_pos rfl] at h
        by_cases hs : 1 + s.size ≤ 9223372036854775807
        · rw [if_pos hs] at h
          obtain rfl := Option.some.inj h
          rw [bytes_cat]; rfl
        · rw [if_neg hs] at h; cases h
      | false => rw [if_neg (by decide)] at h; obtain rfl := Option.some.inj h; rfl
    · rw [if_neg hx] at h
      have hd : (Int.tdiv x 10).natAbs = x.natAbs / 10 := by rw [Int.natAbs_tdiv]; rfl
      have hq : wrap64 (Int.tdiv x 10) = Int.tdiv x 10 := by unfold wrap64; omega
      have hm : (Int.tmod x 10).natAbs = x.natAbs % 10 := by rw [Int.natAbs_tmod]; rfl
      by_cases hn : Int.tmod x 10 < 0
      · rw [if_pos hn, Option.bind_some] at h
        have hw : wrap64 (-(Int.tmod x 10)) = x.natAbs % 10 := by unfold wrap64; omega
        rw [hq] at h
        by_cases hs : (strOfNums [wrap64 (48 + wrap64 (-(Int.tmod x 10))) % 256]).size + s.size ≤ 9223372036854775807
        · rw [if_pos hs] at h
          have e := l01Num_loop k _ _ r b (by omega) (by omega) h
          rw [e, bytes_cat, digit_byte x _ hw, ← numTail_step x _ b hx]; rfl
        · rw [if_neg hs] at h; cases h
      · rw [if_neg hn, Option.bind_some] at h
        rw [hq] at h
        by_cases hs : (strOfNums [wrap64 (48 + (Int.tmod x 10)) % 256]).size + s.size ≤ 9223372036854775807
        · rw [if_pos hs] at h
          have e := l01Num_loop k _ _ r b (by omega) (by omega) h
          rw [e, bytes_cat, digit_byte x _ (by omega), ← numTail_step x _ b hx]; rfl
        · rw [if_neg hs] at h; cases h
theorem bytes_ext (a b : ByteArray) (h : a.data.toList = b.data.toList) : a = b := by cases a; cases b; simp at h; simp [Array.toList_inj.mp (by simpa using h)]
/-- The reference's numeral is the library's. -/
theorem l01Num_is (k : Nat) (n : Int) (r : ByteArray) (h0 : -9223372036854775808 ≤ n) (h1 : n ≤ 9223372036854775807) (h : spec_l01Num.f k n = some r) : r = ⟨(Go.Lib.itoa n).toArray⟩ := by
  apply bytes_ext
  unfold spec_l01Num.f at h
  by_cases hn : n = 0
  · subst hn
    rw [if_pos rfl] at h; obtain rfl := Option.some.inj h
    simp only [Go.Lib.itoa]; rw [if_neg (by decide), show (0 : Int).toNat = 0 from rfl, Go.Lib.decDigits_one (by decide)]; rfl
  · rw [if_neg hn] at h
    rw [l01Num_loop k n _ r _ h0 h1 h]
    unfold numTail Go.Lib.itoa
    rw [if_neg hn]
    by_cases hneg : n < 0
    · simp [hneg]
    · simp only [hneg, decide_false, if_false]
      rw [show n.natAbs = n.toNat by omega]; simp
/-- strconv.Itoa: the reference's numeral; by the shelf's contract. -/
theorem strconv_Itoa_12.calls (k : Nat) (a0 : Int) (r : ByteArray) (w : World) (hT : TabT w) (hr : -9223372036854775808 ≤ a0 ∧ a0 ≤ 9223372036854775807) (h : strconv_Itoa_12.f k a0 = some r) :
    Calls Tryd.prog 12 #[.int .i64 a0] w fun e w' => e = .returned (.string r) ∧ Below w.heap.size w w' := by
  have h' : (spec_l01Num.f k a0).bind (fun t => some t) = some r := h
  obtain ⟨t, ht, h2⟩ := Option.bind_eq_some_iff.mp h'
  obtain rfl := Option.some.inj h2
  obtain rfl := l01Num_is k a0 t hr.1 hr.2 ht
  refine (Tryd.strconv_Itoa a0 hr.1 hr.2 w hT).mono ?_
  rintro e w' ⟨rfl, q, os, rfl⟩
  exact ⟨rfl, below_grow w q os⟩

/-! ### impl_number: function 9 -/
def impl_number.f (k : Nat) (a0 : Int) : Option (ByteArray) := (strconv_Itoa_12.f k a0).bind fun t134 => (some t134)
theorem impl_number.mono : ∀ a0 k, LeO (impl_number.f k a0) (impl_number.f (k + 1) a0) := by
  intro a0 k
  unfold impl_number.f
  repeat' first
      | (with_reducible exact strconv_Itoa_12.mono _ _)
      | (with_reducible exact LeO.refl _)
      | (with_reducible exact LeO.none _)
      | (with_reducible refine LeO.ite ?_ ?_)
      | (with_reducible refine LeO.bind ?_ (fun _ => ?_))
      | exact strconv_Itoa_12.mono _ _
      | exact LeO.none _
      | refine LeO.ite ?_ ?_
      | refine LeO.bind ?_ (fun _ => ?_)
set_option maxHeartbeats 40000000 in
set_option maxRecDepth 100000 in
theorem impl_number.calls (k : Nat) (a0 : Int) (r : ByteArray) (w : World) (hT0 : TabT w) (hr0 : -9223372036854775808 ≤ a0 ∧ a0 ≤ 9223372036854775807) (h : impl_number.f k a0 = some r) :
    Calls Tryd.prog 9 #[.int .i64 a0] w fun e w' => e = .returned (.string r) ∧ Below w.heap.size w w' := by
  have HT := Aside0.mk hT0
  clear hT0
  have HB := Aside0.mk (Below.refl w.heap.size w)
  have H : ((strconv_Itoa_12.f k a0).bind fun t134 => (some t134)) = some r := h
  clear h
  replace H := Option.bind_eq_some_iff.mp H
  obtain ⟨t134, A20, H⟩ := H
  replace H : (some t134) = some r := H
  have A2 := Aside0.mk A20
  clear A20
  obtain rfl := Option.some.inj H
  go_enter Tryd.func9, Tryd.ntmps9
  go_wp2_with (first | ((with_reducible refine gate_callee (f := 12) rfl ?_); refine goesL_ (some 4) rfl rfl Tryd.func12 (by kernel_rfl) rfl #[.int .i64 a0] rfl (by (try simp only [List.map_toArray, List.map_cons, List.map_nil]); first | done | rfl | (simp only [List.length_drop, List.length_take]; rfl)) ?_; (refine (strconv_Itoa_12.calls k a0 t134 _ ?tab ?rng A2.out).mono ?_); (case tab => exact tab_below HT.out (by repeat (first | (with_reducible first | exact HB.out | apply below_alloc | apply pw_below_drewN | apply below_drew1) | exact HB.out))); (case rng => exact hr0); rintro e w3 ⟨rfl, hb⟩; refine ⟨_, rfl, ?_⟩; have n0_ := Aside0.mk (below_step (by repeat (first | (with_reducible first | exact HB.out | apply below_alloc | apply pw_below_drewN | apply below_drew1) | exact HB.out)) hb); clear HB; have HB := n0_; clear n0_; (try clear hb); (try clear hb2); (try clear hk); (try clear hi)))
  go_ret
  exact ⟨by first | rfl | (simp [errW_none, errW_some] <;> rfl) | (simp [*, errW_none, errW_some] <;> rfl), by repeat (first | (with_reducible first | exact HB.out | apply below_alloc | apply pw_below_drewN | apply below_drew1) | exact HB.out)⟩

/-! ### impl_TickText: function 5 -/
def impl_TickText.f (k : Nat) (a0 : Int) : Option (ByteArray) := (impl_TickOk.f a0).bind fun t135 => (if t135 = true then ((impl_number.f k (wrap64 (Int.tdiv a0 1000))).bind fun t136 => (if t136.size + 1 ≤ 9223372036854775807 then ((impl_number.f k (wrap64 (1000 + (Int.tmod a0 1000)))).bind fun t137 => (if 1 ≤ (t137.size : Int) then (if (t136 ++ (⟨#[46]⟩ : ByteArray)).size + (t137.extract 1 t137.size).size ≤ 9223372036854775807 then (some ((t136 ++ (⟨#[46]⟩ : ByteArray)) ++ (t137.extract 1 t137.size))) else (none)) else (none))) else (none))) else (some (⟨#[]⟩ : ByteArray)))
theorem impl_TickText.mono : ∀ a0 k, LeO (impl_TickText.f k a0) (impl_TickText.f (k + 1) a0) := by
  intro a0 k
  unfold impl_TickText.f
  repeat' first
      | (with_reducible exact impl_number.mono _ _)
      | (with_reducible exact LeO.refl _)
      | (with_reducible exact LeO.none _)
      | (with_reducible refine LeO.ite ?_ ?_)
      | (with_reducible refine LeO.bind ?_ (fun _ => ?_))
      | exact impl_number.mono _ _
      | exact LeO.none _
      | refine LeO.ite ?_ ?_
      | refine LeO.bind ?_ (fun _ => ?_)
set_option maxHeartbeats 40000000 in
set_option maxRecDepth 100000 in
theorem impl_TickText.calls (k : Nat) (a0 : Int) (r : ByteArray) (w : World) (hT0 : TabT w) (h : impl_TickText.f k a0 = some r) :
    Calls Tryd.prog 5 #[.int .i64 a0] w fun e w' => e = .returned (.string r) ∧ Below w.heap.size w w' := by
  have HT := Aside0.mk hT0
  clear hT0
  have HB := Aside0.mk (Below.refl w.heap.size w)
  have H : ((impl_TickOk.f a0).bind fun t135 => (if t135 = true then ((impl_number.f k (wrap64 (Int.tdiv a0 1000))).bind fun t136 => (if t136.size + 1 ≤ 9223372036854775807 then ((impl_number.f k (wrap64 (1000 + (Int.tmod a0 1000)))).bind fun t137 => (if 1 ≤ (t137.size : Int) then (if (t136 ++ (⟨#[46]⟩ : ByteArray)).size + (t137.extract 1 t137.size).size ≤ 9223372036854775807 then (some ((t136 ++ (⟨#[46]⟩ : ByteArray)) ++ (t137.extract 1 t137.size))) else (none)) else (none))) else (none))) else (some (⟨#[]⟩ : ByteArray)))) = some r := h
  clear h
  replace H := Option.bind_eq_some_iff.mp H
  obtain ⟨t135, A20, H⟩ := H
  replace H : (if t135 = true then ((impl_number.f k (wrap64 (Int.tdiv a0 1000))).bind fun t136 => (if t136.size + 1 ≤ 9223372036854775807 then ((impl_number.f k (wrap64 (1000 + (Int.tmod a0 1000)))).bind fun t137 => (if 1 ≤ (t137.size : Int) then (if (t136 ++ (⟨#[46]⟩ : ByteArray)).size + (t137.extract 1 t137.size).size ≤ 9223372036854775807 then (some ((t136 ++ (⟨#[46]⟩ : ByteArray)) ++ (t137.extract 1 t137.size))) else (none)) else (none))) else (none))) else (some (⟨#[]⟩ : ByteArray))) = some r := H
  have A2 := Aside0.mk A20
  clear A20
  by_cases c3 : t135 = true
  · subst c3
    have H1 : ((impl_number.f k (wrap64 (Int.tdiv a0 1000))).bind fun t136 => (if t136.size + 1 ≤ 9223372036854775807 then ((impl_number.f k (wrap64 (1000 + (Int.tmod a0 1000)))).bind fun t137 => (if 1 ≤ (t137.size : Int) then (if (t136 ++ (⟨#[46]⟩ : ByteArray)).size + (t137.extract 1 t137.size).size ≤ 9223372036854775807 then (some ((t136 ++ (⟨#[46]⟩ : ByteArray)) ++ (t137.extract 1 t137.size))) else (none)) else (none))) else (none))) = some r := by rw [if_pos rfl] at H; exact H
    clear H
    have H := H1
    clear H1
    replace H := Option.bind_eq_some_iff.mp H
    obtain ⟨t136, A40, H⟩ := H
    replace H : (if t136.size + 1 ≤ 9223372036854775807 then ((impl_number.f k (wrap64 (1000 + (Int.tmod a0 1000)))).bind fun t137 => (if 1 ≤ (t137.size : Int) then (if (t136 ++ (⟨#[46]⟩ : ByteArray)).size + (t137.extract 1 t137.size).size ≤ 9223372036854775807 then (some ((t136 ++ (⟨#[46]⟩ : ByteArray)) ++ (t137.extract 1 t137.size))) else (none)) else (none))) else (none)) = some r := H
    have A4 := Aside0.mk A40
    clear A40
    by_cases c5 : t136.size + 1 ≤ 9223372036854775807
    · rw [if_pos c5] at H
      have c5b0 := eq_true c5
      have c5b1 : decide (t136.size + 1 ≤ 9223372036854775807) = true := decide_eq_true c5
      try have c5b2 : (9223372036854775807 < t136.size + 1) = False := eq_false (Nat.not_lt.2 c5)
      replace H := Option.bind_eq_some_iff.mp H
      obtain ⟨t137, A60, H⟩ := H
      replace H : (if 1 ≤ (t137.size : Int) then (if (t136 ++ (⟨#[46]⟩ : ByteArray)).size + (t137.extract 1 t137.size).size ≤ 9223372036854775807 then (some ((t136 ++ (⟨#[46]⟩ : ByteArray)) ++ (t137.extract 1 t137.size))) else (none)) else (none)) = some r := H
      have A6 := Aside0.mk A60
      clear A60
      by_cases c7 : 1 ≤ (t137.size : Int)
      · rw [if_pos c7] at H
        have c7b0 := eq_true c7
        have c7b1 : decide (1 ≤ (t137.size : Int)) = true := decide_eq_true c7
        clear c7
        by_cases c8 : (t136 ++ (⟨#[46]⟩ : ByteArray)).size + (t137.extract 1 t137.size).size ≤ 9223372036854775807
        · rw [if_pos c8] at H
          have c8b0 := eq_true c8
          have c8b1 : decide ((t136 ++ (⟨#[46]⟩ : ByteArray)).size + (t137.extract 1 t137.size).size ≤ 9223372036854775807) = true := decide_eq_true c8
          try have c8b2 : (9223372036854775807 < (t136 ++ (⟨#[46]⟩ : ByteArray)).size + (t137.extract 1 t137.size).size) = False := eq_false (Nat.not_lt.2 c8)
          try have c8b11 : (9223372036854775807 < t136.size + 1 + (t137.extract 1 t137.size).size) = False := eq_false (by have h_ := c8; simp only [ByteArray.size_append, ByteArray.size_extract] at h_; have h2_ : (⟨#[46]⟩ : ByteArray).size = 1 := rfl; omega)
          try have c8b12 : (9223372036854775807 < t136.size + 1 + (t137.size - 1)) = False := eq_false (by have h_ := c8; simp only [ByteArray.size_append, ByteArray.size_extract] at h_; have h2_ : (⟨#[46]⟩ : ByteArray).size = 1 := rfl; omega)
          obtain rfl := Option.some.inj H
          go_enter Tryd.func5, Tryd.ntmps5
          go_wp2_with (first | ((with_reducible refine gate_callee (f := 8) rfl ?_); refine goesL_ (some 4) rfl rfl Tryd.func8 (by kernel_rfl) rfl #[.int .i64 a0] rfl (by (try simp only [List.map_toArray, List.map_cons, List.map_nil]); first | done | rfl | (simp only [List.length_drop, List.length_take]; rfl)) ?_; (with_reducible refine (impl_TickOk.calls a0 true _ A2.out).mono ?_); rintro e w' ⟨rfl, ⟨nd, rfl⟩⟩; refine ⟨_, rfl, ?_⟩) | ((with_reducible refine gate_callee (f := 9) rfl ?_); refine goesL_ (some 8) rfl rfl Tryd.func9 (by kernel_rfl) rfl #[.int .i64 (wrap64 (Int.tdiv a0 1000))] rfl (by (try simp only [List.map_toArray, List.map_cons, List.map_nil]); first | done | rfl | (simp only [List.length_drop, List.length_take]; rfl)) ?_; (refine (impl_number.calls k (wrap64 (Int.tdiv a0 1000)) t136 _ ?tab ?rng A4.out).mono ?_); (case tab => exact tab_below HT.out (by repeat (first | (with_reducible first | exact HB.out | apply below_alloc | apply pw_below_drewN | apply below_drew1) | exact HB.out))); (case rng => exact wrap64_rng _); rintro e w9 ⟨rfl, hb⟩; refine ⟨_, rfl, ?_⟩; have n0_ := Aside0.mk (below_step (by repeat (first | (with_reducible first | exact HB.out | apply below_alloc | apply pw_below_drewN | apply below_drew1) | exact HB.out)) hb); clear HB; have HB := n0_; clear n0_; (try clear hb); (try clear hb2); (try clear hk); (try clear hi)) | ((with_reducible refine gate_callee (f := 9) rfl ?_); refine goesL_ (some 13) rfl rfl Tryd.func9 (by kernel_rfl) rfl #[.int .i64 (wrap64 (1000 + (Int.tmod a0 1000)))] rfl (by (try simp only [List.map_toArray, List.map_cons, List.map_nil]); first | done | rfl | (simp only [List.length_drop, List.length_take]; rfl)) ?_; (refine (impl_number.calls k (wrap64 (1000 + (Int.tmod a0 1000))) t137 _ ?tab ?rng A6.out).mono ?_); (case tab => exact tab_below HT.out (by repeat (first | (with_reducible first | exact HB.out | apply below_alloc | apply pw_below_drewN | apply below_drew1) | exact HB.out))); (case rng => exact wrap64_rng _); rintro e w10 ⟨rfl, hb⟩; refine ⟨_, rfl, ?_⟩; have n0_ := Aside0.mk (below_step (by repeat (first | (with_reducible first | exact HB.out | apply below_alloc | apply pw_below_drewN | apply below_drew1) | exact HB.out)) hb); clear HB; have HB := n0_; clear n0_; (try clear hb); (try clear hb2); (try clear hk); (try clear hi)))
          go_ret
          exact ⟨by first | rfl | (simp [errW_none, errW_some] <;> rfl) | (simp [*, errW_none, errW_some] <;> rfl), by repeat (first | (with_reducible first | exact HB.out | apply below_alloc | apply pw_below_drewN | apply below_drew1) | exact HB.out)⟩
        · rw [if_neg c8] at H
          exact absurd H (by simp)
      · rw [if_neg c7] at H
        exact absurd H (by simp)
    · rw [if_neg c5] at H
      exact absurd H (by simp)
  · replace c3 := Bool.eq_false_iff.mpr c3
    subst c3
    have H1 : (some (⟨#[]⟩ : ByteArray)) = some r := by rw [if_neg (show ¬ (false = true) by decide)] at H; exact H
    clear H
    have H := H1
    clear H1
    obtain rfl := Option.some.inj H
    go_enter Tryd.func5, Tryd.ntmps5
    go_wp2_with (first | ((with_reducible refine gate_callee (f := 8) rfl ?_); refine goesL_ (some 4) rfl rfl Tryd.func8 (by kernel_rfl) rfl #[.int .i64 a0] rfl (by (try simp only [List.map_toArray, List.map_cons, List.map_nil]); first | done | rfl | (simp only [List.length_drop, List.length_take]; rfl)) ?_; (with_reducible refine (impl_TickOk.calls a0 false _ A2.out).mono ?_); rintro e w' ⟨rfl, ⟨nd, rfl⟩⟩; refine ⟨_, rfl, ?_⟩))
    go_ret
    exact ⟨by first | rfl | (simp [errW_none, errW_some] <;> rfl) | (simp [*, errW_none, errW_some] <;> rfl), by repeat (first | (with_reducible first | exact HB.out | apply below_alloc | apply pw_below_drewN | apply below_drew1) | exact HB.out)⟩

/-! ### laws_FnExactTickText: function 3 -/
def laws_FnExactTickText.f (k : Nat) (a0 : Int) : Option (Bool) := (spec_TickText.f k a0).bind fun t138 => ((impl_TickText.f k a0).bind fun t139 => (if t139.toList = t138.toList then (some true) else (some false)))
theorem laws_FnExactTickText.mono : ∀ a0 k, LeO (laws_FnExactTickText.f k a0) (laws_FnExactTickText.f (k + 1) a0) := by
  intro a0 k
  unfold laws_FnExactTickText.f
  repeat' first
      | (with_reducible exact impl_TickText.mono _ _)
      | (with_reducible exact spec_TickText.mono _ _)
      | (with_reducible exact LeO.refl _)
      | (with_reducible exact LeO.none _)
      | (with_reducible refine LeO.ite ?_ ?_)
      | (with_reducible refine LeO.bind ?_ (fun _ => ?_))
      | exact impl_TickText.mono _ _
      | exact spec_TickText.mono _ _
      | exact LeO.none _
      | refine LeO.ite ?_ ?_
      | refine LeO.bind ?_ (fun _ => ?_)
set_option maxHeartbeats 40000000 in
set_option maxRecDepth 100000 in
theorem laws_FnExactTickText.calls (k : Nat) (a0 : Int) (r : Bool) (w : World) (hT0 : TabT w) (h : laws_FnExactTickText.f k a0 = some r) :
    Calls Tryd.prog 3 #[.int .i64 a0] w fun e w' => e = .returned (.bool r) ∧ Below w.heap.size w w' := by
  have HT := Aside0.mk hT0
  clear hT0
  have HB := Aside0.mk (Below.refl w.heap.size w)
  have H : ((spec_TickText.f k a0).bind fun t138 => ((impl_TickText.f k a0).bind fun t139 => (if t139.toList = t138.toList then (some true) else (some false)))) = some r := h
  clear h
  replace H := Option.bind_eq_some_iff.mp H
  obtain ⟨t138, A20, H⟩ := H
  replace H : ((impl_TickText.f k a0).bind fun t139 => (if t139.toList = t138.toList then (some true) else (some false))) = some r := H
  have A2 := Aside0.mk A20
  clear A20
  replace H := Option.bind_eq_some_iff.mp H
  obtain ⟨t139, A30, H⟩ := H
  replace H : (if t139.toList = t138.toList then (some true) else (some false)) = some r := H
  have A3 := Aside0.mk A30
  clear A30
  by_cases c4 : t139.toList = t138.toList
  · rw [if_pos c4] at H
    have c4b0 : (t139.toList == t138.toList) = true := beq_iff_eq.mpr c4
    have c4b1 : (t139.toList != t138.toList) = false := bne_eq_false_iff_eq.mpr c4
    clear c4
    obtain rfl := Option.some.inj H
    go_enter Tryd.func3, Tryd.ntmps3
    go_wp2_with (first | ((with_reducible refine gate_callee (f := 4) rfl ?_); refine goesL_ (some 6) rfl rfl Tryd.func4 (by kernel_rfl) rfl #[.int .i64 a0] rfl (by (try simp only [List.map_toArray, List.map_cons, List.map_nil]); first | done | rfl | (simp only [List.length_drop, List.length_take]; rfl)) ?_; (with_reducible refine (spec_TickText.calls k a0 t138 _ A2.out).mono ?_); rintro e w5 ⟨rfl, hb⟩; refine ⟨_, rfl, ?_⟩; have n0_ := Aside0.mk (below_step (by repeat (first | (with_reducible first | exact HB.out | apply below_alloc | apply pw_below_drewN | apply below_drew1) | exact HB.out)) hb); clear HB; have HB := n0_; clear n0_; (try clear hb); (try clear hb2); (try clear hk); (try clear hi)) | ((with_reducible refine gate_callee (f := 5) rfl ?_); refine goesL_ (some 8) rfl rfl Tryd.func5 (by kernel_rfl) rfl #[.int .i64 a0] rfl (by (try simp only [List.map_toArray, List.map_cons, List.map_nil]); first | done | rfl | (simp only [List.length_drop, List.length_take]; rfl)) ?_; (refine (impl_TickText.calls k a0 t139 _ ?tab A3.out).mono ?_); (case tab => exact tab_below HT.out (by repeat (first | (with_reducible first | exact HB.out | apply below_alloc | apply pw_below_drewN | apply below_drew1) | exact HB.out))); rintro e w6 ⟨rfl, hb⟩; refine ⟨_, rfl, ?_⟩; have n0_ := Aside0.mk (below_step (by repeat (first | (with_reducible first | exact HB.out | apply below_alloc | apply pw_below_drewN | apply below_drew1) | exact HB.out)) hb); clear HB; have HB := n0_; clear n0_; (try clear hb); (try clear hb2); (try clear hk); (try clear hi)))
    go_ret
    exact ⟨by first | rfl | (simp [errW_none, errW_some] <;> rfl) | (simp [*, errW_none, errW_some] <;> rfl), by repeat (first | (with_reducible first | exact HB.out | apply below_alloc | apply pw_below_drewN | apply below_drew1) | exact HB.out)⟩
  · rw [if_neg c4] at H
    have c4b0 : (t139.toList == t138.toList) = false := beq_eq_false_iff_ne.mpr c4
    have c4b1 : (t139.toList != t138.toList) = true := bne_iff_ne.mpr c4
    obtain rfl := Option.some.inj H
    go_enter Tryd.func3, Tryd.ntmps3
    go_wp2_with (first | ((with_reducible refine gate_callee (f := 4) rfl ?_); refine goesL_ (some 6) rfl rfl Tryd.func4 (by kernel_rfl) rfl #[.int .i64 a0] rfl (by (try simp only [List.map_toArray, List.map_cons, List.map_nil]); first | done | rfl | (simp only [List.length_drop, List.length_take]; rfl)) ?_; (with_reducible refine (spec_TickText.calls k a0 t138 _ A2.out).mono ?_); rintro e w7 ⟨rfl, hb⟩; refine ⟨_, rfl, ?_⟩; have n0_ := Aside0.mk (below_step (by repeat (first | (with_reducible first | exact HB.out | apply below_alloc | apply pw_below_drewN | apply below_drew1) | exact HB.out)) hb); clear HB; have HB := n0_; clear n0_; (try clear hb); (try clear hb2); (try clear hk); (try clear hi)) | ((with_reducible refine gate_callee (f := 5) rfl ?_); refine goesL_ (some 8) rfl rfl Tryd.func5 (by kernel_rfl) rfl #[.int .i64 a0] rfl (by (try simp only [List.map_toArray, List.map_cons, List.map_nil]); first | done | rfl | (simp only [List.length_drop, List.length_take]; rfl)) ?_; (refine (impl_TickText.calls k a0 t139 _ ?tab A3.out).mono ?_); (case tab => exact tab_below HT.out (by repeat (first | (with_reducible first | exact HB.out | apply below_alloc | apply pw_below_drewN | apply below_drew1) | exact HB.out))); rintro e w8 ⟨rfl, hb⟩; refine ⟨_, rfl, ?_⟩; have n0_ := Aside0.mk (below_step (by repeat (first | (with_reducible first | exact HB.out | apply below_alloc | apply pw_below_drewN | apply below_drew1) | exact HB.out)) hb); clear HB; have HB := n0_; clear n0_; (try clear hb); (try clear hb2); (try clear hk); (try clear hi)))
    go_ret
    exact ⟨by first | rfl | (simp [errW_none, errW_some] <;> rfl) | (simp [*, errW_none, errW_some] <;> rfl), by repeat (first | (with_reducible first | exact HB.out | apply below_alloc | apply pw_below_drewN | apply below_drew1) | exact HB.out)⟩

/-- THE ONE PURE STATEMENT of laws_FnExactTickText: yours. -/
def laws_FnExactTickText.Pure : Prop := ∀ (a0 : Int), (Lit.int .i64 a0).wf = true → ∃ k, laws_FnExactTickText.f k a0 = some true
theorem laws_FnExactTickText.walk (P : laws_FnExactTickText.Pure) (a0 : Int) (w : World) (hT : TabT w) (w0 : (Lit.int .i64 a0).wf = true) :
    Calls Tryd.prog 3 #[.int .i64 a0] w fun e w' => e = .returned (.bool true) ∧ Below w.heap.size w w' := by
  obtain ⟨k, h⟩ := P a0 w0
  refine (laws_FnExactTickText.calls k a0 true w hT h).mono ?_
  rintro e w' ⟨rfl, hd⟩
  exact ⟨rfl, hd⟩

end Go.Proofs.YthafbkpoepblgacDoor.MFnExactTickText
