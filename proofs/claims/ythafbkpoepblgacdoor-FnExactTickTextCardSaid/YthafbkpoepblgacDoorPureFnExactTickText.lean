/-
For every whole number the program's TickText and the reference's TickText answer the same text (the printed law answers true). The number is any 64-bit number.
-/
import Derived.Test.YthafbkpoepblgacDoorMFnExactTickTextx2
import Derived.Lib.ItoaNum
namespace Go.Proofs.YthafbkpoepblgacDoor.Pure
open Go.RowKit Go.Proofs.YthafbkpoepblgacDoor.MFnExactTickText Go.Proofs.YthafbkpoepblgacDoorW.PrintWords Go.Proofs.YthafbkpoepblgacDoorW.PrintLast Go.Proofs.YthafbkpoepblgacDoorW.PrintMore 
set_option linter.unusedVariables false
set_option linter.unusedSimpArgs false

theorem w64 {n : Int} (h0 : -9223372036854775808 ≤ n) (h1 : n ≤ 9223372036854775807) : wrap64 n = n := by unfold wrap64; omega
theorem wsucc (i : Nat) (h : i < 9223372036854775807) : wrap64 ((i : Int) + 1) = ((i + 1 : Nat) : Int) := by rw [w64 (by omega) (by omega)]; omega
theorem rd_nat (xs : List Int) (i : Nat) (h : i < xs.length) : rd xs (i : Int) = xs[i] := by simp [rd, h]
theorem rdOf_nat {α : Type} (d : α) (xs : List α) (i : Nat) (h : i < xs.length) : rdOf d xs (i : Int) = xs[i] := by simp [rdOf, h]
theorem Ev.pos {α : Type} {c : Prop} [Decidable c] {A B : Nat → Option α} {r : α} (h : c) (e : Ev A r) : Ev (fun k => if c then A k else B k) r := Ev.congr (fun _ => if_pos h) e
theorem Ev.neg {α : Type} {c : Prop} [Decidable c] {A B : Nat → Option α} {r : α} (h : ¬ c) (e : Ev B r) : Ev (fun k => if c then A k else B k) r := Ev.congr (fun _ => if_neg h) e
theorem Ev.bind' {α β : Type} {g : Nat → Option α} {f : Nat → α → Option β} {r : β} (a : α) (h : Ev g a) (k : Ev (fun n => f n a) r) : Ev (fun n => (g n).bind (f n)) r := Ev.bind h k
theorem Ev.some' {α β : Type} {a : α} {f : Nat → α → Option β} {r : β} (k : Ev (fun n => f n a) r) : Ev (fun n => (Option.some a).bind (f n)) r := Ev.bind (Ev.now a) k
theorem Ev.is {α : Type} {g : Nat → Option α} {r : α} (h : ∀ k, g k = some r) : Ev g r := ⟨0, fun k _ => h k⟩
theorem Ev.at1 {α : Type} {g : Nat → Option α} {r : α} (h : ∀ k, g (k + 1) = some r) : Ev g r := ⟨1, fun k hk => by obtain ⟨m, rfl⟩ : ∃ m, k = m + 1 := ⟨k - 1, by omega⟩; exact h m⟩
theorem Ev.at2 {α : Type} {g : Nat → Option α} {r : α} (h : ∀ k, g (k + 2) = some r) : Ev g r := ⟨2, fun k hk => by obtain ⟨m, rfl⟩ : ∃ m, k = m + 2 := ⟨k - 2, by omega⟩; exact h m⟩
theorem Ev.at3 {α : Type} {g : Nat → Option α} {r : α} (h : ∀ k, g (k + 3) = some r) : Ev g r := ⟨3, fun k hk => by obtain ⟨m, rfl⟩ : ∃ m, k = m + 3 := ⟨k - 3, by omega⟩; exact h m⟩
/-- What a loop over a list comes to: a state, a step that goes on or answers, an end. -/
def runE {α σ ρ : Type} (step : Nat → σ → α → Except ρ σ) (fin : σ → ρ) : Nat → List α → σ → ρ
  | _, [], s => fin s
  | i, x :: xs, s => match step i s x with
    | .error r => r
    | .ok s' => runE step fin (i + 1) xs s'
/-- A loop over a list, round by round (from K rounds on). -/
theorem loop_run {α σ ρ : Type} (xs : List α) (L : Nat → σ → Int → Option ρ) (step : Nat → σ → α → Except ρ σ) (fin : σ → ρ) (K : Nat)
    (hs : ∀ k, K ≤ k → ∀ s (i : Nat) (h : i < xs.length), L (k + 1) s i = match step i s xs[i] with | .error r => some r | .ok s' => L k s' ((i + 1 : Nat) : Int))
    (he : ∀ k s, L (k + 1) s (xs.length : Int) = some (fin s)) :
    ∀ (d k : Nat) (s : σ) (i : Nat), i ≤ xs.length → xs.length - i = d → d + K < k → L k s (i : Int) = some (runE step fin i (xs.drop i) s) := by
  intro d
  induction d with
  | zero =>
    intro k s i hi hd hk
    obtain ⟨k, rfl⟩ : ∃ m, k = m + 1 := ⟨k - 1, by omega⟩
    obtain rfl : i = xs.length := by omega
    rw [he, List.drop_length, runE]
  | succ d ih =>
    intro k s i hi hd hk
    obtain ⟨k, rfl⟩ : ∃ m, k = m + 1 := ⟨k - 1, by omega⟩
    have hlt : i < xs.length := by omega
    rw [hs k (by omega) s i hlt, List.drop_eq_getElem_cons hlt, runE]
    cases step i s xs[i] with
    | error r => rfl
    | ok s' => exact ih k s' (i + 1) (by omega) (by omega) (by omega)
/-- The same, from the start. -/
theorem loop_ev {α σ ρ : Type} (xs : List α) (L : Nat → σ → Int → Option ρ) (step : Nat → σ → α → Except ρ σ) (fin : σ → ρ) (K : Nat)
    (hs : ∀ k, K ≤ k → ∀ s (i : Nat) (h : i < xs.length), L (k + 1) s i = match step i s xs[i] with | .error r => some r | .ok s' => L k s' ((i + 1 : Nat) : Int))
    (he : ∀ k s, L (k + 1) s (xs.length : Int) = some (fin s)) (s : σ) : Ev (fun k => L k s 0) (runE step fin 0 xs s) :=
  ⟨xs.length + K + 1, fun k hk => by have := loop_run xs L step fin K hs he xs.length k s 0 (by omega) (by omega) (by omega); simpa using this⟩
theorem wf_b {n : Int} (h : (Lit.int .i64 n).wf = true) : -9223372036854775808 ≤ n ∧ n ≤ 9223372036854775807 := by
  simp [Lit.wf, IntKind.min, IntKind.max, IntKind.signed, IntKind.bits] at h
  omega
theorem Ev.ite {α : Type} {c : Prop} [Decidable c] {A B : Nat → Option α} {a b : α} (h1 : c → Ev A a) (h2 : ¬ c → Ev B b) : Ev (fun k => if c then A k else B k) (if c then a else b) := by
  by_cases h : c
  · rw [if_pos h]; exact Ev.pos h (h1 h)
  · rw [if_neg h]; exact Ev.neg h (h2 h)

theorem sIn (a b c : Int) : spec_l01In.f a b c = some (decide (b ≤ a ∧ a ≤ c)) := by
  unfold spec_l01In.f; by_cases h : b ≤ a <;> simp [h]

theorem sTick (a : Int) : spec_TickOk.f a = some (decide (0 ≤ a ∧ a ≤ 1000000000)) := by unfold spec_TickOk.f; rw [sIn]; rfl

theorem iIn (a b c : Int) : impl_in.f a b c = some (decide (b ≤ a ∧ a ≤ c)) := by
  unfold impl_in.f; by_cases h : b ≤ a <;> simp [h]

theorem iTick (a : Int) : impl_TickOk.f a = some (decide (0 ≤ a ∧ a ≤ 1000000000)) := by unfold impl_TickOk.f; rw [iIn]; rfl



/-- A number's sign and digits ahead of what is there. -/
def numTail (x : Int) (s : List UInt8) (b : Bool) : List UInt8 := (if b then [45] else []) ++ ((if x = 0 then [] else Go.Lib.decDigits x.natAbs) ++ s)
theorem numTail_step (x : Int) (s : List UInt8) (b : Bool) (h : x ≠ 0) : numTail (Int.tdiv x 10) (UInt8.ofNat (48 + x.natAbs % 10) :: s) b = numTail x s b := by
  unfold numTail
  rw [if_neg h]
  congr 1
  have hd : (Int.tdiv x 10).natAbs = x.natAbs / 10 := by rw [Int.natAbs_tdiv]; rfl
  by_cases h10 : x.natAbs < 10
  · have h0 : Int.tdiv x 10 = 0 := by omega
    rw [if_pos h0, Go.Lib.decDigits_one h10, Nat.mod_eq_of_lt h10]; rfl
  · have h0 : Int.tdiv x 10 ≠ 0 := by omega
    rw [if_neg h0, hd]
    conv => rhs; rw [Go.Lib.decDigits, dif_neg h10]
    simp
theorem digit_byte (x : Int) (d : Int) (h : d = x.natAbs % 10) : (strOfNums [wrap64 (48 + d) % 256]).data.toList = [UInt8.ofNat (48 + x.natAbs % 10)] := by
  have e : wrap64 (48 + d) % 256 = ((48 + x.natAbs % 10 : Nat) : Int) := by unfold wrap64; omega
  rw [strOfNums_data, e]; show [UInt8.ofNat ((48 + x.natAbs % 10 : Nat) : Int).toNat] = _; rw [Int.toNat_natCast]
theorem bytes_cat (a b : ByteArray) : (a ++ b).data.toList = a.data.toList ++ b.data.toList := by simp
theorem l01Num_loop : ∀ (k : Nat) (x : Int) (s r : ByteArray) (b : Bool), -9223372036854775808 ≤ x → x ≤ 9223372036854775807 → spec_l01Num.l0 k x s b = some r → r.data.toList = numTail x s.data.toList b
  | 0, _, _, _, _, _, _, h => by simp [spec_l01Num.l0] at h
  | k + 1, x, s, r, b, h0, h1, h => by
    rw [spec_l01Num.l0] at h
    by_cases hx : x = 0
    · rw [if_pos hx] at h
      unfold numTail; rw [if_pos hx]
      cases b with
      | true =>
        rw [if_pos rfl] at h
        by_cases hs : 1 + s.size ≤ 9223372036854775807
        · rw [if_pos hs] at h
          obtain rfl := Option.some.inj h
          rw [bytes_cat]; rfl
        · rw [if_neg hs] at h; cases h
      | false => rw [if_neg (by decide)] at h; obtain rfl := Option.some.inj h; rfl
    · rw [if_neg hx] at h
      have hd : (Int.tdiv x 10).natAbs = x.natAbs / 10 := by rw [Int.natAbs_tdiv]; rfl
      have hq : wrap64 (Int.tdiv x 10) = Int.tdiv x 10 := by unfold wrap64; omega
      have hm : (Int.tmod x 10).natAbs = x.natAbs % 10 := by rw [Int.natAbs_tmod]; rfl
      by_cases hn : Int.tmod x 10 < 0
      · rw [if_pos hn, Option.bind_some] at h
        have hw : wrap64 (-(Int.tmod x 10)) = x.natAbs % 10 := by unfold wrap64; omega
        rw [hq] at h
        by_cases hs : (strOfNums [wrap64 (48 + wrap64 (-(Int.tmod x 10))) % 256]).size + s.size ≤ 9223372036854775807
        · rw [if_pos hs] at h
          have e := l01Num_loop k _ _ r b (by omega) (by omega) h
          rw [e, bytes_cat, digit_byte x _ hw, ← numTail_step x _ b hx]; rfl
        · rw [if_neg hs] at h; cases h
      · rw [if_neg hn, Option.bind_some] at h
        rw [hq] at h
        by_cases hs : (strOfNums [wrap64 (48 + (Int.tmod x 10)) % 256]).size + s.size ≤ 9223372036854775807
        · rw [if_pos hs] at h
          have e := l01Num_loop k _ _ r b (by omega) (by omega) h
          rw [e, bytes_cat, digit_byte x _ (by omega), ← numTail_step x _ b hx]; rfl
        · rw [if_neg hs] at h; cases h
theorem bytes_ext (a b : ByteArray) (h : a.data.toList = b.data.toList) : a = b := by cases a; cases b; simp at h; simp [Array.toList_inj.mp (by simpa using h)]
/-- The reference's numeral is the library's. -/
theorem l01Num_is (k : Nat) (n : Int) (r : ByteArray) (h0 : -9223372036854775808 ≤ n) (h1 : n ≤ 9223372036854775807) (h : spec_l01Num.f k n = some r) : r = ⟨(Go.Lib.itoa n).toArray⟩ := by
  apply bytes_ext
  unfold spec_l01Num.f at h
  by_cases hn : n = 0
  · subst hn
    rw [if_pos rfl] at h; obtain rfl := Option.some.inj h
    simp only [Go.Lib.itoa]; rw [if_neg (by decide), show (0 : Int).toNat = 0 from rfl, Go.Lib.decDigits_one (by decide)]; rfl
  · rw [if_neg hn] at h
    rw [l01Num_loop k n _ r _ h0 h1 h]
    unfold numTail Go.Lib.itoa
    rw [if_neg hn]
    by_cases hneg : n < 0
    · simp [hneg]
    · simp only [hneg, decide_false, if_false]
      rw [show n.natAbs = n.toNat by omega]; simp

theorem l01Num_ends : ∀ (k : Nat) (x : Int) (s : ByteArray) (b : Bool), -9223372036854775808 ≤ x → x ≤ 9223372036854775807 → x.natAbs < 10 ^ k → s.size + k ≤ 4611686018427387904 → ∃ r, spec_l01Num.l0 (k + 1) x s b = some r
  | 0, x, s, b, _, _, hx, hs => by
    have h0 : x = 0 := by omega
    rw [spec_l01Num.l0, if_pos h0]
    by_cases hb : b = true
    · rw [if_pos hb, if_pos (by omega)]; exact ⟨_, rfl⟩
    · rw [if_neg hb]; exact ⟨_, rfl⟩
  | k + 1, x, s, b, h0, h1, hx, hs => by
    rw [spec_l01Num.l0]
    by_cases hz : x = 0
    · rw [if_pos hz]
      by_cases hb : b = true
      · rw [if_pos hb, if_pos (by omega)]; exact ⟨_, rfl⟩
      · rw [if_neg hb]; exact ⟨_, rfl⟩
    · rw [if_neg hz]
      have hd : (Int.tdiv x 10).natAbs = x.natAbs / 10 := by rw [Int.natAbs_tdiv]; rfl
      have hq : wrap64 (Int.tdiv x 10) = Int.tdiv x 10 := by unfold wrap64; omega
      have hp : 10 ^ (k + 1) = 10 * 10 ^ k := by rw [Nat.pow_succ]; omega
      by_cases hn : Int.tmod x 10 < 0
      · rw [if_pos hn, Option.bind_some, strOfNums_size, if_pos (by simp; omega), hq]
        exact l01Num_ends k _ _ b (by omega) (by omega) (by omega) (by rw [ByteArray.size_append, strOfNums_size]; simp; omega)
      · rw [if_neg hn, Option.bind_some, strOfNums_size, if_pos (by simp; omega), hq]
        exact l01Num_ends k _ _ b (by omega) (by omega) (by omega) (by rw [ByteArray.size_append, strOfNums_size]; simp; omega)
/-- The numeral, with rounds enough. -/
theorem l01Num_ev (n : Int) (h0 : -9223372036854775808 ≤ n) (h1 : n ≤ 9223372036854775807) : Ev (fun k => spec_l01Num.f k n) (⟨(Go.Lib.itoa n).toArray⟩ : ByteArray) := by
  obtain ⟨r, hr⟩ : ∃ r, spec_l01Num.f 20 n = some r := by
    unfold spec_l01Num.f
    by_cases hn : n = 0
    · rw [if_pos hn]; exact ⟨_, rfl⟩
    · rw [if_neg hn]; exact l01Num_ends 19 n _ _ h0 h1 (by omega) (by decide)
  have e := l01Num_is 20 n r h0 h1 hr
  subst e
  exact Ev.of (fun k => spec_l01Num.mono n k) hr

theorem three (r : Nat) (h : r < 1000) : Go.Lib.decDigits (1000 + r) = [49, UInt8.ofNat (48 + r / 100), UInt8.ofNat (48 + r / 10 % 10), UInt8.ofNat (48 + r % 10)] := by
  rw [Go.Lib.decDigits, dif_neg (by omega), Go.Lib.decDigits, dif_neg (by omega), Go.Lib.decDigits, dif_neg (by omega), Go.Lib.decDigits_one (by omega)]
  have e1 : (1000 + r) / 10 / 10 / 10 = 1 := by omega
  have e2 : (1000 + r) / 10 / 10 % 10 = r / 100 := by omega
  have e3 : (1000 + r) / 10 % 10 = r / 10 % 10 := by omega
  have e4 : (1000 + r) % 10 = r % 10 := by omega
  rw [e1, e2, e3, e4]; rfl
theorem itoa_len (n : Int) (h0 : 0 ≤ n) (h1 : n ≤ 1000000) : (Go.Lib.itoa n).length ≤ 20 := by
  unfold Go.Lib.itoa
  rw [if_neg (by omega), Go.Lib.decDigits_length]
  have := (Go.Lib.nDigits_unique)
  have key : ∀ (k u : Nat), u < 10 ^ k → 0 < k → Go.Lib.nDigits u ≤ k := by
    intro k
    induction k with
    | zero => intro u hu h; omega
    | succ k ih =>
      intro u hu _
      by_cases h10 : u < 10
      · rw [Go.Lib.nDigits_small h10]; omega
      · rw [Go.Lib.nDigits_big h10]
        have hk : 0 < k := by
          rcases k with _ | k
          · simp at hu; omega
          · omega
        have := ih (u / 10) (by rw [Nat.pow_succ] at hu; omega) hk
        omega
  have := key 20 n.toNat (by omega) (by decide)
  omega
theorem byte_size (l : List UInt8) : (⟨l.toArray⟩ : ByteArray).size = l.length := by simp [ByteArray.size]
theorem byte_of (n : Int) (h0 : 0 ≤ n) (h1 : n < 256) : UInt8.ofNat (n % 256).toNat = UInt8.ofNat n.toNat := by rw [Int.emod_eq_of_lt h0 h1]
theorem FnExactTickText : laws_FnExactTickText.Pure := by
  intro a w
  obtain ⟨w0, w1⟩ := wf_b w
  refine Ev.rounds (r := true) ?_
  unfold laws_FnExactTickText.f spec_TickText.f impl_TickText.f
  by_cases h : 0 ≤ a ∧ a ≤ 1000000000
  case neg =>
    simp only [sTick, iTick, h, decide_false, Option.bind_some]
    exact Ev.is fun _ => by simp
  obtain ⟨h0, h1⟩ := h
  have q1 : wrap64 (Int.tdiv a 1000) = a / 1000 := by rw [Int.tdiv_eq_ediv_of_nonneg h0]; unfold wrap64; omega
  have m1 : Int.tmod a 1000 = a % 1000 := Int.tmod_eq_emod_of_nonneg h0
  have q2 : wrap64 (1000 + Int.tmod a 1000) = 1000 + a % 1000 := by rw [m1]; unfold wrap64; omega
  have d1 : wrap64 (48 + wrap64 (Int.tdiv (Int.tmod a 1000) 100)) % 256 = ((48 + (a % 1000).toNat / 100 : Nat) : Int) := by
    rw [m1, Int.tdiv_eq_ediv_of_nonneg (by omega)]; unfold wrap64; omega
  have d2 : wrap64 (48 + Int.tmod (wrap64 (Int.tdiv (Int.tmod a 1000) 10)) 10) % 256 = ((48 + (a % 1000).toNat / 10 % 10 : Nat) : Int) := by
    rw [m1, Int.tdiv_eq_ediv_of_nonneg (by omega), show wrap64 (a % 1000 / 10) = a % 1000 / 10 by unfold wrap64; omega, Int.tmod_eq_emod_of_nonneg (by omega)]; unfold wrap64; omega
  have d3 : wrap64 (48 + Int.tmod (Int.tmod a 1000) 10) % 256 = ((48 + (a % 1000).toNat % 10 : Nat) : Int) := by
    rw [m1, Int.tmod_eq_emod_of_nonneg (by omega)]; unfold wrap64; omega
  have hl := itoa_len (a / 1000) (by omega) (by omega)
  have three' : Go.Lib.itoa (1000 + a % 1000) = [49, UInt8.ofNat (48 + (a % 1000).toNat / 100), UInt8.ofNat (48 + (a % 1000).toNat / 10 % 10), UInt8.ofNat (48 + (a % 1000).toNat % 10)] := by
    unfold Go.Lib.itoa
    rw [if_neg (by omega), show (1000 + a % 1000).toNat = 1000 + (a % 1000).toNat by omega, three _ (by omega)]
  have ht : decide (0 ≤ a ∧ a ≤ 1000000000) = true := by simp [h0, h1]
  simp only [sTick, iTick, ht, Option.bind_some, if_true, q1, q2, d1, d2, d3]
  have num : ∀ n : Int, -9223372036854775808 ≤ n → n ≤ 9223372036854775807 → Ev (fun k => impl_number.f k n) (⟨(Go.Lib.itoa n).toArray⟩ : ByteArray) := fun n n0 n1 => by
    unfold impl_number.f strconv_Itoa_12.f
    exact Ev.bind' _ (Ev.bind' _ (l01Num_ev n n0 n1) (Ev.now _)) (Ev.now _)
  have sz : (⟨(Go.Lib.itoa (a / 1000)).toArray⟩ : ByteArray).size ≤ 20 := by rw [byte_size]; exact hl
  have s1 : (⟨#[46]⟩ : ByteArray).size = 1 := rfl
  have s4 : (⟨(Go.Lib.itoa (1000 + a % 1000)).toArray⟩ : ByteArray).size = 4 := by rw [byte_size, three']; rfl
  refine Ev.bind' ((⟨(Go.Lib.itoa (a / 1000)).toArray⟩ : ByteArray) ++ ⟨#[46]⟩ ++ strOfNums [((48 + (a % 1000).toNat / 100 : Nat) : Int), ((48 + (a % 1000).toNat / 10 % 10 : Nat) : Int), ((48 + (a % 1000).toNat % 10 : Nat) : Int)]) ?_ ?_
  · refine Ev.bind' _ (l01Num_ev _ (by omega) (by omega)) (Ev.pos (by omega) (Ev.pos ?_ (Ev.now _)))
    rw [ByteArray.size_append, strOfNums_size]; simp only [List.length_cons, List.length_nil]; omega
  refine Ev.bind' ((⟨(Go.Lib.itoa (a / 1000)).toArray⟩ : ByteArray) ++ ⟨#[46]⟩ ++ (⟨(Go.Lib.itoa (1000 + a % 1000)).toArray⟩ : ByteArray).extract 1 (⟨(Go.Lib.itoa (1000 + a % 1000)).toArray⟩ : ByteArray).size) ?_ ?_
  · refine Ev.bind' _ (num _ (by omega) (by omega)) (Ev.pos (by omega) ?_)
    refine Ev.bind' _ (num _ (by omega) (by omega)) (Ev.pos (by omega) (Ev.pos ?_ (Ev.now _)))
    rw [ByteArray.size_append, ByteArray.size_extract]; omega
  refine Ev.pos ?_ (Ev.now _)
  rw [s4]
  congr 2
  apply bytes_ext
  rw [three', strOfNums_data]
  rfl

end Go.Proofs.YthafbkpoepblgacDoor.Pure
