/-
For every configuration the program's ConfigText and the reference's ConfigText answer the same text and the same bool (the printed law answers true). The fields are any 64-bit numbers.
-/
import Derived.Test.YthafbkpoepblgaaDoorMFnExactConfigTextx5
import Derived.Lib.ItoaNum
namespace Go.Proofs.YthafbkpoepblgaaDoor.Pure
open Go.RowKit Go.Proofs.YthafbkpoepblgaaDoor.MFnExactConfigText Go.Proofs.YthafbkpoepblgaaDoorW.PrintWords Go.Proofs.YthafbkpoepblgaaDoorW.PrintLast Go.Proofs.YthafbkpoepblgaaDoorW.PrintMore 
set_option linter.unusedVariables false
set_option linter.unusedSimpArgs false

theorem w64 {n : Int} (h0 : -9223372036854775808 ≤ n) (h1 : n ≤ 9223372036854775807) : wrap64 n = n := by unfold wrap64; omega
theorem wsucc (i : Nat) (h : i < 9223372036854775807) : wrap64 ((i : Int) + 1) = ((i + 1 : Nat) : Int) := by rw [w64 (by omega) (by omega)]; omega
theorem rd_nat (xs : List Int) (i : Nat) (h : i < xs.length) : rd xs (i : Int) = xs[i] := by simp [rd, h]
theorem rdOf_nat {α : Type} (d : α) (xs : List α) (i : Nat) (h : i < xs.length) : rdOf d xs (i : Int) = xs[i] := by simp [rdOf, h]
theorem Ev.pos {α : Type} {c : Prop} [Decidable c] {A B : Nat → Option α} {r : α} (h : c) (e : Ev A r) : Ev (fun k => if c then A k else B k) r := Ev.congr (fun _ => if_pos h) e
theorem Ev.neg {α : Type} {c : Prop} [Decidable c] {A B : Nat → Option α} {r : α} (h : ¬ c) (e : Ev B r) : Ev (fun k => if c then A k else B k) r := Ev.congr (fun _ => if_neg h) e
theorem Ev.bind' {α β : Type} {g : Nat → Option α} {f : Nat → α → Option β} {r : β} (a : α) (h : Ev g a) (k : Ev (fun n => f n a) r) : Ev (fun n => (g n).bind (f n)) r := Ev.bind h k
theorem Ev.some' {α β : Type} {a : α} {f : Nat → α → Option β} {r : β} (k : Ev (fun n => f n a) r) : Ev (fun n => (Option.some a).bind (f n)) r := Ev.bind (Ev.now a) k
theorem Ev.is {α : Type} {g : Nat → Option α} {r : α} (h : ∀ k, g k = some r) : Ev g r := ⟨0, fun k _ => h k⟩
theorem Ev.at1 {α : Type} {g : Nat → Option α} {r : α} (h : ∀ k, g (k + 1) = some r) : Ev g r := ⟨1, fun k hk => by obtain ⟨m, rfl⟩ : ∃ m, k = m + 1 := ⟨k - 1, by omega⟩; exact h m⟩
theorem Ev.at2 {α : Type} {g : Nat → Option α} {r : α} (h : ∀ k, g (k + 2) = some r) : Ev g r := ⟨2, fun k hk => by obtain ⟨m, rfl⟩ : ∃ m, k = m + 2 := ⟨k - 2, by omega⟩; exact h m⟩
theorem Ev.at3 {α : Type} {g : Nat → Option α} {r : α} (h : ∀ k, g (k + 3) = some r) : Ev g r := ⟨3, fun k hk => by obtain ⟨m, rfl⟩ : ∃ m, k = m + 3 := ⟨k - 3, by omega⟩; exact h m⟩
/-- What a loop over a list comes to: a state, a step that goes on or answers, an end. -/
def runE {α σ ρ : Type} (step : Nat → σ → α → Except ρ σ) (fin : σ → ρ) : Nat → List α → σ → ρ
  | _, [], s => fin s
  | i, x :: xs, s => match step i s x with
    | .error r => r
    | .ok s' => runE step fin (i + 1) xs s'
/-- A loop over a list, round by round (from K rounds on). -/
theorem loop_run {α σ ρ : Type} (xs : List α) (L : Nat → σ → Int → Option ρ) (step : Nat → σ → α → Except ρ σ) (fin : σ → ρ) (K : Nat)
    (hs : ∀ k, K ≤ k → ∀ s (i : Nat) (h : i < xs.length), L (k + 1) s i = match step i s xs[i] with | .error r => some r | .ok s' => L k s' ((i + 1 : Nat) : Int))
    (he : ∀ k s, L (k + 1) s (xs.length : Int) = some (fin s)) :
    ∀ (d k : Nat) (s : σ) (i : Nat), i ≤ xs.length → xs.length - i = d → d + K < k → L k s (i : Int) = some (runE step fin i (xs.drop i) s) := by
  intro d
  induction d with
  | zero =>
    intro k s i hi hd hk
    obtain ⟨k, rfl⟩ : ∃ m, k = m + 1 := ⟨k - 1, by omega⟩
    obtain rfl : i = xs.length := by omega
    rw [he, List.drop_length, runE]
  | succ d ih =>
    intro k s i hi hd hk
    obtain ⟨k, rfl⟩ : ∃ m, k = m + 1 := ⟨k - 1, by omega⟩
    have hlt : i < xs.length := by omega
    rw [hs k (by omega) s i hlt, List.drop_eq_getElem_cons hlt, runE]
    cases step i s xs[i] with
    | error r => rfl
    | ok s' => exact ih k s' (i + 1) (by omega) (by omega) (by omega)
/-- The same, from the start. -/
theorem loop_ev {α σ ρ : Type} (xs : List α) (L : Nat → σ → Int → Option ρ) (step : Nat → σ → α → Except ρ σ) (fin : σ → ρ) (K : Nat)
    (hs : ∀ k, K ≤ k → ∀ s (i : Nat) (h : i < xs.length), L (k + 1) s i = match step i s xs[i] with | .error r => some r | .ok s' => L k s' ((i + 1 : Nat) : Int))
    (he : ∀ k s, L (k + 1) s (xs.length : Int) = some (fin s)) (s : σ) : Ev (fun k => L k s 0) (runE step fin 0 xs s) :=
  ⟨xs.length + K + 1, fun k hk => by have := loop_run xs L step fin K hs he xs.length k s 0 (by omega) (by omega) (by omega); simpa using this⟩
theorem wf_b {n : Int} (h : (Lit.int .i64 n).wf = true) : -9223372036854775808 ≤ n ∧ n ≤ 9223372036854775807 := by
  simp [Lit.wf, IntKind.min, IntKind.max, IntKind.signed, IntKind.bits] at h
  omega
theorem Ev.ite {α : Type} {c : Prop} [Decidable c] {A B : Nat → Option α} {a b : α} (h1 : c → Ev A a) (h2 : ¬ c → Ev B b) : Ev (fun k => if c then A k else B k) (if c then a else b) := by
  by_cases h : c
  · rw [if_pos h]; exact Ev.pos h (h1 h)
  · rw [if_neg h]; exact Ev.neg h (h2 h)

def configOk (a0 a1 a2 a3 a4 a5 a6 a7 a8 a9 a10 a11 a12 a13 : Int) : Bool := decide ((1 ≤ a1 ∧ a1 ≤ 12) ∧ (0 ≤ a0 ∧ a0 ≤ a1) ∧ (0 ≤ a2 ∧ a2 ≤ 1000000000) ∧ (a2 ≠ 0) ∧ (0 ≤ a3 ∧ a3 ≤ 1000000000) ∧ (0 ≤ a4 ∧ a4 ≤ 1000000000) ∧ (0 ≤ a5 ∧ a5 ≤ 1000000000) ∧ (0 ≤ a6 ∧ a6 ≤ 1000000000) ∧ (0 ≤ a13 ∧ a13 ≤ 1000000000) ∧ (a13 ≠ 0) ∧
  (1 ≤ a8 ∧ a8 ≤ 1000000) ∧ (1 ≤ a7 ∧ a7 ≤ a8) ∧ (0 ≤ a9 ∧ a9 ≤ 100) ∧ (1 ≤ a10 ∧ a10 ≤ 1000000) ∧ (1 ≤ a11 ∧ a11 ≤ 20) ∧ (1 ≤ a12 ∧ a12 ≤ 1000000))

theorem sIn (a b c : Int) : spec_l01In.f a b c = some (decide (b ≤ a ∧ a ≤ c)) := by
  unfold spec_l01In.f; by_cases h : b ≤ a <;> simp [h]

theorem sTick (a : Int) : spec_TickOk.f a = some (decide (0 ≤ a ∧ a ≤ 1000000000)) := by unfold spec_TickOk.f; rw [sIn]; rfl

theorem sConfigOk (k : Nat) (a0 a1 a2 a3 a4 a5 a6 a7 a8 a9 a10 a11 a12 a13 : Int) : spec_ConfigOk.f (k + 2) a0 a1 a2 a3 a4 a5 a6 a7 a8 a9 a10 a11 a12 a13 = some (configOk a0 a1 a2 a3 a4 a5 a6 a7 a8 a9 a10 a11 a12 a13) := by
  unfold spec_ConfigOk.f configOk
  simp only [sTick, sIn, Option.bind_some]
  by_cases h1 : 1 ≤ a1 ∧ a1 ≤ 12
  case neg => simp [h1, spec_ConfigOk.j0]
  by_cases h2 : 0 ≤ a0 ∧ a0 ≤ a1
  case neg => simp [h1, h2, spec_ConfigOk.j0]
  simp only [h1, h2, and_self, decide_true, if_true, Bool.not_true, spec_ConfigOk.j0, sTick, Option.bind_some, Bool.false_eq_true, if_false, true_and]
  clear h1 h2
  by_cases h3 : 0 ≤ a2 ∧ a2 ≤ 1000000000
  case neg => simp [h3, spec_ConfigOk.j1]
  by_cases h4 : a2 = 0
  case pos => subst h4; simp [spec_ConfigOk.j1]
  by_cases h5 : 0 ≤ a3 ∧ a3 ≤ 1000000000
  case neg => simp [h3, h4, h5, spec_ConfigOk.j1]
  by_cases h6 : 0 ≤ a4 ∧ a4 ≤ 1000000000
  case neg => simp [h3, h4, h5, h6, spec_ConfigOk.j1]
  by_cases h7 : 0 ≤ a5 ∧ a5 ≤ 1000000000
  case neg => simp [h3, h4, h5, h6, h7, spec_ConfigOk.j1]
  by_cases h8 : 0 ≤ a6 ∧ a6 ≤ 1000000000
  case neg => simp [h3, h4, h5, h6, h7, h8, spec_ConfigOk.j1]
  by_cases h9 : 0 ≤ a13 ∧ a13 ≤ 1000000000
  case neg => simp [h3, h4, h5, h6, h7, h8, h9, spec_ConfigOk.j1]
  by_cases h10 : a13 = 0
  case pos => subst h10; simp [h3, h4, h5, h6, h7, h8, spec_ConfigOk.j1]
  simp only [h3, h4, h5, h6, h7, h8, h9, h10, and_self, decide_true, if_true, if_false, beq_eq_false_iff_ne.mpr h10, Bool.false_eq_true, spec_ConfigOk.j1, sIn, Option.bind_some, ne_eq, not_false_eq_true, true_and]
  by_cases g1 : 1 ≤ a8 ∧ a8 ≤ 1000000
  case neg => simp [g1]
  by_cases g2 : 1 ≤ a7 ∧ a7 ≤ a8
  case neg => simp [g1, g2]
  by_cases g3 : 0 ≤ a9 ∧ a9 ≤ 100
  case neg => simp [g1, g2, g3]
  by_cases g4 : 1 ≤ a10 ∧ a10 ≤ 1000000
  case neg => simp [g1, g2, g3, g4]
  by_cases g5 : 1 ≤ a11 ∧ a11 ≤ 20
  case neg => simp [g1, g2, g3, g4, g5]
  simp [g1, g2, g3, g4, g5]
theorem sConfigOk_ev (a0 a1 a2 a3 a4 a5 a6 a7 a8 a9 a10 a11 a12 a13 : Int) : Ev (fun k => spec_ConfigOk.f k a0 a1 a2 a3 a4 a5 a6 a7 a8 a9 a10 a11 a12 a13) (configOk a0 a1 a2 a3 a4 a5 a6 a7 a8 a9 a10 a11 a12 a13) := Ev.at2 (fun k => sConfigOk k a0 a1 a2 a3 a4 a5 a6 a7 a8 a9 a10 a11 a12 a13)

theorem iIn (a b c : Int) : impl_in.f a b c = some (decide (b ≤ a ∧ a ≤ c)) := by
  unfold impl_in.f; by_cases h : b ≤ a <;> simp [h]

theorem iTick (a : Int) : impl_TickOk.f a = some (decide (0 ≤ a ∧ a ≤ 1000000000)) := by unfold impl_TickOk.f; rw [iIn]; rfl

theorem iConfigOk_j1 (k : Nat) (x5 : Bool) (a0 a1 a2 a3 a4 a5 a6 a7 a8 a9 a10 a11 a12 a13 : Int) : impl_ConfigOk.j1 (k + 1) x5 a0 a1 a2 a3 a4 a5 a6 a7 a8 a9 a10 a11 a12 a13 = some (x5 && decide ((1 ≤ a8 ∧ a8 ≤ 1000000) ∧ (1 ≤ a7 ∧ a7 ≤ a8) ∧ (0 ≤ a9 ∧ a9 ≤ 100) ∧ (1 ≤ a10 ∧ a10 ≤ 1000000) ∧ (1 ≤ a11 ∧ a11 ≤ 20) ∧ (1 ≤ a12 ∧ a12 ≤ 1000000))) := by
  simp only [impl_ConfigOk.j1, iIn, Option.bind_some]
  by_cases g2 : 1 ≤ a7 ∧ a7 ≤ a8
  case neg => cases x5 <;> simp [g2]
  by_cases g1 : a8 ≤ 1000000
  case neg => cases x5 <;> simp [g1, g2]
  have g0 : 1 ≤ a8 := by omega
  cases x5
  case false => simp [g1, g2]
  by_cases g3 : 0 ≤ a9 ∧ a9 ≤ 100
  case neg => simp [g0, g1, g2, g3]
  by_cases g4 : 1 ≤ a10 ∧ a10 ≤ 1000000
  case neg => simp [g0, g1, g2, g3, g4]
  by_cases g5 : 1 ≤ a12 ∧ a12 ≤ 1000000
  case neg => simp [g0, g1, g2, g3, g4, g5]
  simp [g0, g1, g2, g3, g4, g5]
theorem iConfigOk (k : Nat) (a0 a1 a2 a3 a4 a5 a6 a7 a8 a9 a10 a11 a12 a13 : Int) : impl_ConfigOk.f (k + 8) a0 a1 a2 a3 a4 a5 a6 a7 a8 a9 a10 a11 a12 a13 = some (configOk a0 a1 a2 a3 a4 a5 a6 a7 a8 a9 a10 a11 a12 a13) := by
  unfold impl_ConfigOk.f configOk
  simp only [Option.bind_some, List.length_cons, List.length_nil]
  by_cases h3 : 0 ≤ a2 ∧ a2 ≤ 1000000000
  case neg => simp [impl_ConfigOk.l0, iTick, rd, h3]
  by_cases h5 : 0 ≤ a3 ∧ a3 ≤ 1000000000
  case neg => simp [impl_ConfigOk.l0, iTick, rd, h3, h5, wrap64]
  by_cases h6 : 0 ≤ a4 ∧ a4 ≤ 1000000000
  case neg => simp [impl_ConfigOk.l0, iTick, rd, h3, h5, h6, wrap64]
  by_cases h7 : 0 ≤ a5 ∧ a5 ≤ 1000000000
  case neg => simp [impl_ConfigOk.l0, iTick, rd, h3, h5, h6, h7, wrap64]
  by_cases h8 : 0 ≤ a6 ∧ a6 ≤ 1000000000
  case neg => simp [impl_ConfigOk.l0, iTick, rd, h3, h5, h6, h7, h8, wrap64]
  by_cases h9 : 0 ≤ a13 ∧ a13 ≤ 1000000000
  case neg => simp [impl_ConfigOk.l0, iTick, rd, h3, h5, h6, h7, h8, h9, wrap64]
  by_cases h1 : 1 ≤ a1 ∧ a1 ≤ 12
  case neg => simp [impl_ConfigOk.l0, iTick, iIn, rd, h3, h5, h6, h7, h8, h9, h1, wrap64, iConfigOk_j1]
  by_cases h2 : 0 ≤ a0 ∧ a0 ≤ a1
  case neg => simp [impl_ConfigOk.l0, iTick, iIn, rd, h3, h5, h6, h7, h8, h9, h1, h2, wrap64, iConfigOk_j1]
  by_cases h4 : a2 = 0
  case pos => subst h4; simp [impl_ConfigOk.l0, iTick, iIn, rd, h5, h6, h7, h8, h9, h1, h2, wrap64, iConfigOk_j1]
  have h4' : 1 ≤ a2 := by omega
  by_cases h10 : a13 = 0
  case pos => subst h10; simp [impl_ConfigOk.l0, iTick, iIn, rd, h3, h5, h6, h7, h8, h1, h2, h4', wrap64, iConfigOk_j1]
  have h10' : 1 ≤ a13 := by omega
  simp [impl_ConfigOk.l0, iTick, iIn, rd, h3, h4, h5, h6, h7, h8, h9, h1, h2, h4', h10, h10', wrap64, iConfigOk_j1]
theorem iConfigOk_ev (a0 a1 a2 a3 a4 a5 a6 a7 a8 a9 a10 a11 a12 a13 : Int) : Ev (fun k => impl_ConfigOk.f k a0 a1 a2 a3 a4 a5 a6 a7 a8 a9 a10 a11 a12 a13) (configOk a0 a1 a2 a3 a4 a5 a6 a7 a8 a9 a10 a11 a12 a13) := ⟨8, fun k hk => by obtain ⟨m, rfl⟩ : ∃ m, k = m + 8 := ⟨k - 8, by omega⟩; exact iConfigOk m a0 a1 a2 a3 a4 a5 a6 a7 a8 a9 a10 a11 a12 a13⟩



/-- A number's sign and digits ahead of what is there. -/
def numTail (x : Int) (s : List UInt8) (b : Bool) : List UInt8 := (if b then [45] else []) ++ ((if x = 0 then [] else Go.Lib.decDigits x.natAbs) ++ s)
theorem numTail_step (x : Int) (s : List UInt8) (b : Bool) (h : x ≠ 0) : numTail (Int.tdiv x 10) (UInt8.ofNat (48 + x.natAbs % 10) :: s) b = numTail x s b := by
  unfold numTail
  rw [if_neg h]
  congr 1
  have hd : (Int.tdiv x 10).natAbs = x.natAbs / 10 := by rw [Int.natAbs_tdiv]; rfl
  by_cases h10 : x.natAbs < 10
  · have h0 : Int.tdiv x 10 = 0 := by omega
    rw [if_pos h0, Go.Lib.decDigits_one h10, Nat.mod_eq_of_lt h10]; rfl
  · have h0 : Int.tdiv x 10 ≠ 0 := by omega
    rw [if_neg h0, hd]
    conv => rhs; rw [Go.Lib.decDigits, dif_neg h10]
    simp
theorem digit_byte (x : Int) (d : Int) (h : d = x.natAbs % 10) : (strOfNums [wrap64 (48 + d) % 256]).data.toList = [UInt8.ofNat (48 + x.natAbs % 10)] := by
  have e : wrap64 (48 + d) % 256 = ((48 + x.natAbs % 10 : Nat) : Int) := by unfold wrap64; omega
  rw [strOfNums_data, e]; show [UInt8.ofNat ((48 + x.natAbs % 10 : Nat) : Int).toNat] = _; rw [Int.toNat_natCast]
theorem bytes_cat (a b : ByteArray) : (a ++ b).data.toList = a.data.toList ++ b.data.toList := by simp
theorem l01Num_loop : ∀ (k : Nat) (x : Int) (s r : ByteArray) (b : Bool), -9223372036854775808 ≤ x → x ≤ 9223372036854775807 → spec_l01Num.l0 k x s b = some r → r.data.toList = numTail x s.data.toList b
  | 0, _, _, _, _, _, _, h => by simp [spec_l01Num.l0] at h
  | k + 1, x, s, r, b, h0, h1, h => by
    rw [spec_l01Num.l0] at h
    by_cases hx : x = 0
    · rw [if_pos hx] at h
      unfold numTail; rw [if_pos hx]
      cases b with
      | true =>
        rw [if_pos rfl] at h
        by_cases hs : 1 + s.size ≤ 9223372036854775807
        · rw [if_pos hs] at h
          obtain rfl := Option.some.inj h
          rw [bytes_cat]; rfl
        · rw [if_neg hs] at h; cases h
      | false => rw [if_neg (by decide)] at h; obtain rfl := Option.some.inj h; rfl
    · rw [if_neg hx] at h
      have hd : (Int.tdiv x 10).natAbs = x.natAbs / 10 := by rw [Int.natAbs_tdiv]; rfl
      have hq : wrap64 (Int.tdiv x 10) = Int.tdiv x 10 := by unfold wrap64; omega
      have hm : (Int.tmod x 10).natAbs = x.natAbs % 10 := by rw [Int.natAbs_tmod]; rfl
      by_cases hn : Int.tmod x 10 < 0
      · rw [if_pos hn, Option.bind_some] at h
        have hw : wrap64 (-(Int.tmod x 10)) = x.natAbs % 10 := by unfold wrap64; omega
        rw [hq] at h
        by_cases hs : (strOfNums [wrap64 (48 + wrap64 (-(Int.tmod x 10))) % 256]).size + s.size ≤ 9223372036854775807
        · rw [if_pos hs] at h
          have e := l01Num_loop k _ _ r b (by omega) (by omega) h
          rw [e, bytes_cat, digit_byte x _ hw, ← numTail_step x _ b hx]; rfl
        · rw [if_neg hs] at h; cases h
      · rw [if_neg hn, Option.bind_some] at h
        rw [hq] at h
        by_cases hs : (strOfNums [wrap64 (48 + (Int.tmod x 10)) % 256]).size + s.size ≤ 9223372036854775807
        · rw [if_pos hs] at h
          have e := l01Num_loop k _ _ r b (by omega) (by omega) h
          rw [e, bytes_cat, digit_byte x _ (by omega), ← numTail_step x _ b hx]; rfl
        · rw [if_neg hs] at h; cases h
theorem bytes_ext (a b : ByteArray) (h : a.data.toList = b.data.toList) : a = b := by cases a; cases b; simp at h; simp [Array.toList_inj.mp (by simpa using h)]
/-- The reference's numeral is the library's. -/
theorem l01Num_is (k : Nat) (n : Int) (r : ByteArray) (h0 : -9223372036854775808 ≤ n) (h1 : n ≤ 9223372036854775807) (h : spec_l01Num.f k n = some r) : r = ⟨(Go.Lib.itoa n).toArray⟩ := by
  apply bytes_ext
  unfold spec_l01Num.f at h
  by_cases hn : n = 0
  · subst hn
    rw [if_pos rfl] at h; obtain rfl := Option.some.inj h
    simp only [Go.Lib.itoa]; rw [if_neg (by decide), show (0 : Int).toNat = 0 from rfl, Go.Lib.decDigits_one (by decide)]; rfl
  · rw [if_neg hn] at h
    rw [l01Num_loop k n _ r _ h0 h1 h]
    unfold numTail Go.Lib.itoa
    rw [if_neg hn]
    by_cases hneg : n < 0
    · simp [hneg]
    · simp only [hneg, decide_false, if_false]
      rw [show n.natAbs = n.toNat by omega]; simp

theorem l01Num_ends : ∀ (k : Nat) (x : Int) (s : ByteArray) (b : Bool), -9223372036854775808 ≤ x → x ≤ 9223372036854775807 → x.natAbs < 10 ^ k → s.size + k ≤ 4611686018427387904 → ∃ r, spec_l01Num.l0 (k + 1) x s b = some r
  | 0, x, s, b, _, _, hx, hs => by
    have h0 : x = 0 := by omega
    rw [spec_l01Num.l0, if_pos h0]
    by_cases hb : b = true
    · rw [if_pos hb, if_pos (by omega)]; exact ⟨_, rfl⟩
    · rw [if_neg hb]; exact ⟨_, rfl⟩
  | k + 1, x, s, b, h0, h1, hx, hs => by
    rw [spec_l01Num.l0]
    by_cases hz : x = 0
    · rw [if_pos hz]
      by_cases hb : b = true
      · rw [if_pos hb, if_pos (by omega)]; exact ⟨_, rfl⟩
      · rw [if_neg hb]; exact ⟨_, rfl⟩
    · rw [if_neg hz]
      have hd : (Int.tdiv x 10).natAbs = x.natAbs / 10 := by rw [Int.natAbs_tdiv]; rfl
      have hq : wrap64 (Int.tdiv x 10) = Int.tdiv x 10 := by unfold wrap64; omega
      have hp : 10 ^ (k + 1) = 10 * 10 ^ k := by rw [Nat.pow_succ]; omega
      by_cases hn : Int.tmod x 10 < 0
      · rw [if_pos hn, Option.bind_some, strOfNums_size, if_pos (by simp; omega), hq]
        exact l01Num_ends k _ _ b (by omega) (by omega) (by omega) (by rw [ByteArray.size_append, strOfNums_size]; simp; omega)
      · rw [if_neg hn, Option.bind_some, strOfNums_size, if_pos (by simp; omega), hq]
        exact l01Num_ends k _ _ b (by omega) (by omega) (by omega) (by rw [ByteArray.size_append, strOfNums_size]; simp; omega)
/-- The numeral, with rounds enough. -/
theorem l01Num_ev (n : Int) (h0 : -9223372036854775808 ≤ n) (h1 : n ≤ 9223372036854775807) : Ev (fun k => spec_l01Num.f k n) (⟨(Go.Lib.itoa n).toArray⟩ : ByteArray) := by
  obtain ⟨r, hr⟩ : ∃ r, spec_l01Num.f 20 n = some r := by
    unfold spec_l01Num.f
    by_cases hn : n = 0
    · rw [if_pos hn]; exact ⟨_, rfl⟩
    · rw [if_neg hn]; exact l01Num_ends 19 n _ _ h0 h1 (by omega) (by decide)
  have e := l01Num_is 20 n r h0 h1 hr
  subst e
  exact Ev.of (fun k => spec_l01Num.mono n k) hr

theorem digits_le : ∀ (k u : Nat), u < 10 ^ k → 0 < k → Go.Lib.nDigits u ≤ k := by
  intro k
  induction k with
  | zero => intro u hu h; omega
  | succ k ih =>
    intro u hu _
    by_cases h10 : u < 10
    · rw [Go.Lib.nDigits_small h10]; omega
    · rw [Go.Lib.nDigits_big h10]
      have hk : 0 < k := by
        rcases k with _ | k
        · simp at hu; omega
        · omega
      have := ih (u / 10) (by rw [Nat.pow_succ] at hu; omega) hk
      omega
theorem itoa_le (n : Int) (h0 : -9223372036854775808 ≤ n) (h1 : n ≤ 9223372036854775807) : (Go.Lib.itoa n).length ≤ 20 := by
  unfold Go.Lib.itoa
  by_cases h : n < 0
  · rw [if_pos h, List.length_cons, Go.Lib.decDigits_length]
    have := digits_le 19 n.natAbs (by omega) (by decide)
    omega
  · rw [if_neg h, Go.Lib.decDigits_length]
    have := digits_le 20 n.toNat (by omega) (by decide)
    omega
theorem byte_size (l : List UInt8) : (⟨l.toArray⟩ : ByteArray).size = l.length := by simp [ByteArray.size]

theorem cfg_rng (a0 a1 a2 a3 a4 a5 a6 a7 a8 a9 a10 a11 a12 a13 : Int) (h0 : -9223372036854775808 ≤ a0 ∧ a0 ≤ 9223372036854775807) (h1 : -9223372036854775808 ≤ a1 ∧ a1 ≤ 9223372036854775807) (h2 : -9223372036854775808 ≤ a2 ∧ a2 ≤ 9223372036854775807) (h3 : -9223372036854775808 ≤ a3 ∧ a3 ≤ 9223372036854775807) (h4 : -9223372036854775808 ≤ a4 ∧ a4 ≤ 9223372036854775807) (h5 : -9223372036854775808 ≤ a5 ∧ a5 ≤ 9223372036854775807) (h6 : -9223372036854775808 ≤ a6 ∧ a6 ≤ 9223372036854775807) (h7 : -9223372036854775808 ≤ a7 ∧ a7 ≤ 9223372036854775807) (h8 : -9223372036854775808 ≤ a8 ∧ a8 ≤ 9223372036854775807) (h9 : -9223372036854775808 ≤ a9 ∧ a9 ≤ 9223372036854775807) (h10 : -9223372036854775808 ≤ a10 ∧ a10 ≤ 9223372036854775807) (h11 : -9223372036854775808 ≤ a11 ∧ a11 ≤ 9223372036854775807) (h12 : -9223372036854775808 ≤ a12 ∧ a12 ≤ 9223372036854775807) (h13 : -9223372036854775808 ≤ a13 ∧ a13 ≤ 9223372036854775807) : ∀ i : Int, -9223372036854775808 ≤ rd [a0, a1, a2, a3, a4, a5, a6, a7, a8, a9, a10, a11, a12, a13] i ∧ rd [a0, a1, a2, a3, a4, a5, a6, a7, a8, a9, a10, a11, a12, a13] i ≤ 9223372036854775807 := by
  intro i
  have key : ∀ l : List Int, (∀ n ∈ l, -9223372036854775808 ≤ n ∧ n ≤ 9223372036854775807) → -9223372036854775808 ≤ rd l i ∧ rd l i ≤ 9223372036854775807 := by
    intro l hl
    unfold rd
    by_cases h : i.toNat < l.length
    · rw [List.getD_eq_getElem?_getD, List.getElem?_eq_getElem h]; exact hl _ (List.getElem_mem h)
    · rw [List.getD_eq_getElem?_getD, List.getElem?_eq_none (by omega)]; simp
  refine key _ fun n hn => ?_
  simp only [List.mem_cons, List.not_mem_nil, or_false] at hn
  rcases hn with rfl | rfl | rfl | rfl | rfl | rfl | rfl | rfl | rfl | rfl | rfl | rfl | rfl | rfl <;> assumption

def fnames : List ByteArray := [(⟨#[109, 105, 110]⟩ : ByteArray), (⟨#[109, 97, 120]⟩ : ByteArray), (⟨#[119, 97, 105, 116]⟩ : ByteArray), (⟨#[108, 105, 102, 101]⟩ : ByteArray), (⟨#[105, 100, 108, 101]⟩ : ByteArray), (⟨#[107, 101, 101, 112]⟩ : ByteArray), (⟨#[108, 101, 97, 107]⟩ : ByteArray), (⟨#[98, 97, 115, 101]⟩ : ByteArray), (⟨#[99, 97, 112]⟩ : ByteArray), (⟨#[106, 105, 116, 116, 101, 114]⟩ : ByteArray), (⟨#[119, 105, 110, 100, 111, 119]⟩ : ByteArray), (⟨#[116, 114, 105, 112, 115]⟩ : ByteArray), (⟨#[99, 111, 111, 108]⟩ : ByteArray), (⟨#[100, 114, 97, 105, 110]⟩ : ByteArray)]
theorem fname_le (i : Nat) (h : i < 14) : (rdOf ByteArray.empty fnames (i : Int)).size ≤ 6 := by
  have : ∀ i : Nat, i < 14 → (rdOf ByteArray.empty fnames (i : Int)).size ≤ 6 := by decide
  exact this i h
theorem fnames_len : fnames.length = 14 := rfl
/-- A number's text. -/
def ntext (n : Int) : ByteArray := ⟨(Go.Lib.itoa n).toArray⟩
theorem ntext_le (n : Int) (h0 : -9223372036854775808 ≤ n) (h1 : n ≤ 9223372036854775807) : (ntext n).size ≤ 20 := by unfold ntext; rw [byte_size]; exact itoa_le n h0 h1
/-- One line more. -/
def cline (s : ByteArray) (vs : List Int) (i : Nat) : ByteArray := (((s ++ rdOf ByteArray.empty fnames (i : Int)) ++ (⟨#[61]⟩ : ByteArray)) ++ ntext (rd vs (i : Int))) ++ (⟨#[10]⟩ : ByteArray)
theorem cline_eq (s : ByteArray) (vs : List Int) (i : Nat) : s ++ ((((rdOf ByteArray.empty fnames (i : Int)) ++ (⟨#[61]⟩ : ByteArray)) ++ ntext (rd vs (i : Int))) ++ (⟨#[10]⟩ : ByteArray)) = cline s vs i := by
  unfold cline; apply bytes_ext; simp
def clines (vs : List Int) : Nat → Nat → ByteArray → ByteArray
  | 0, _, s => s
  | d + 1, i, s => clines vs d (i + 1) (cline s vs i)
theorem one61 : (⟨#[61]⟩ : ByteArray).size = 1 := rfl
theorem one10 : (⟨#[10]⟩ : ByteArray).size = 1 := rfl
theorem sloop (vs : List Int) (hl : vs.length = 14) (hv : ∀ i : Int, -9223372036854775808 ≤ rd vs i ∧ rd vs i ≤ 9223372036854775807) : ∀ (d i : Nat) (s : ByteArray), i + d = 14 → s.size ≤ 100 * i → Ev (fun k => spec_ConfigText.l0 k s fnames vs (i : Int)) (clines vs d i s, true)
  | 0, i, s, hi, hs => Ev.at1 fun k => by
    rw [spec_ConfigText.l0, fnames_len, if_neg (by omega)]; rfl
  | d + 1, i, s, hi, hs => by
    have hn := fname_le i (by omega)
    have ht := ntext_le (rd vs i) (hv i).1 (hv i).2
    refine Ev.step (fun k => by rw [spec_ConfigText.l0]) ?_
    refine Ev.pos (by rw [fnames_len]; omega) (Ev.pos (by omega) (Ev.pos (by omega) (Ev.pos (by rw [ByteArray.size_append]; omega) (Ev.pos (by omega) ?_))))
    refine Ev.bind' _ (l01Num_ev (rd vs i) (hv i).1 (hv i).2) ?_
    change Ev (fun k => if (s ++ rdOf ByteArray.empty fnames (i : Int) ++ (⟨#[61]⟩ : ByteArray)).size + (ntext (rd vs i)).size ≤ 9223372036854775807 then _ else _) _
    refine Ev.pos (by simp only [ByteArray.size_append]; rw [one61]; omega) ?_
    refine Ev.pos (by show ((s ++ rdOf ByteArray.empty fnames (i : Int) ++ (⟨#[61]⟩ : ByteArray)) ++ ntext (rd vs i)).size + 1 ≤ _; simp only [ByteArray.size_append]; rw [one61]; omega) ?_
    rw [wsucc i (by omega)]
    exact sloop vs hl hv d (i + 1) (cline s vs i) (by omega) (by unfold cline; simp only [ByteArray.size_append]; rw [one61, one10]; omega)
theorem iloop (vs : List Int) (hl : vs.length = 14) (hv : ∀ i : Int, -9223372036854775808 ≤ rd vs i ∧ rd vs i ≤ 9223372036854775807) : ∀ (d i : Nat) (s : ByteArray), i + d = 14 → s.size ≤ 100 * i → Ev (fun k => impl_ConfigText.l0 k s vs (vs.length : Int) (i : Int)) (clines vs d i s, true)
  | 0, i, s, hi, hs => Ev.at1 fun k => by
    rw [impl_ConfigText.l0, if_neg (by omega)]; rfl
  | d + 1, i, s, hi, hs => by
    have hn := fname_le i (by omega)
    have ht := ntext_le (rd vs i) (hv i).1 (hv i).2
    have num : Ev (fun k => impl_number.f k (rd vs i)) (ntext (rd vs i)) := by
      unfold impl_number.f strconv_Itoa_19.f
      exact Ev.bind' _ (Ev.bind' _ (l01Num_ev _ (hv i).1 (hv i).2) (Ev.now _)) (Ev.now _)
    refine Ev.step (fun k => by rw [impl_ConfigText.l0]) ?_
    refine Ev.pos (by omega) (Ev.pos (by omega) (Ev.pos (by omega) ?_))
    refine Ev.bind' fnames (Ev.now _) ?_
    refine Ev.pos (by rw [fnames_len]; omega) (Ev.pos (by omega) ?_)
    refine Ev.bind' _ num ?_
    refine Ev.pos (by simp only [ByteArray.size_append]; rw [one61]; omega) (Ev.pos (by simp only [ByteArray.size_append]; rw [one61]; omega) (Ev.pos (by simp only [ByteArray.size_append]; rw [one61, one10]; omega) ?_))
    rw [wsucc i (by omega), cline_eq]
    exact iloop vs hl hv d (i + 1) (cline s vs i) (by omega) (by unfold cline; simp only [ByteArray.size_append]; rw [one61, one10]; omega)
theorem FnExactConfigText : ∀ (a0 a1 a2 a3 a4 a5 a6 a7 a8 a9 a10 a11 a12 a13 : Int), (Lit.int .i64 a0).wf = true → (Lit.int .i64 a1).wf = true → (Lit.int .i64 a2).wf = true → (Lit.int .i64 a3).wf = true → (Lit.int .i64 a4).wf = true → (Lit.int .i64 a5).wf = true → (Lit.int .i64 a6).wf = true → (Lit.int .i64 a7).wf = true → (Lit.int .i64 a8).wf = true → (Lit.int .i64 a9).wf = true → (Lit.int .i64 a10).wf = true → (Lit.int .i64 a11).wf = true → (Lit.int .i64 a12).wf = true → (Lit.int .i64 a13).wf = true →  ∃ k, laws_FnExactConfigText.f k a0 a1 a2 a3 a4 a5 a6 a7 a8 a9 a10 a11 a12 a13 = some true := by
  intro a0 a1 a2 a3 a4 a5 a6 a7 a8 a9 a10 a11 a12 a13 w0 w1 w2 w3 w4 w5 w6 w7 w8 w9 w10 w11 w12 w13
  have hv : ∀ i : Int, -9223372036854775808 ≤ rd [a0, a1, a2, a3, a4, a5, a6, a7, a8, a9, a10, a11, a12, a13] i ∧ rd [a0, a1, a2, a3, a4, a5, a6, a7, a8, a9, a10, a11, a12, a13] i ≤ 9223372036854775807 := cfg_rng a0 a1 a2 a3 a4 a5 a6 a7 a8 a9 a10 a11 a12 a13 (wf_b w0) (wf_b w1) (wf_b w2) (wf_b w3) (wf_b w4) (wf_b w5) (wf_b w6) (wf_b w7) (wf_b w8) (wf_b w9) (wf_b w10) (wf_b w11) (wf_b w12) (wf_b w13)
  refine Ev.rounds (r := true) ?_
  unfold laws_FnExactConfigText.f laws_toConfig.f spec_ConfigText.f impl_ConfigText.f
  refine Ev.some' ?_
  cases hc : configOk a0 a1 a2 a3 a4 a5 a6 a7 a8 a9 a10 a11 a12 a13 with
  | false =>
    refine Ev.bind' ((⟨#[]⟩ : ByteArray), false) (Ev.bind' _ (sConfigOk_ev a0 a1 a2 a3 a4 a5 a6 a7 a8 a9 a10 a11 a12 a13) ?_) ?_
    · rw [hc]; exact Ev.neg (by simp) (Ev.now _)
    refine Ev.some' ?_
    refine Ev.bind' ((⟨#[]⟩ : ByteArray), false) (Ev.bind' _ (iConfigOk_ev a0 a1 a2 a3 a4 a5 a6 a7 a8 a9 a10 a11 a12 a13) ?_) ?_
    · rw [hc]; exact Ev.neg (by simp) (Ev.now _)
    exact Ev.pos rfl (Ev.neg (by simp) (Ev.now _))
  | true =>
    refine Ev.bind' (clines [a0, a1, a2, a3, a4, a5, a6, a7, a8, a9, a10, a11, a12, a13] 14 0 (⟨#[]⟩ : ByteArray), true) (Ev.bind' _ (sConfigOk_ev a0 a1 a2 a3 a4 a5 a6 a7 a8 a9 a10 a11 a12 a13) ?_) ?_
    · rw [hc]; refine Ev.pos rfl ?_
      refine Ev.bind' fnames (Ev.now _) ?_
      refine Ev.bind' [a0, a1, a2, a3, a4, a5, a6, a7, a8, a9, a10, a11, a12, a13] (Ev.now _) ?_
      exact sloop _ rfl hv 14 0 _ (by omega) (by decide)
    refine Ev.some' ?_
    refine Ev.bind' (clines [a0, a1, a2, a3, a4, a5, a6, a7, a8, a9, a10, a11, a12, a13] 14 0 (⟨#[]⟩ : ByteArray), true) (Ev.bind' _ (iConfigOk_ev a0 a1 a2 a3 a4 a5 a6 a7 a8 a9 a10 a11 a12 a13) ?_) ?_
    · rw [hc]; refine Ev.pos rfl ?_
      refine Ev.bind' [a0, a1, a2, a3, a4, a5, a6, a7, a8, a9, a10, a11, a12, a13] (Ev.now _) ?_
      exact iloop _ rfl hv 14 0 _ (by omega) (by decide)
    exact Ev.pos rfl (Ev.neg (by simp) (Ev.now _))

end Go.Proofs.YthafbkpoepblgaaDoor.Pure
