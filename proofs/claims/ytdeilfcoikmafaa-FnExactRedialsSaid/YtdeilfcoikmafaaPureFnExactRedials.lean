/-
For every configuration and list of draws the program's Redials and the reference's Redials answer alike, in memory of their own, and the list is left as it was (the printed law answers true). All are any 64-bit numbers.
-/
import Derived.Test.YtdeilfcoikmafaaPFnExactRedialsx9
namespace Go.Proofs.Ytdeilfcoikmafaa.Pure
open Go.RowKit Go.Proofs.Ytdeilfcoikmafaa.PFnExactRedials Go.Proofs.YtdeilfcoikmafaaW.PrintWords Go.Proofs.YtdeilfcoikmafaaW.PrintLast Go.Proofs.YtdeilfcoikmafaaW.PrintMore 
set_option linter.unusedVariables false
set_option linter.unusedSimpArgs false

theorem w64 {n : Int} (h0 : -9223372036854775808 ≤ n) (h1 : n ≤ 9223372036854775807) : wrap64 n = n := by unfold wrap64; omega
theorem wsucc (i : Nat) (h : i < 9223372036854775807) : wrap64 ((i : Int) + 1) = ((i + 1 : Nat) : Int) := by rw [w64 (by omega) (by omega)]; omega
theorem rd_nat (xs : List Int) (i : Nat) (h : i < xs.length) : rd xs (i : Int) = xs[i] := by simp [rd, h]
theorem rdOf_nat {α : Type} (d : α) (xs : List α) (i : Nat) (h : i < xs.length) : rdOf d xs (i : Int) = xs[i] := by simp [rdOf, h]
theorem Ev.pos {α : Type} {c : Prop} [Decidable c] {A B : Nat → Option α} {r : α} (h : c) (e : Ev A r) : Ev (fun k => if c then A k else B k) r := Ev.congr (fun _ => if_pos h) e
theorem Ev.neg {α : Type} {c : Prop} [Decidable c] {A B : Nat → Option α} {r : α} (h : ¬ c) (e : Ev B r) : Ev (fun k => if c then A k else B k) r := Ev.congr (fun _ => if_neg h) e
theorem Ev.bind' {α β : Type} {g : Nat → Option α} {f : Nat → α → Option β} {r : β} (a : α) (h : Ev g a) (k : Ev (fun n => f n a) r) : Ev (fun n => (g n).bind (f n)) r := Ev.bind h k
theorem Ev.some' {α β : Type} {a : α} {f : Nat → α → Option β} {r : β} (k : Ev (fun n => f n a) r) : Ev (fun n => (Option.some a).bind (f n)) r := Ev.bind (Ev.now a) k
theorem Ev.is {α : Type} {g : Nat → Option α} {r : α} (h : ∀ k, g k = some r) : Ev g r := ⟨0, fun k _ => h k⟩
theorem Ev.at1 {α : Type} {g : Nat → Option α} {r : α} (h : ∀ k, g (k + 1) = some r) : Ev g r := ⟨1, fun k hk => by obtain ⟨m, rfl⟩ : ∃ m, k = m + 1 := ⟨k - 1, by omega⟩; exact h m⟩
theorem Ev.at2 {α : Type} {g : Nat → Option α} {r : α} (h : ∀ k, g (k + 2) = some r) : Ev g r := ⟨2, fun k hk => by obtain ⟨m, rfl⟩ : ∃ m, k = m + 2 := ⟨k - 2, by omega⟩; exact h m⟩
theorem Ev.at3 {α : Type} {g : Nat → Option α} {r : α} (h : ∀ k, g (k + 3) = some r) : Ev g r := ⟨3, fun k hk => by obtain ⟨m, rfl⟩ : ∃ m, k = m + 3 := ⟨k - 3, by omega⟩; exact h m⟩
/-- What a loop over a list comes to: a state, a step that goes on or answers, an end. -/
def runE {α σ ρ : Type} (step : Nat → σ → α → Except ρ σ) (fin : σ → ρ) : Nat → List α → σ → ρ
  | _, [], s => fin s
  | i, x :: xs, s => match step i s x with
    | .error r => r
    | .ok s' => runE step fin (i + 1) xs s'
/-- A loop over a list, round by round (from K rounds on). -/
theorem loop_run {α σ ρ : Type} (xs : List α) (L : Nat → σ → Int → Option ρ) (step : Nat → σ → α → Except ρ σ) (fin : σ → ρ) (K : Nat)
    (hs : ∀ k, K ≤ k → ∀ s (i : Nat) (h : i < xs.length), L (k + 1) s i = match step i s xs[i] with | .error r => some r | .ok s' => L k s' ((i + 1 : Nat) : Int))
    (he : ∀ k s, L (k + 1) s (xs.length : Int) = some (fin s)) :
    ∀ (d k : Nat) (s : σ) (i : Nat), i ≤ xs.length → xs.length - i = d → d + K < k → L k s (i : Int) = some (runE step fin i (xs.drop i) s) := by
  intro d
  induction d with
  | zero =>
    intro k s i hi hd hk
    obtain ⟨k, rfl⟩ : ∃ m, k = m + 1 := ⟨k - 1, by omega⟩
    obtain rfl : i = xs.length := by omega
    rw [he, List.drop_length, runE]
  | succ d ih =>
    intro k s i hi hd hk
    obtain ⟨k, rfl⟩ : ∃ m, k = m + 1 := ⟨k - 1, by omega⟩
    have hlt : i < xs.length := by omega
    rw [hs k (by omega) s i hlt, List.drop_eq_getElem_cons hlt, runE]
    cases step i s xs[i] with
    | error r => rfl
    | ok s' => exact ih k s' (i + 1) (by omega) (by omega) (by omega)
/-- The same, from the start. -/
theorem loop_ev {α σ ρ : Type} (xs : List α) (L : Nat → σ → Int → Option ρ) (step : Nat → σ → α → Except ρ σ) (fin : σ → ρ) (K : Nat)
    (hs : ∀ k, K ≤ k → ∀ s (i : Nat) (h : i < xs.length), L (k + 1) s i = match step i s xs[i] with | .error r => some r | .ok s' => L k s' ((i + 1 : Nat) : Int))
    (he : ∀ k s, L (k + 1) s (xs.length : Int) = some (fin s)) (s : σ) : Ev (fun k => L k s 0) (runE step fin 0 xs s) :=
  ⟨xs.length + K + 1, fun k hk => by have := loop_run xs L step fin K hs he xs.length k s 0 (by omega) (by omega) (by omega); simpa using this⟩
theorem wf_b {n : Int} (h : (Lit.int .i64 n).wf = true) : -9223372036854775808 ≤ n ∧ n ≤ 9223372036854775807 := by
  simp [Lit.wf, IntKind.min, IntKind.max, IntKind.signed, IntKind.bits] at h
  omega
theorem Ev.ite {α : Type} {c : Prop} [Decidable c] {A B : Nat → Option α} {a b : α} (h1 : c → Ev A a) (h2 : ¬ c → Ev B b) : Ev (fun k => if c then A k else B k) (if c then a else b) := by
  by_cases h : c
  · rw [if_pos h]; exact Ev.pos h (h1 h)
  · rw [if_neg h]; exact Ev.neg h (h2 h)

def configOk (a0 a1 a2 a3 a4 a5 a6 a7 a8 a9 a10 a11 a12 a13 : Int) : Bool := decide ((1 ≤ a1 ∧ a1 ≤ 12) ∧ (0 ≤ a0 ∧ a0 ≤ a1) ∧ (0 ≤ a2 ∧ a2 ≤ 1000000000) ∧ (a2 ≠ 0) ∧ (0 ≤ a3 ∧ a3 ≤ 1000000000) ∧ (0 ≤ a4 ∧ a4 ≤ 1000000000) ∧ (0 ≤ a5 ∧ a5 ≤ 1000000000) ∧ (0 ≤ a6 ∧ a6 ≤ 1000000000) ∧ (0 ≤ a13 ∧ a13 ≤ 1000000000) ∧ (a13 ≠ 0) ∧
  (1 ≤ a8 ∧ a8 ≤ 1000000) ∧ (1 ≤ a7 ∧ a7 ≤ a8) ∧ (0 ≤ a9 ∧ a9 ≤ 100) ∧ (1 ≤ a10 ∧ a10 ≤ 1000000) ∧ (1 ≤ a11 ∧ a11 ≤ 20) ∧ (1 ≤ a12 ∧ a12 ≤ 1000000))

/-- How long a wait becomes in so many doublings, as far as the cap. -/
def dbl (c : Int) : Nat → Int → Int
  | 0, w => w
  | m + 1, w => if w < c then dbl c m (2 * w) else w
def fullW (b c n : Int) : Int := if n < 0 then -1 else if n = 0 then 0 else if c < dbl c (n - 1).toNat b then c else dbl c (n - 1).toNat b
def fullWait (a0 a1 a2 a3 a4 a5 a6 a7 a8 a9 a10 a11 a12 a13 : Int) (n : Int) : Int := if configOk a0 a1 a2 a3 a4 a5 a6 a7 a8 a9 a10 a11 a12 a13 = true then fullW a7 a8 n else -1
theorem dbl_done (c : Int) (m : Nat) (w : Int) (h : ¬ w < c) : dbl c m w = w := by cases m <;> simp [dbl, h]
theorem cfg_bounds (a0 a1 a2 a3 a4 a5 a6 a7 a8 a9 a10 a11 a12 a13 : Int) (h : configOk a0 a1 a2 a3 a4 a5 a6 a7 a8 a9 a10 a11 a12 a13 = true) : 1 ≤ a7 ∧ a7 ≤ a8 ∧ a8 ≤ 1000000 ∧ 0 ≤ a9 ∧ a9 ≤ 100 := by
  unfold configOk at h
  simp only [decide_eq_true_eq] at h
  omega

def cutW (full j : Int) : Int := wrap64 (Int.tdiv (wrap64 (full * j)) 100)
def leastWait (a0 a1 a2 a3 a4 a5 a6 a7 a8 a9 a10 a11 a12 a13 : Int) (n : Int) : Int := if fullWait a0 a1 a2 a3 a4 a5 a6 a7 a8 a9 a10 a11 a12 a13 n < 0 then -1 else wrap64 (fullWait a0 a1 a2 a3 a4 a5 a6 a7 a8 a9 a10 a11 a12 a13 n - cutW (fullWait a0 a1 a2 a3 a4 a5 a6 a7 a8 a9 a10 a11 a12 a13 n) a9)
def jitWait (a0 a1 a2 a3 a4 a5 a6 a7 a8 a9 a10 a11 a12 a13 : Int) (n draw : Int) : Int := if fullWait a0 a1 a2 a3 a4 a5 a6 a7 a8 a9 a10 a11 a12 a13 n < 0 then -1 else wrap64 (fullWait a0 a1 a2 a3 a4 a5 a6 a7 a8 a9 a10 a11 a12 a13 n - wrap64 (Int.tdiv (wrap64 (cutW (fullWait a0 a1 a2 a3 a4 a5 a6 a7 a8 a9 a10 a11 a12 a13 n) a9 * ((if 0 < draw then draw else 0) % 1001))) 1000))
theorem dbl_pos (c : Int) (m : Nat) (w : Int) (h : 1 ≤ w) : 1 ≤ dbl c m w := by
  induction m generalizing w with
  | zero => simpa [dbl] using h
  | succ m ih =>
    rw [dbl]
    split
    · exact ih _ (by omega)
    · exact h
theorem full_neg (a0 a1 a2 a3 a4 a5 a6 a7 a8 a9 a10 a11 a12 a13 : Int) (n : Int) : fullWait a0 a1 a2 a3 a4 a5 a6 a7 a8 a9 a10 a11 a12 a13 n < 0 ↔ ¬ (configOk a0 a1 a2 a3 a4 a5 a6 a7 a8 a9 a10 a11 a12 a13 = true ∧ 0 ≤ n) := by
  unfold fullWait fullW
  by_cases h : configOk a0 a1 a2 a3 a4 a5 a6 a7 a8 a9 a10 a11 a12 a13 = true
  · rw [if_pos h]
    obtain ⟨h7, h78, _, _, _⟩ := cfg_bounds a0 a1 a2 a3 a4 a5 a6 a7 a8 a9 a10 a11 a12 a13 h
    have := dbl_pos a8 (n - 1).toNat a7 h7
    by_cases h1 : n < 0
    · rw [if_pos h1]; simp [h]; omega
    · rw [if_neg h1]
      by_cases h2 : n = 0
      · rw [if_pos h2]; simp [h]; omega
      · rw [if_neg h2]
        simp only [h, true_and]
        split <;> omega
  · rw [if_neg h]; simp [h]

def addTick (t d : Int) : Int := if (0 ≤ t ∧ t ≤ 1000000000) ∧ (-1000000000 ≤ d ∧ d ≤ 1000000000) then (if t + d > 1000000000 then 1000000000 else if t + d < 0 then 0 else t + d) else -1

def redStep (a0 a1 a2 a3 a4 a5 a6 a7 a8 a9 a10 a11 a12 a13 : Int) (i : Nat) (out : List Int) (x : Int) : Except (List Int) (List Int) := .ok (out ++ [addTick (rd out i) (jitWait a0 a1 a2 a3 a4 a5 a6 a7 a8 a9 a10 a11 a12 a13 ((i + 1 : Nat) : Int) x)])
def redials (a0 a1 a2 a3 a4 a5 a6 a7 a8 a9 a10 a11 a12 a13 : Int) (xs : List Int) : List Int := if configOk a0 a1 a2 a3 a4 a5 a6 a7 a8 a9 a10 a11 a12 a13 = true ∧ xs.length ≤ 300 then runE (redStep a0 a1 a2 a3 a4 a5 a6 a7 a8 a9 a10 a11 a12 a13) id 0 xs [0] else []
theorem rd_last (out : List Int) (x : Int) (i : Nat) (h : out.length = i) : rd (out ++ [x]) (i : Int) = x := by
  subst h
  simp [rd]
theorem redials_len (a0 a1 a2 a3 a4 a5 a6 a7 a8 a9 a10 a11 a12 a13 : Int) : ∀ (xs : List Int) (i : Nat) (out : List Int), (runE (redStep a0 a1 a2 a3 a4 a5 a6 a7 a8 a9 a10 a11 a12 a13) id i xs out).length = out.length + xs.length
  | [], i, out => by simp [runE]
  | x :: xs, i, out => by
    rw [runE]
    simp only [redStep]
    have := redials_len a0 a1 a2 a3 a4 a5 a6 a7 a8 a9 a10 a11 a12 a13 xs (i + 1) (out ++ [addTick (rd out i) (jitWait a0 a1 a2 a3 a4 a5 a6 a7 a8 a9 a10 a11 a12 a13 ((i + 1 : Nat) : Int) x)])
    rw [this]
    simp
    omega

theorem sIn (a b c : Int) : spec_l01In.f a b c = some (decide (b ≤ a ∧ a ≤ c)) := by
  unfold spec_l01In.f; by_cases h : b ≤ a <;> simp [h]

theorem sTick (a : Int) : spec_TickOk.f a = some (decide (0 ≤ a ∧ a ≤ 1000000000)) := by unfold spec_TickOk.f; rw [sIn]; rfl

theorem sConfigOk (k : Nat) (a0 a1 a2 a3 a4 a5 a6 a7 a8 a9 a10 a11 a12 a13 : Int) : spec_ConfigOk.f (k + 2) a0 a1 a2 a3 a4 a5 a6 a7 a8 a9 a10 a11 a12 a13 = some (configOk a0 a1 a2 a3 a4 a5 a6 a7 a8 a9 a10 a11 a12 a13) := by
  unfold spec_ConfigOk.f configOk
  simp only [sTick, sIn, Option.bind_some]
  by_cases h1 : 1 ≤ a1 ∧ a1 ≤ 12
  case neg => simp [h1, spec_ConfigOk.j0]
  by_cases h2 : 0 ≤ a0 ∧ a0 ≤ a1
  case neg => simp [h1, h2, spec_ConfigOk.j0]
  simp only [h1, h2, and_self, decide_true, if_true, Bool.not_true, spec_ConfigOk.j0, sTick, Option.bind_some, Bool.false_eq_true, if_false, true_and]
  clear h1 h2
  by_cases h3 : 0 ≤ a2 ∧ a2 ≤ 1000000000
  case neg => simp [h3, spec_ConfigOk.j1]
  by_cases h4 : a2 = 0
  case pos => subst h4; simp [spec_ConfigOk.j1]
  by_cases h5 : 0 ≤ a3 ∧ a3 ≤ 1000000000
  case neg => simp [h3, h4, h5, spec_ConfigOk.j1]
  by_cases h6 : 0 ≤ a4 ∧ a4 ≤ 1000000000
  case neg => simp [h3, h4, h5, h6, spec_ConfigOk.j1]
  by_cases h7 : 0 ≤ a5 ∧ a5 ≤ 1000000000
  case neg => simp [h3, h4, h5, h6, h7, spec_ConfigOk.j1]
  by_cases h8 : 0 ≤ a6 ∧ a6 ≤ 1000000000
  case neg => simp [h3, h4, h5, h6, h7, h8, spec_ConfigOk.j1]
  by_cases h9 : 0 ≤ a13 ∧ a13 ≤ 1000000000
  case neg => simp [h3, h4, h5, h6, h7, h8, h9, spec_ConfigOk.j1]
  by_cases h10 : a13 = 0
  case pos => subst h10; simp [h3, h4, h5, h6, h7, h8, spec_ConfigOk.j1]
  simp only [h3, h4, h5, h6, h7, h8, h9, h10, and_self, decide_true, if_true, if_false, beq_eq_false_iff_ne.mpr h10, Bool.false_eq_true, spec_ConfigOk.j1, sIn, Option.bind_some, ne_eq, not_false_eq_true, true_and]
  by_cases g1 : 1 ≤ a8 ∧ a8 ≤ 1000000
  case neg => simp [g1]
  by_cases g2 : 1 ≤ a7 ∧ a7 ≤ a8
  case neg => simp [g1, g2]
  by_cases g3 : 0 ≤ a9 ∧ a9 ≤ 100
  case neg => simp [g1, g2, g3]
  by_cases g4 : 1 ≤ a10 ∧ a10 ≤ 1000000
  case neg => simp [g1, g2, g3, g4]
  by_cases g5 : 1 ≤ a11 ∧ a11 ≤ 20
  case neg => simp [g1, g2, g3, g4, g5]
  simp [g1, g2, g3, g4, g5]
theorem sConfigOk_ev (a0 a1 a2 a3 a4 a5 a6 a7 a8 a9 a10 a11 a12 a13 : Int) : Ev (fun k => spec_ConfigOk.f k a0 a1 a2 a3 a4 a5 a6 a7 a8 a9 a10 a11 a12 a13) (configOk a0 a1 a2 a3 a4 a5 a6 a7 a8 a9 a10 a11 a12 a13) := Ev.at2 (fun k => sConfigOk k a0 a1 a2 a3 a4 a5 a6 a7 a8 a9 a10 a11 a12 a13)

theorem sFull_l0 (a0 a1 a2 a3 a4 a5 a6 a7 a8 a9 a10 a11 a12 a13 : Int) (h8 : a8 ≤ 1000000) (n : Int) (hn : n ≤ 9223372036854775807) : ∀ (d k : Nat) (w i : Int), 1 ≤ i → i ≤ n → 1 ≤ w → w ≤ 2000000 → a8 ≤ w * 2 ^ d → d < k → spec_FullWait.l0 k n w i a0 a1 a2 a3 a4 a5 a6 a7 a8 a9 a10 a11 a12 a13 = some (if a8 < dbl a8 (n - i).toNat w then a8 else dbl a8 (n - i).toNat w) := by
  intro d
  induction d with
  | zero =>
    intro k w i hi hin hw hw2 hd hk
    obtain ⟨k, rfl⟩ : ∃ m, k = m + 1 := ⟨k - 1, by omega⟩
    have hc : ¬ w < a8 := by simp at hd; omega
    simp only [spec_FullWait.l0]
    rw [dbl_done _ _ _ hc, if_neg hc]
    simp only [gt_iff_lt, ite_self]
    split <;> rfl
  | succ d ih =>
    intro k w i hi hin hw hw2 hd hk
    obtain ⟨k, rfl⟩ : ∃ m, k = m + 1 := ⟨k - 1, by omega⟩
    simp only [spec_FullWait.l0]
    by_cases h1 : i < n
    · by_cases h2 : w < a8
      · rw [if_pos h1, if_pos h2, w64 (by omega) (by omega), w64 (by omega) (by omega), ih k (2 * w) (i + 1) (by omega) (by omega) (by omega) (by omega) (by rw [Int.mul_comm 2 w, Int.mul_assoc, Int.mul_comm 2, ← Int.pow_succ]; exact hd) (by omega)]
        obtain ⟨m, hm⟩ : ∃ m : Nat, (n - i).toNat = m + 1 := ⟨(n - i).toNat - 1, by omega⟩
        have hm2 : (n - (i + 1)).toNat = m := by omega
        rw [hm, hm2, dbl, if_pos h2]
      · rw [if_pos h1, if_neg h2, dbl_done _ _ _ h2]
        simp only [gt_iff_lt]
        split <;> rfl
    · rw [if_neg h1]
      have hm : (n - i).toNat = 0 := by omega
      rw [hm, dbl]
      simp only [gt_iff_lt]
      split <;> rfl
theorem sFull (a0 a1 a2 a3 a4 a5 a6 a7 a8 a9 a10 a11 a12 a13 : Int) (n : Int) (hn : n ≤ 9223372036854775807) (k : Nat) (hk : 30 ≤ k) : spec_FullWait.f k a0 a1 a2 a3 a4 a5 a6 a7 a8 a9 a10 a11 a12 a13 n = some (fullWait a0 a1 a2 a3 a4 a5 a6 a7 a8 a9 a10 a11 a12 a13 n) := by
  obtain ⟨k, rfl⟩ : ∃ m, k = m + 2 := ⟨k - 2, by omega⟩
  unfold spec_FullWait.f fullWait
  rw [sConfigOk, Option.bind_some]
  simp only [spec_FullWait.j0]
  by_cases h : configOk a0 a1 a2 a3 a4 a5 a6 a7 a8 a9 a10 a11 a12 a13 = true
  · obtain ⟨h7, h78, h8, _, _⟩ := cfg_bounds a0 a1 a2 a3 a4 a5 a6 a7 a8 a9 a10 a11 a12 a13 h
    rw [if_pos h, if_pos h, fullW]
    by_cases h1 : n < 0
    · simp [h1]
    · by_cases h2 : n = 0
      · simp [h2]
      · simp only [h1, h2, decide_false, Bool.false_eq_true, if_false]
        rw [sFull_l0 a0 a1 a2 a3 a4 a5 a6 a7 a8 a9 a10 a11 a12 a13 h8 n hn 20 (k + 1) a7 1 (by omega) (by omega) h7 (by omega) (by omega) (by omega)]
  · rw [if_neg h, if_neg h]; simp
theorem sFull_ev (a0 a1 a2 a3 a4 a5 a6 a7 a8 a9 a10 a11 a12 a13 : Int) (n : Int) (hn : n ≤ 9223372036854775807) : Ev (fun k => spec_FullWait.f k a0 a1 a2 a3 a4 a5 a6 a7 a8 a9 a10 a11 a12 a13 n) (fullWait a0 a1 a2 a3 a4 a5 a6 a7 a8 a9 a10 a11 a12 a13 n) := ⟨30, fun k hk => sFull a0 a1 a2 a3 a4 a5 a6 a7 a8 a9 a10 a11 a12 a13 n hn k hk⟩

theorem sMost_ev (a0 a1 a2 a3 a4 a5 a6 a7 a8 a9 a10 a11 a12 a13 : Int) (n : Int) (hn : n ≤ 9223372036854775807) : Ev (fun k => spec_l05Most.f k a0 a1 a2 a3 a4 a5 a6 a7 a8 a9 a10 a11 a12 a13 n) (cutW (fullWait a0 a1 a2 a3 a4 a5 a6 a7 a8 a9 a10 a11 a12 a13 n) a9) := by
  unfold spec_l05Most.f
  exact Ev.bind' _ (sFull_ev a0 a1 a2 a3 a4 a5 a6 a7 a8 a9 a10 a11 a12 a13 n hn) (Ev.now _)

theorem sJit_ev (a0 a1 a2 a3 a4 a5 a6 a7 a8 a9 a10 a11 a12 a13 : Int) (n draw : Int) (hn : n ≤ 9223372036854775807) : Ev (fun k => spec_JitteredWait.f k a0 a1 a2 a3 a4 a5 a6 a7 a8 a9 a10 a11 a12 a13 n draw) (jitWait a0 a1 a2 a3 a4 a5 a6 a7 a8 a9 a10 a11 a12 a13 n draw) := by
  unfold spec_JitteredWait.f jitWait
  refine Ev.bind' _ (sConfigOk_ev a0 a1 a2 a3 a4 a5 a6 a7 a8 a9 a10 a11 a12 a13) ?_
  have hf := full_neg a0 a1 a2 a3 a4 a5 a6 a7 a8 a9 a10 a11 a12 a13 n
  by_cases h : configOk a0 a1 a2 a3 a4 a5 a6 a7 a8 a9 a10 a11 a12 a13 = true
  · refine Ev.pos h (Ev.step (fun k => by rw [spec_JitteredWait.j0]) ?_)
    by_cases h1 : n < 0
    · rw [if_pos (hf.2 (by omega))]
      exact Ev.pos (by simpa using h1) (Ev.now _)
    · rw [if_neg (fun e => hf.1 e ⟨h, by omega⟩)]
      refine Ev.neg (by simpa using h1) ?_
      by_cases h2 : draw < 0
      · rw [if_neg (by omega)]
        refine Ev.pos h2 ?_
        refine Ev.bind' _ (sFull_ev a0 a1 a2 a3 a4 a5 a6 a7 a8 a9 a10 a11 a12 a13 n hn) ?_
        exact Ev.bind' _ (sMost_ev a0 a1 a2 a3 a4 a5 a6 a7 a8 a9 a10 a11 a12 a13 n hn) (Ev.now _)
      · have e : (if 0 < draw then draw else 0) = draw := by split <;> omega
        rw [e, ← Int.tmod_eq_emod_of_nonneg (a := draw) (b := 1001) (by omega)]
        refine Ev.neg h2 ?_
        refine Ev.bind' _ (sFull_ev a0 a1 a2 a3 a4 a5 a6 a7 a8 a9 a10 a11 a12 a13 n hn) ?_
        exact Ev.bind' _ (sMost_ev a0 a1 a2 a3 a4 a5 a6 a7 a8 a9 a10 a11 a12 a13 n hn) (Ev.now _)
  · rw [if_pos (hf.2 (fun e => h e.1))]
    exact Ev.neg h (Ev.step (fun k => by rw [spec_JitteredWait.j0]) (Ev.pos rfl (Ev.now _)))

theorem sAddTick (k : Nat) (t d : Int) : spec_AddTick.f (k + 1) t d = some (addTick t d) := by
  unfold spec_AddTick.f addTick
  simp only [sTick, sIn, Option.bind_some, spec_AddTick.j0]
  by_cases h1 : 0 ≤ t ∧ t ≤ 1000000000
  · by_cases h2 : -1000000000 ≤ d ∧ d ≤ 1000000000
    · rw [w64 (by omega) (by omega)]
      simp only [h1, h2, and_self, decide_true, if_true, Bool.not_true, Bool.false_eq_true, if_false]
      repeat' split
      all_goals first | rfl | omega
    · simp [h1, h2]
  · simp [h1]
theorem sAddTick_ev (t d : Int) : Ev (fun k => spec_AddTick.f k t d) (addTick t d) := Ev.at1 (fun k => sAddTick k t d)

theorem sRed_l0 (a0 a1 a2 a3 a4 a5 a6 a7 a8 a9 a10 a11 a12 a13 : Int) (xs : List Int) (hx : xs.length ≤ 300) : ∀ (d i : Nat) (out : List Int), i ≤ xs.length → xs.length - i = d → out.length = i + 1 → Ev (fun k => spec_Redials.l0 k xs out (rd out i) (i : Int) a0 a1 a2 a3 a4 a5 a6 a7 a8 a9 a10 a11 a12 a13) (runE (redStep a0 a1 a2 a3 a4 a5 a6 a7 a8 a9 a10 a11 a12 a13) id i (xs.drop i) out) := by
  intro d
  induction d with
  | zero =>
    intro i out hi hd ho
    obtain rfl : i = xs.length := by omega
    rw [List.drop_length, runE]
    refine Ev.step (fun k => by rw [spec_Redials.l0]) ?_
    exact Ev.neg (by omega) (Ev.now _)
  | succ d ih =>
    intro i out hi hd ho
    rw [List.drop_eq_getElem_cons (by omega), runE]
    simp only [redStep]
    refine Ev.step (fun k => by rw [spec_Redials.l0]) ?_
    refine Ev.pos (by omega) (Ev.pos (by omega) ?_)
    rw [wsucc i (by omega), rd_nat xs i (by omega)]
    refine Ev.bind' _ (sJit_ev a0 a1 a2 a3 a4 a5 a6 a7 a8 a9 a10 a11 a12 a13 _ _ (by omega)) ?_
    refine Ev.bind' _ (sAddTick_ev _ _) ?_
    refine Ev.pos (by omega) ?_
    have e := rd_last out (addTick (rd out i) (jitWait a0 a1 a2 a3 a4 a5 a6 a7 a8 a9 a10 a11 a12 a13 ((i + 1 : Nat) : Int) xs[i])) (i + 1) ho
    have := ih (i + 1) (out ++ [addTick (rd out i) (jitWait a0 a1 a2 a3 a4 a5 a6 a7 a8 a9 a10 a11 a12 a13 ((i + 1 : Nat) : Int) xs[i])]) (by omega) (by omega) (by simp [ho])
    rw [e] at this
    exact this
theorem sRed_ev (a0 a1 a2 a3 a4 a5 a6 a7 a8 a9 a10 a11 a12 a13 : Int) (xs : List Int) : Ev (fun k => spec_Redials.f k a0 a1 a2 a3 a4 a5 a6 a7 a8 a9 a10 a11 a12 a13 xs) (redials a0 a1 a2 a3 a4 a5 a6 a7 a8 a9 a10 a11 a12 a13 xs) := by
  unfold spec_Redials.f redials
  refine Ev.bind' _ (sConfigOk_ev a0 a1 a2 a3 a4 a5 a6 a7 a8 a9 a10 a11 a12 a13) ?_
  by_cases h : configOk a0 a1 a2 a3 a4 a5 a6 a7 a8 a9 a10 a11 a12 a13 = true
  · refine Ev.pos h (Ev.step (fun k => by rw [spec_Redials.j0]) ?_)
    by_cases h2 : (xs.length : Int) > 300
    · rw [if_neg (fun e => by omega)]
      exact Ev.pos (by simpa using h2) (Ev.now _)
    · rw [if_pos ⟨h, by omega⟩]
      refine Ev.neg (by simpa using h2) ?_
      exact sRed_l0 a0 a1 a2 a3 a4 a5 a6 a7 a8 a9 a10 a11 a12 a13 xs (by omega) xs.length 0 [0] (by omega) (by omega) rfl
  · rw [if_neg (fun e => h e.1)]
    exact Ev.neg h (Ev.step (fun k => by rw [spec_Redials.j0]) (Ev.pos rfl (Ev.now _)))

theorem iIn (a b c : Int) : impl_in.f a b c = some (decide (b ≤ a ∧ a ≤ c)) := by
  unfold impl_in.f; by_cases h : b ≤ a <;> simp [h]

theorem iTick (a : Int) : impl_TickOk.f a = some (decide (0 ≤ a ∧ a ≤ 1000000000)) := by unfold impl_TickOk.f; rw [iIn]; rfl

theorem iConfigOk_j1 (k : Nat) (x5 : Bool) (a0 a1 a2 a3 a4 a5 a6 a7 a8 a9 a10 a11 a12 a13 : Int) : impl_ConfigOk.j1 (k + 1) x5 a0 a1 a2 a3 a4 a5 a6 a7 a8 a9 a10 a11 a12 a13 = some (x5 && decide ((1 ≤ a8 ∧ a8 ≤ 1000000) ∧ (1 ≤ a7 ∧ a7 ≤ a8) ∧ (0 ≤ a9 ∧ a9 ≤ 100) ∧ (1 ≤ a10 ∧ a10 ≤ 1000000) ∧ (1 ≤ a11 ∧ a11 ≤ 20) ∧ (1 ≤ a12 ∧ a12 ≤ 1000000))) := by
  simp only [impl_ConfigOk.j1, iIn, Option.bind_some]
  by_cases g2 : 1 ≤ a7 ∧ a7 ≤ a8
  case neg => cases x5 <;> simp [g2]
  by_cases g1 : a8 ≤ 1000000
  case neg => cases x5 <;> simp [g1, g2]
  have g0 : 1 ≤ a8 := by omega
  cases x5
  case false => simp [g1, g2]
  by_cases g3 : 0 ≤ a9 ∧ a9 ≤ 100
  case neg => simp [g0, g1, g2, g3]
  by_cases g4 : 1 ≤ a10 ∧ a10 ≤ 1000000
  case neg => simp [g0, g1, g2, g3, g4]
  by_cases g5 : 1 ≤ a12 ∧ a12 ≤ 1000000
  case neg => simp [g0, g1, g2, g3, g4, g5]
  simp [g0, g1, g2, g3, g4, g5]
theorem iConfigOk (k : Nat) (a0 a1 a2 a3 a4 a5 a6 a7 a8 a9 a10 a11 a12 a13 : Int) : impl_ConfigOk.f (k + 8) a0 a1 a2 a3 a4 a5 a6 a7 a8 a9 a10 a11 a12 a13 = some (configOk a0 a1 a2 a3 a4 a5 a6 a7 a8 a9 a10 a11 a12 a13) := by
  unfold impl_ConfigOk.f configOk
  simp only [Option.bind_some, List.length_cons, List.length_nil]
  by_cases h3 : 0 ≤ a2 ∧ a2 ≤ 1000000000
  case neg => simp [impl_ConfigOk.l0, iTick, rd, h3]
  by_cases h5 : 0 ≤ a3 ∧ a3 ≤ 1000000000
  case neg => simp [impl_ConfigOk.l0, iTick, rd, h3, h5, wrap64]
  by_cases h6 : 0 ≤ a4 ∧ a4 ≤ 1000000000
  case neg => simp [impl_ConfigOk.l0, iTick, rd, h3, h5, h6, wrap64]
  by_cases h7 : 0 ≤ a5 ∧ a5 ≤ 1000000000
  case neg => simp [impl_ConfigOk.l0, iTick, rd, h3, h5, h6, h7, wrap64]
  by_cases h8 : 0 ≤ a6 ∧ a6 ≤ 1000000000
  case neg => simp [impl_ConfigOk.l0, iTick, rd, h3, h5, h6, h7, h8, wrap64]
  by_cases h9 : 0 ≤ a13 ∧ a13 ≤ 1000000000
  case neg => simp [impl_ConfigOk.l0, iTick, rd, h3, h5, h6, h7, h8, h9, wrap64]
  by_cases h1 : 1 ≤ a1 ∧ a1 ≤ 12
  case neg => simp [impl_ConfigOk.l0, iTick, iIn, rd, h3, h5, h6, h7, h8, h9, h1, wrap64, iConfigOk_j1]
  by_cases h2 : 0 ≤ a0 ∧ a0 ≤ a1
  case neg => simp [impl_ConfigOk.l0, iTick, iIn, rd, h3, h5, h6, h7, h8, h9, h1, h2, wrap64, iConfigOk_j1]
  by_cases h4 : a2 = 0
  case pos => subst h4; simp [impl_ConfigOk.l0, iTick, iIn, rd, h5, h6, h7, h8, h9, h1, h2, wrap64, iConfigOk_j1]
  have h4' : 1 ≤ a2 := by omega
  by_cases h10 : a13 = 0
  case pos => subst h10; simp [impl_ConfigOk.l0, iTick, iIn, rd, h3, h5, h6, h7, h8, h1, h2, h4', wrap64, iConfigOk_j1]
  have h10' : 1 ≤ a13 := by omega
  simp [impl_ConfigOk.l0, iTick, iIn, rd, h3, h4, h5, h6, h7, h8, h9, h1, h2, h4', h10, h10', wrap64, iConfigOk_j1]
theorem iConfigOk_ev (a0 a1 a2 a3 a4 a5 a6 a7 a8 a9 a10 a11 a12 a13 : Int) : Ev (fun k => impl_ConfigOk.f k a0 a1 a2 a3 a4 a5 a6 a7 a8 a9 a10 a11 a12 a13) (configOk a0 a1 a2 a3 a4 a5 a6 a7 a8 a9 a10 a11 a12 a13) := ⟨8, fun k hk => by obtain ⟨m, rfl⟩ : ∃ m, k = m + 8 := ⟨k - 8, by omega⟩; exact iConfigOk m a0 a1 a2 a3 a4 a5 a6 a7 a8 a9 a10 a11 a12 a13⟩

theorem iFull_l0 (a0 a1 a2 a3 a4 a5 a6 a7 a8 a9 a10 a11 a12 a13 : Int) (h8 : a8 ≤ 1000000) (n : Int) (hn : n ≤ 9223372036854775807) : ∀ (d k : Nat) (w i : Int), 1 ≤ i → i ≤ n → 1 ≤ w → w ≤ 2000000 → a8 ≤ w * 2 ^ d → d < k → impl_FullWait.l0 k n w i a0 a1 a2 a3 a4 a5 a6 a7 a8 a9 a10 a11 a12 a13 = some (if a8 < dbl a8 (n - i).toNat w then a8 else dbl a8 (n - i).toNat w) := by
  intro d
  induction d with
  | zero =>
    intro k w i hi hin hw hw2 hd hk
    obtain ⟨k, rfl⟩ : ∃ m, k = m + 1 := ⟨k - 1, by omega⟩
    have hc : ¬ w < a8 := by simp at hd; omega
    simp only [impl_FullWait.l0]
    rw [dbl_done _ _ _ hc, if_neg hc]
    simp only [ite_self, mn]
  | succ d ih =>
    intro k w i hi hin hw hw2 hd hk
    obtain ⟨k, rfl⟩ : ∃ m, k = m + 1 := ⟨k - 1, by omega⟩
    simp only [impl_FullWait.l0]
    by_cases h1 : i < n
    · by_cases h2 : w < a8
      · rw [if_pos h1, if_pos h2, Int.mul_comm w 2, w64 (by omega) (by omega), w64 (by omega) (by omega), ih k (2 * w) (i + 1) (by omega) (by omega) (by omega) (by omega) (by rw [Int.mul_comm 2 w, Int.mul_assoc, Int.mul_comm 2, ← Int.pow_succ]; exact hd) (by omega)]
        obtain ⟨m, hm⟩ : ∃ m : Nat, (n - i).toNat = m + 1 := ⟨(n - i).toNat - 1, by omega⟩
        have hm2 : (n - (i + 1)).toNat = m := by omega
        rw [hm, hm2, dbl, if_pos h2]
      · rw [if_pos h1, if_neg h2, dbl_done _ _ _ h2, mn]
    · rw [if_neg h1]
      have hm : (n - i).toNat = 0 := by omega
      rw [hm, dbl, mn]
theorem iFull (a0 a1 a2 a3 a4 a5 a6 a7 a8 a9 a10 a11 a12 a13 : Int) (n : Int) (hn : n ≤ 9223372036854775807) (k : Nat) (hk : 30 ≤ k) : impl_FullWait.f k a0 a1 a2 a3 a4 a5 a6 a7 a8 a9 a10 a11 a12 a13 n = some (fullWait a0 a1 a2 a3 a4 a5 a6 a7 a8 a9 a10 a11 a12 a13 n) := by
  obtain ⟨k, rfl⟩ : ∃ m, k = m + 8 := ⟨k - 8, by omega⟩
  unfold impl_FullWait.f fullWait
  rw [iConfigOk, Option.bind_some]
  simp only [impl_FullWait.j0]
  by_cases h : configOk a0 a1 a2 a3 a4 a5 a6 a7 a8 a9 a10 a11 a12 a13 = true
  · obtain ⟨h7, h78, h8, _, _⟩ := cfg_bounds a0 a1 a2 a3 a4 a5 a6 a7 a8 a9 a10 a11 a12 a13 h
    rw [if_pos h, if_pos h, fullW]
    by_cases h1 : n < 0
    · simp [h1]
    · by_cases h2 : n = 0
      · simp [h2]
      · simp only [h1, h2, decide_false, Bool.false_eq_true, if_false]
        rw [iFull_l0 a0 a1 a2 a3 a4 a5 a6 a7 a8 a9 a10 a11 a12 a13 h8 n hn 20 (k + 7) a7 1 (by omega) (by omega) h7 (by omega) (by omega) (by omega)]
  · rw [if_neg h, if_neg h]; simp
theorem iFull_ev (a0 a1 a2 a3 a4 a5 a6 a7 a8 a9 a10 a11 a12 a13 : Int) (n : Int) (hn : n ≤ 9223372036854775807) : Ev (fun k => impl_FullWait.f k a0 a1 a2 a3 a4 a5 a6 a7 a8 a9 a10 a11 a12 a13 n) (fullWait a0 a1 a2 a3 a4 a5 a6 a7 a8 a9 a10 a11 a12 a13 n) := ⟨30, fun k hk => iFull a0 a1 a2 a3 a4 a5 a6 a7 a8 a9 a10 a11 a12 a13 n hn k hk⟩

theorem iJit_ev (a0 a1 a2 a3 a4 a5 a6 a7 a8 a9 a10 a11 a12 a13 : Int) (n draw : Int) (hn : n ≤ 9223372036854775807) : Ev (fun k => impl_JitteredWait.f k a0 a1 a2 a3 a4 a5 a6 a7 a8 a9 a10 a11 a12 a13 n draw) (jitWait a0 a1 a2 a3 a4 a5 a6 a7 a8 a9 a10 a11 a12 a13 n draw) := by
  unfold impl_JitteredWait.f jitWait
  refine Ev.bind' _ (iFull_ev a0 a1 a2 a3 a4 a5 a6 a7 a8 a9 a10 a11 a12 a13 n hn) ?_
  refine Ev.ite (fun _ => Ev.now _) (fun _ => ?_)
  unfold impl_Config_cut.f
  exact Ev.some' (Ev.now _)

theorem iAddTick (t d : Int) : impl_AddTick.f t d = some (addTick t d) := by
  unfold impl_AddTick.f addTick
  simp only [iTick, iIn, Option.bind_some]
  by_cases h1 : 0 ≤ t ∧ t ≤ 1000000000
  · by_cases h2 : -1000000000 ≤ d ∧ d ≤ 1000000000
    · rw [w64 (by omega) (by omega)]
      simp only [h1, h2, and_self, decide_true, if_true]
      unfold mx mn
      congr 1
      repeat' split
      all_goals omega
    · simp [h1, h2]
  · simp [h1]

theorem iRed_l0 (a0 a1 a2 a3 a4 a5 a6 a7 a8 a9 a10 a11 a12 a13 : Int) (xs : List Int) (hx : xs.length ≤ 300) : ∀ (d i : Nat) (out : List Int), i ≤ xs.length → xs.length - i = d → out.length = i + 1 → Ev (fun k => impl_Redials.l0 k out xs (xs.length : Int) (i : Int) a0 a1 a2 a3 a4 a5 a6 a7 a8 a9 a10 a11 a12 a13) (runE (redStep a0 a1 a2 a3 a4 a5 a6 a7 a8 a9 a10 a11 a12 a13) id i (xs.drop i) out) := by
  intro d
  induction d with
  | zero =>
    intro i out hi hd ho
    obtain rfl : i = xs.length := by omega
    rw [List.drop_length, runE]
    refine Ev.step (fun k => by rw [impl_Redials.l0]) ?_
    exact Ev.neg (by omega) (Ev.now _)
  | succ d ih =>
    intro i out hi hd ho
    rw [List.drop_eq_getElem_cons (by omega), runE]
    simp only [redStep]
    refine Ev.step (fun k => by rw [impl_Redials.l0]) ?_
    refine Ev.pos (by omega) (Ev.pos (by omega) (Ev.pos (by omega) (Ev.pos (by omega) ?_)))
    rw [wsucc i (by omega), rd_nat xs i (by omega)]
    refine Ev.bind' _ (iJit_ev a0 a1 a2 a3 a4 a5 a6 a7 a8 a9 a10 a11 a12 a13 _ _ (by omega)) ?_
    refine Ev.bind' _ (Ev.is fun _ => iAddTick _ _) ?_
    refine Ev.pos (by omega) ?_
    exact ih (i + 1) _ (by omega) (by omega) (by simp [ho])
theorem iRed_ev (a0 a1 a2 a3 a4 a5 a6 a7 a8 a9 a10 a11 a12 a13 : Int) (xs : List Int) : Ev (fun k => impl_Redials.f k a0 a1 a2 a3 a4 a5 a6 a7 a8 a9 a10 a11 a12 a13 xs) (redials a0 a1 a2 a3 a4 a5 a6 a7 a8 a9 a10 a11 a12 a13 xs) := by
  unfold impl_Redials.f redials
  refine Ev.bind' _ (iConfigOk_ev a0 a1 a2 a3 a4 a5 a6 a7 a8 a9 a10 a11 a12 a13) ?_
  by_cases h : configOk a0 a1 a2 a3 a4 a5 a6 a7 a8 a9 a10 a11 a12 a13 = true
  · refine Ev.pos h (Ev.step (fun k => by rw [impl_Redials.j0]) ?_)
    by_cases h2 : (xs.length : Int) > 300
    · rw [if_neg (fun e => by omega)]
      exact Ev.pos (by simpa using h2) (Ev.now _)
    · rw [if_pos ⟨h, by omega⟩]
      refine Ev.neg (by simpa using h2) ?_
      exact iRed_l0 a0 a1 a2 a3 a4 a5 a6 a7 a8 a9 a10 a11 a12 a13 xs (by omega) xs.length 0 [0] (by omega) (by omega) rfl
  · rw [if_neg (fun e => h e.1)]
    exact Ev.neg h (Ev.step (fun k => by rw [impl_Redials.j0]) (Ev.pos rfl (Ev.now _)))

theorem toIntS_ev (l : List Int) (hl : l.length ≤ 1048576) : Ev (fun k => laws_toIntS.f k l) l := by
  have key : ∀ (d k : Nat) (i : Nat) (acc : List Int), i ≤ l.length → l.length - i = d → d < k → acc.length = l.length → laws_toIntS.l0 k l acc (i : Int) = some (acc.take i ++ l.drop i) := by
    intro d
    induction d with
    | zero =>
      intro k i acc hi hd hk ha
      obtain ⟨k, rfl⟩ : ∃ m, k = m + 1 := ⟨k - 1, by omega⟩
      obtain rfl : i = l.length := by omega
      simp only [laws_toIntS.l0]
      rw [if_neg (by omega), List.drop_length, ← ha, List.take_length, List.append_nil]
    | succ d ih =>
      intro k i acc hi hd hk ha
      obtain ⟨k, rfl⟩ : ∃ m, k = m + 1 := ⟨k - 1, by omega⟩
      simp only [laws_toIntS.l0]
      rw [if_pos (by omega), if_pos (by omega), if_pos (by omega), wsucc i (by omega), rd_nat l i (by omega), Int.toNat_natCast, ih k (i + 1) _ (by omega) (by omega) (by omega) (by rw [List.length_set, ha])]
      congr 1
      rw [List.take_succ_eq_append_getElem (by rw [List.length_set]; omega), List.getElem_set_self, List.take_set_of_le (Nat.le_refl _), List.append_assoc, List.singleton_append, ← List.drop_eq_getElem_cons (by omega)]
  refine ⟨l.length + 1, fun k hk => (?_ : laws_toIntS.f k l = some l)⟩
  unfold laws_toIntS.f
  rw [if_pos (by omega), if_pos (by omega), Int.toNat_natCast]
  have := key l.length k 0 (List.replicate l.length 0) (by omega) (by omega) (by omega) (by simp)
  simpa using this

theorem eqIntS_run (l r : List Int) (hl : l.length = r.length) (hb : l.length ≤ 1048577) : ∀ (d k i : Nat), i ≤ l.length → l.length - i = d → d < k → laws_eqIntS.l0 k l r (i : Int) = some (decide (l.drop i = r.drop i)) := by
  intro d
  induction d with
  | zero =>
    intro k i hi hd hk
    obtain ⟨k, rfl⟩ : ∃ m, k = m + 1 := ⟨k - 1, by omega⟩
    obtain rfl : i = l.length := by omega
    simp only [laws_eqIntS.l0]
    rw [if_neg (by omega), List.drop_length, hl, List.drop_length]
    rfl
  | succ d ih =>
    intro k i hi hd hk
    obtain ⟨k, rfl⟩ : ∃ m, k = m + 1 := ⟨k - 1, by omega⟩
    simp only [laws_eqIntS.l0]
    rw [if_pos (by omega), if_pos (by omega), if_pos (by omega), rd_nat l i (by omega), rd_nat r i (by omega), wsucc i (by omega), List.drop_eq_getElem_cons (show i < l.length by omega), List.drop_eq_getElem_cons (show i < r.length by omega)]
    by_cases h : l[i] = r[i]
    · rw [if_pos h, ih k (i + 1) (by omega) (by omega) (by omega)]
      simp only [List.cons.injEq, h, true_and]
    · rw [if_neg h]
      simp only [List.cons.injEq, h, false_and, decide_false]
theorem eqIntS_ev (l r : List Int) (hb : l.length ≤ 1048577) : Ev (fun k => laws_eqIntS.f k l r) (decide (l = r)) := by
  unfold laws_eqIntS.f
  by_cases h : l.length = r.length
  · refine Ev.pos (by omega) ⟨l.length + 1, fun k hk => ?_⟩
    have := eqIntS_run l r h hb l.length k 0 (by omega) (by omega) (by omega)
    simpa using this
  · refine Ev.neg (by omega) (Ev.is fun _ => ?_)
    rw [decide_eq_false (fun e => h (by rw [e]))]



def marks : Int → Nat → List Int
  | _, 0 => []
  | m, n + 1 => m :: marks (m + 1) n
theorem marks_length : ∀ (n : Nat) (m : Int), (marks m n).length = n
  | 0, _ => rfl
  | n + 1, m => by rw [marks, List.length_cons, marks_length n]
theorem markIntS_ev (l : List Int) (m : Int) (hm : 0 ≤ m) (hm2 : m ≤ 4611686018427387904) (hl : l.length ≤ 1048577) : Ev (fun k => laws_markIntS.f k l m) (m + l.length, marks m l.length) := by
  have key : ∀ (d k i : Nat) (m : Int) (acc : List Int), i ≤ l.length → l.length - i = d → d < k → acc.length = l.length → 0 ≤ m → m + d ≤ 4611686018428436481 → laws_markIntS.l0 k acc m (i : Int) = some (m + d, acc.take i ++ marks m d) := by
    intro d
    induction d with
    | zero =>
      intro k i m acc hi hd hk ha h0 h1
      obtain ⟨k, rfl⟩ : ∃ m, k = m + 1 := ⟨k - 1, by omega⟩
      simp only [laws_markIntS.l0]
      rw [if_neg (by omega), List.take_of_length_le (by omega), marks, List.append_nil]
      simp
    | succ d ih =>
      intro k i m acc hi hd hk ha h0 h1
      obtain ⟨k, rfl⟩ : ∃ m, k = m + 1 := ⟨k - 1, by omega⟩
      simp only [laws_markIntS.l0]
      rw [if_pos (by omega), if_pos (by omega), wsucc i (by omega), w64 (by omega) (by omega), Int.toNat_natCast, ih k (i + 1) (m + 1) _ (by omega) (by omega) (by omega) (by rw [List.length_set, ha]) (by omega) (by omega)]
      rw [List.take_succ_eq_append_getElem (by rw [List.length_set]; omega), List.getElem_set_self, List.take_set_of_le (Nat.le_refl _), List.append_assoc, List.singleton_append, marks]
      congr 2
      omega
  refine ⟨l.length + 1, fun k hk => (?_ : laws_markIntS.f k l m = _)⟩
  unfold laws_markIntS.f
  have := key l.length k 0 m l (by omega) (by omega) (by omega) rfl hm (by omega)
  simpa using this
theorem heldIntS_ev (n : Nat) (m : Int) (hm : 0 ≤ m) (hm2 : m ≤ 4611686018427387904) (hn : n ≤ 1048577) : Ev (fun k => laws_heldIntS.f k (marks m n) m) (m + n) := by
  have key : ∀ (l : List Int), l.length ≤ 1048577 → ∀ (d k i : Nat) (m : Int), i ≤ l.length → l.length - i = d → d < k → l.drop i = marks m d → 0 ≤ m → m + d ≤ 4611686018428436481 → laws_heldIntS.l0 k l m (i : Int) = some (m + d) := by
    intro l hl d
    induction d with
    | zero =>
      intro k i m hi hd hk hs h0 h1
      obtain ⟨k, rfl⟩ : ∃ m, k = m + 1 := ⟨k - 1, by omega⟩
      simp only [laws_heldIntS.l0]
      rw [if_neg (by omega)]
      simp
    | succ d ih =>
      intro k i m hi hd hk hs h0 h1
      obtain ⟨k, rfl⟩ : ∃ m, k = m + 1 := ⟨k - 1, by omega⟩
      rw [List.drop_eq_getElem_cons (by omega), marks, List.cons.injEq] at hs
      simp only [laws_heldIntS.l0]
      rw [if_pos (by omega), if_pos (by omega), rd_nat l i (by omega), if_pos hs.1, wsucc i (by omega), w64 (by omega) (by omega), ih k (i + 1) (m + 1) (by omega) (by omega) (by omega) hs.2 (by omega) (by omega)]
      congr 1
      omega
  refine ⟨n + 1, fun k hk => (?_ : laws_heldIntS.f k (marks m n) m = _)⟩
  unfold laws_heldIntS.f
  exact key (marks m n) (by rw [marks_length]; exact hn) n k 0 m (by omega) (by rw [marks_length]; omega) (by omega) rfl hm (by omega)

theorem FnExactRedials : ∀ (a0 a1 a2 a3 a4 a5 a6 a7 a8 a9 a10 a11 a12 a13 : Int) (l : List Int), (Lit.int .i64 a0).wf = true → (Lit.int .i64 a1).wf = true → (Lit.int .i64 a2).wf = true → (Lit.int .i64 a3).wf = true → (Lit.int .i64 a4).wf = true → (Lit.int .i64 a5).wf = true → (Lit.int .i64 a6).wf = true → (Lit.int .i64 a7).wf = true → (Lit.int .i64 a8).wf = true → (Lit.int .i64 a9).wf = true → (Lit.int .i64 a10).wf = true → (Lit.int .i64 a11).wf = true → (Lit.int .i64 a12).wf = true → (Lit.int .i64 a13).wf = true →  l.length ≤ maxLen → l.length * 8 ≤ 140737488351232 → (∀ x ∈ l, (Lit.int .i64 x).wf = true) → ∃ k, laws_FnExactRedials.f k a0 a1 a2 a3 a4 a5 a6 a7 a8 a9 a10 a11 a12 a13 l = some true := by
  intro a0 a1 a2 a3 a4 a5 a6 a7 a8 a9 a10 a11 a12 a13 l _ _ _ _ _ _ _ _ _ _ _ _ _ _ _ _ _
  refine Ev.rounds (r := true) ?_
  unfold laws_FnExactRedials.f
  by_cases h : (l.length : Int) > 1048576
  · exact Ev.pos h (Ev.now _)
  have hl : l.length ≤ 1048576 := by omega
  have hr : (redials a0 a1 a2 a3 a4 a5 a6 a7 a8 a9 a10 a11 a12 a13 l).length ≤ 1048577 := by
    unfold redials
    split
    · rw [redials_len]; simp; omega
    · simp
  have hT : ∀ _ : Nat, laws_toConfig.f a0 a1 a2 a3 a4 a5 a6 a7 a8 a9 a10 a11 a12 a13 = some (a0, a1, a2, a3, a4, a5, a6, a7, a8, a9, a10, a11, a12, a13) := fun _ => rfl
  refine Ev.neg h ?_
  refine Ev.bind' _ (Ev.is hT) ?_
  refine Ev.bind' l (toIntS_ev l hl) ?_
  refine Ev.bind' _ (sRed_ev a0 a1 a2 a3 a4 a5 a6 a7 a8 a9 a10 a11 a12 a13 l) ?_
  refine Ev.bind' l (toIntS_ev l hl) ?_
  refine Ev.bind' _ (Ev.is hT) ?_
  refine Ev.bind' _ (iRed_ev a0 a1 a2 a3 a4 a5 a6 a7 a8 a9 a10 a11 a12 a13 l) ?_
  refine Ev.bind' _ (eqIntS_ev _ _ hr) (Ev.pos (by simp) ?_)
  refine Ev.bind' l (toIntS_ev l hl) ?_
  refine Ev.bind' _ (eqIntS_ev l l (by omega)) (Ev.pos (by simp) ?_)
  refine Ev.bind' _ (markIntS_ev l 1 (by omega) (by omega) (by omega)) (Ev.neg (by omega) ?_)
  refine Ev.bind' _ (eqIntS_ev _ _ hr) ?_
  refine Ev.step (fun k => by rw [laws_FnExactRedials.j0]) (Ev.neg (by simp) ?_)
  refine Ev.bind' _ (markIntS_ev (redials a0 a1 a2 a3 a4 a5 a6 a7 a8 a9 a10 a11 a12 a13 l) 1 (by omega) (by omega) hr) ?_
  refine Ev.bind' _ (heldIntS_ev (redials a0 a1 a2 a3 a4 a5 a6 a7 a8 a9 a10 a11 a12 a13 l).length 1 (by omega) (by omega) hr) (Ev.neg (by omega) (Ev.pos rfl ?_))
  refine Ev.bind' _ (Ev.is hT) ?_
  refine Ev.bind' l (toIntS_ev l hl) ?_
  refine Ev.bind' _ (iRed_ev a0 a1 a2 a3 a4 a5 a6 a7 a8 a9 a10 a11 a12 a13 l) ?_
  refine Ev.bind' _ (eqIntS_ev _ _ hr) (Ev.pos (by simp) ?_)
  exact Ev.bind' _ (heldIntS_ev (redials a0 a1 a2 a3 a4 a5 a6 a7 a8 a9 a10 a11 a12 a13 l).length 1 (by omega) (by omega) hr) (Ev.neg (by omega) (Ev.pos rfl (Ev.now _)))

end Go.Proofs.Ytdeilfcoikmafaa.Pure
