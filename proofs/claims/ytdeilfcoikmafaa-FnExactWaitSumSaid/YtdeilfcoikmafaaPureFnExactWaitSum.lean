/-
For every configuration and numbers the program's WaitSum and the reference's WaitSum answer alike (the printed law answers true). All are any 64-bit numbers.
-/
import Derived.Test.YtdeilfcoikmafaaPFnExactWaitSumx7
namespace Go.Proofs.Ytdeilfcoikmafaa.Pure
open Go.RowKit Go.Proofs.Ytdeilfcoikmafaa.PFnExactWaitSum Go.Proofs.YtdeilfcoikmafaaW.PrintWords Go.Proofs.YtdeilfcoikmafaaW.PrintLast Go.Proofs.YtdeilfcoikmafaaW.PrintMore 
set_option linter.unusedVariables false
set_option linter.unusedSimpArgs false

theorem w64 {n : Int} (h0 : -9223372036854775808 ≤ n) (h1 : n ≤ 9223372036854775807) : wrap64 n = n := by unfold wrap64; omega
theorem wsucc (i : Nat) (h : i < 9223372036854775807) : wrap64 ((i : Int) + 1) = ((i + 1 : Nat) : Int) := by rw [w64 (by omega) (by omega)]; omega
theorem rd_nat (xs : List Int) (i : Nat) (h : i < xs.length) : rd xs (i : Int) = xs[i] := by simp [rd, h]
theorem rdOf_nat {α : Type} (d : α) (xs : List α) (i : Nat) (h : i < xs.length) : rdOf d xs (i : Int) = xs[i] := by simp [rdOf, h]
theorem Ev.pos {α : Type} {c : Prop} [Decidable c] {A B : Nat → Option α} {r : α} (h : c) (e : Ev A r) : Ev (fun k => if c then A k else B k) r := Ev.congr (fun _ => if_pos h) e
theorem Ev.neg {α : Type} {c : Prop} [Decidable c] {A B : Nat → Option α} {r : α} (h : ¬ c) (e : Ev B r) : Ev (fun k => if c then A k else B k) r := Ev.congr (fun _ => if_neg h) e
theorem Ev.bind' {α β : Type} {g : Nat → Option α} {f : Nat → α → Option β} {r : β} (a : α) (h : Ev g a) (k : Ev (fun n => f n a) r) : Ev (fun n => (g n).bind (f n)) r := Ev.bind h k
theorem Ev.some' {α β : Type} {a : α} {f : Nat → α → Option β} {r : β} (k : Ev (fun n => f n a) r) : Ev (fun n => (Option.some a).bind (f n)) r := Ev.bind (Ev.now a) k
theorem Ev.is {α : Type} {g : Nat → Option α} {r : α} (h : ∀ k, g k = some r) : Ev g r := ⟨0, fun k _ => h k⟩
theorem Ev.at1 {α : Type} {g : Nat → Option α} {r : α} (h : ∀ k, g (k + 1) = some r) : Ev g r := ⟨1, fun k hk => by obtain ⟨m, rfl⟩ : ∃ m, k = m + 1 := ⟨k - 1, by omega⟩; exact h m⟩
theorem Ev.at2 {α : Type} {g : Nat → Option α} {r : α} (h : ∀ k, g (k + 2) = some r) : Ev g r := ⟨2, fun k hk => by obtain ⟨m, rfl⟩ : ∃ m, k = m + 2 := ⟨k - 2, by omega⟩; exact h m⟩
theorem Ev.at3 {α : Type} {g : Nat → Option α} {r : α} (h : ∀ k, g (k + 3) = some r) : Ev g r := ⟨3, fun k hk => by obtain ⟨m, rfl⟩ : ∃ m, k = m + 3 := ⟨k - 3, by omega⟩; exact h m⟩
/-- What a loop over a list comes to: a state, a step that goes on or answers, an end. -/
def runE {α σ ρ : Type} (step : Nat → σ → α → Except ρ σ) (fin : σ → ρ) : Nat → List α → σ → ρ
  | _, [], s => fin s
  | i, x :: xs, s => match step i s x with
    | .error r => r
    | .ok s' => runE step fin (i + 1) xs s'
/-- A loop over a list, round by round (from K rounds on). -/
theorem loop_run {α σ ρ : Type} (xs : List α) (L : Nat → σ → Int → Option ρ) (step : Nat → σ → α → Except ρ σ) (fin : σ → ρ) (K : Nat)
    (hs : ∀ k, K ≤ k → ∀ s (i : Nat) (h : i < xs.length), L (k + 1) s i = match step i s xs[i] with | .error r => some r | .ok s' => L k s' ((i + 1 : Nat) : Int))
    (he : ∀ k s, L (k + 1) s (xs.length : Int) = some (fin s)) :
    ∀ (d k : Nat) (s : σ) (i : Nat), i ≤ xs.length → xs.length - i = d → d + K < k → L k s (i : Int) = some (runE step fin i (xs.drop i) s) := by
  intro d
  induction d with
  | zero =>
    intro k s i hi hd hk
    obtain ⟨k, rfl⟩ : ∃ m, k = m + 1 := ⟨k - 1, by omega⟩
    obtain rfl : i = xs.length := by omega
    rw [he, List.drop_length, runE]
  | succ d ih =>
    intro k s i hi hd hk
    obtain ⟨k, rfl⟩ : ∃ m, k = m + 1 := ⟨k - 1, by omega⟩
    have hlt : i < xs.length := by omega
    rw [hs k (by omega) s i hlt, List.drop_eq_getElem_cons hlt, runE]
    cases step i s xs[i] with
    | error r => rfl
    | ok s' => exact ih k s' (i + 1) (by omega) (by omega) (by omega)
/-- The same, from the start. -/
theorem loop_ev {α σ ρ : Type} (xs : List α) (L : Nat → σ → Int → Option ρ) (step : Nat → σ → α → Except ρ σ) (fin : σ → ρ) (K : Nat)
    (hs : ∀ k, K ≤ k → ∀ s (i : Nat) (h : i < xs.length), L (k + 1) s i = match step i s xs[i] with | .error r => some r | .ok s' => L k s' ((i + 1 : Nat) : Int))
    (he : ∀ k s, L (k + 1) s (xs.length : Int) = some (fin s)) (s : σ) : Ev (fun k => L k s 0) (runE step fin 0 xs s) :=
  ⟨xs.length + K + 1, fun k hk => by have := loop_run xs L step fin K hs he xs.length k s 0 (by omega) (by omega) (by omega); simpa using this⟩
theorem wf_b {n : Int} (h : (Lit.int .i64 n).wf = true) : -9223372036854775808 ≤ n ∧ n ≤ 9223372036854775807 := by
  simp [Lit.wf, IntKind.min, IntKind.max, IntKind.signed, IntKind.bits] at h
  omega
theorem Ev.ite {α : Type} {c : Prop} [Decidable c] {A B : Nat → Option α} {a b : α} (h1 : c → Ev A a) (h2 : ¬ c → Ev B b) : Ev (fun k => if c then A k else B k) (if c then a else b) := by
  by_cases h : c
  · rw [if_pos h]; exact Ev.pos h (h1 h)
  · rw [if_neg h]; exact Ev.neg h (h2 h)

def configOk (a0 a1 a2 a3 a4 a5 a6 a7 a8 a9 a10 a11 a12 a13 : Int) : Bool := decide ((1 ≤ a1 ∧ a1 ≤ 12) ∧ (0 ≤ a0 ∧ a0 ≤ a1) ∧ (0 ≤ a2 ∧ a2 ≤ 1000000000) ∧ (a2 ≠ 0) ∧ (0 ≤ a3 ∧ a3 ≤ 1000000000) ∧ (0 ≤ a4 ∧ a4 ≤ 1000000000) ∧ (0 ≤ a5 ∧ a5 ≤ 1000000000) ∧ (0 ≤ a6 ∧ a6 ≤ 1000000000) ∧ (0 ≤ a13 ∧ a13 ≤ 1000000000) ∧ (a13 ≠ 0) ∧
  (1 ≤ a8 ∧ a8 ≤ 1000000) ∧ (1 ≤ a7 ∧ a7 ≤ a8) ∧ (0 ≤ a9 ∧ a9 ≤ 100) ∧ (1 ≤ a10 ∧ a10 ≤ 1000000) ∧ (1 ≤ a11 ∧ a11 ≤ 20) ∧ (1 ≤ a12 ∧ a12 ≤ 1000000))

/-- How long a wait becomes in so many doublings, as far as the cap. -/
def dbl (c : Int) : Nat → Int → Int
  | 0, w => w
  | m + 1, w => if w < c then dbl c m (2 * w) else w
def fullW (b c n : Int) : Int := if n < 0 then -1 else if n = 0 then 0 else if c < dbl c (n - 1).toNat b then c else dbl c (n - 1).toNat b
def fullWait (a0 a1 a2 a3 a4 a5 a6 a7 a8 a9 a10 a11 a12 a13 : Int) (n : Int) : Int := if configOk a0 a1 a2 a3 a4 a5 a6 a7 a8 a9 a10 a11 a12 a13 = true then fullW a7 a8 n else -1
theorem dbl_done (c : Int) (m : Nat) (w : Int) (h : ¬ w < c) : dbl c m w = w := by cases m <;> simp [dbl, h]
theorem cfg_bounds (a0 a1 a2 a3 a4 a5 a6 a7 a8 a9 a10 a11 a12 a13 : Int) (h : configOk a0 a1 a2 a3 a4 a5 a6 a7 a8 a9 a10 a11 a12 a13 = true) : 1 ≤ a7 ∧ a7 ≤ a8 ∧ a8 ≤ 1000000 ∧ 0 ≤ a9 ∧ a9 ≤ 100 := by
  unfold configOk at h
  simp only [decide_eq_true_eq] at h
  omega

def stepsFrom (b c : Int) : Nat → Int → Int
  | 0, i => i
  | d + 1, i => if fullW b c i < c then stepsFrom b c d (i + 1) else i
def steps (a0 a1 a2 a3 a4 a5 a6 a7 a8 a9 a10 a11 a12 a13 : Int) : Int := if configOk a0 a1 a2 a3 a4 a5 a6 a7 a8 a9 a10 a11 a12 a13 = true then stepsFrom a7 a8 20 1 else -1
theorem dbl_ge (c : Int) (m : Nat) (w : Int) (h : c ≤ w * 2 ^ m) : c ≤ dbl c m w := by
  induction m generalizing w with
  | zero => simpa [dbl] using h
  | succ m ih =>
    rw [dbl]
    split
    · exact ih _ (by rw [Int.mul_comm 2 w, Int.mul_assoc, Int.mul_comm 2, ← Int.pow_succ]; exact h)
    · omega
theorem full_le (b c n : Int) (hn : 1 ≤ n) : fullW b c n ≤ c := by
  unfold fullW
  rw [if_neg (by omega), if_neg (by omega)]
  split <;> omega
theorem full_21 (b c : Int) (hb : 1 ≤ b) (hc : c ≤ 1000000) : fullW b c 21 = c := by
  have h := dbl_ge c 20 b (by omega)
  unfold fullW
  rw [if_neg (by omega), if_neg (by omega)]
  have e : ((21 : Int) - 1).toNat = 20 := rfl
  rw [e]
  split <;> omega
theorem steps_ge (b c : Int) : ∀ (d : Nat) (i : Int), i ≤ stepsFrom b c d i
  | 0, i => by rw [stepsFrom]; omega
  | d + 1, i => by
    rw [stepsFrom]
    split
    · have := steps_ge b c d (i + 1); omega
    · omega

def capTick (s : Int) : Int := if 1000000000 < s then 1000000000 else s
def wsum (b c n : Int) : Nat → Int → Int → Int
  | 0, s, i => if i ≤ n then capTick (wrap64 (s + wrap64 (wrap64 (wrap64 (n - i) + 1) * c))) else capTick s
  | d + 1, s, i => if i ≤ n then (if fullW b c i = c then capTick (wrap64 (s + wrap64 (wrap64 (wrap64 (n - i) + 1) * c))) else wsum b c n d (wrap64 (s + fullW b c i)) (i + 1)) else capTick s
def waitSum (a0 a1 a2 a3 a4 a5 a6 a7 a8 a9 a10 a11 a12 a13 : Int) (n : Int) : Int := if configOk a0 a1 a2 a3 a4 a5 a6 a7 a8 a9 a10 a11 a12 a13 = true ∧ (0 ≤ n ∧ n ≤ 1000000000) then wsum a7 a8 n 20 0 1 else -1

theorem sIn (a b c : Int) : spec_l01In.f a b c = some (decide (b ≤ a ∧ a ≤ c)) := by
  unfold spec_l01In.f; by_cases h : b ≤ a <;> simp [h]

theorem sTick (a : Int) : spec_TickOk.f a = some (decide (0 ≤ a ∧ a ≤ 1000000000)) := by unfold spec_TickOk.f; rw [sIn]; rfl

theorem sConfigOk (k : Nat) (a0 a1 a2 a3 a4 a5 a6 a7 a8 a9 a10 a11 a12 a13 : Int) : spec_ConfigOk.f (k + 2) a0 a1 a2 a3 a4 a5 a6 a7 a8 a9 a10 a11 a12 a13 = some (configOk a0 a1 a2 a3 a4 a5 a6 a7 a8 a9 a10 a11 a12 a13) := by
  unfold spec_ConfigOk.f configOk
  simp only [sTick, sIn, Option.bind_some]
  by_cases h1 : 1 ≤ a1 ∧ a1 ≤ 12
  case neg => simp [h1, spec_ConfigOk.j0]
  by_cases h2 : 0 ≤ a0 ∧ a0 ≤ a1
  case neg => simp [h1, h2, spec_ConfigOk.j0]
  simp only [h1, h2, and_self, decide_true, if_true, Bool.not_true, spec_ConfigOk.j0, sTick, Option.bind_some, Bool.false_eq_true, if_false, true_and]
  clear h1 h2
  by_cases h3 : 0 ≤ a2 ∧ a2 ≤ 1000000000
  case neg => simp [h3, spec_ConfigOk.j1]
  by_cases h4 : a2 = 0
  case pos => subst h4; simp [spec_ConfigOk.j1]
  by_cases h5 : 0 ≤ a3 ∧ a3 ≤ 1000000000
  case neg => simp [h3, h4, h5, spec_ConfigOk.j1]
  by_cases h6 : 0 ≤ a4 ∧ a4 ≤ 1000000000
  case neg => simp [h3, h4, h5, h6, spec_ConfigOk.j1]
  by_cases h7 : 0 ≤ a5 ∧ a5 ≤ 1000000000
  case neg => simp [h3, h4, h5, h6, h7, spec_ConfigOk.j1]
  by_cases h8 : 0 ≤ a6 ∧ a6 ≤ 1000000000
  case neg => simp [h3, h4, h5, h6, h7, h8, spec_ConfigOk.j1]
  by_cases h9 : 0 ≤ a13 ∧ a13 ≤ 1000000000
  case neg => simp [h3, h4, h5, h6, h7, h8, h9, spec_ConfigOk.j1]
  by_cases h10 : a13 = 0
  case pos => subst h10; simp [h3, h4, h5, h6, h7, h8, spec_ConfigOk.j1]
  simp only [h3, h4, h5, h6, h7, h8, h9, h10, and_self, decide_true, if_true, if_false, beq_eq_false_iff_ne.mpr h10, Bool.false_eq_true, spec_ConfigOk.j1, sIn, Option.bind_some, ne_eq, not_false_eq_true, true_and]
  by_cases g1 : 1 ≤ a8 ∧ a8 ≤ 1000000
  case neg => simp [g1]
  by_cases g2 : 1 ≤ a7 ∧ a7 ≤ a8
  case neg => simp [g1, g2]
  by_cases g3 : 0 ≤ a9 ∧ a9 ≤ 100
  case neg => simp [g1, g2, g3]
  by_cases g4 : 1 ≤ a10 ∧ a10 ≤ 1000000
  case neg => simp [g1, g2, g3, g4]
  by_cases g5 : 1 ≤ a11 ∧ a11 ≤ 20
  case neg => simp [g1, g2, g3, g4, g5]
  simp [g1, g2, g3, g4, g5]
theorem sConfigOk_ev (a0 a1 a2 a3 a4 a5 a6 a7 a8 a9 a10 a11 a12 a13 : Int) : Ev (fun k => spec_ConfigOk.f k a0 a1 a2 a3 a4 a5 a6 a7 a8 a9 a10 a11 a12 a13) (configOk a0 a1 a2 a3 a4 a5 a6 a7 a8 a9 a10 a11 a12 a13) := Ev.at2 (fun k => sConfigOk k a0 a1 a2 a3 a4 a5 a6 a7 a8 a9 a10 a11 a12 a13)

theorem sFull_l0 (a0 a1 a2 a3 a4 a5 a6 a7 a8 a9 a10 a11 a12 a13 : Int) (h8 : a8 ≤ 1000000) (n : Int) (hn : n ≤ 9223372036854775807) : ∀ (d k : Nat) (w i : Int), 1 ≤ i → i ≤ n → 1 ≤ w → w ≤ 2000000 → a8 ≤ w * 2 ^ d → d < k → spec_FullWait.l0 k n w i a0 a1 a2 a3 a4 a5 a6 a7 a8 a9 a10 a11 a12 a13 = some (if a8 < dbl a8 (n - i).toNat w then a8 else dbl a8 (n - i).toNat w) := by
  intro d
  induction d with
  | zero =>
    intro k w i hi hin hw hw2 hd hk
    obtain ⟨k, rfl⟩ : ∃ m, k = m + 1 := ⟨k - 1, by omega⟩
    have hc : ¬ w < a8 := by simp at hd; omega
    simp only [spec_FullWait.l0]
    rw [dbl_done _ _ _ hc, if_neg hc]
    simp only [gt_iff_lt, ite_self]
    split <;> rfl
  | succ d ih =>
    intro k w i hi hin hw hw2 hd hk
    obtain ⟨k, rfl⟩ : ∃ m, k = m + 1 := ⟨k - 1, by omega⟩
    simp only [spec_FullWait.l0]
    by_cases h1 : i < n
    · by_cases h2 : w < a8
      · rw [if_pos h1, if_pos h2, w64 (by omega) (by omega), w64 (by omega) (by omega), ih k (2 * w) (i + 1) (by omega) (by omega) (by omega) (by omega) (by rw [Int.mul_comm 2 w, Int.mul_assoc, Int.mul_comm 2, ← Int.pow_succ]; exact hd) (by omega)]
        obtain ⟨m, hm⟩ : ∃ m : Nat, (n - i).toNat = m + 1 := ⟨(n - i).toNat - 1, by omega⟩
        have hm2 : (n - (i + 1)).toNat = m := by omega
        rw [hm, hm2, dbl, if_pos h2]
      · rw [if_pos h1, if_neg h2, dbl_done _ _ _ h2]
        simp only [gt_iff_lt]
        split <;> rfl
    · rw [if_neg h1]
      have hm : (n - i).toNat = 0 := by omega
      rw [hm, dbl]
      simp only [gt_iff_lt]
      split <;> rfl
theorem sFull (a0 a1 a2 a3 a4 a5 a6 a7 a8 a9 a10 a11 a12 a13 : Int) (n : Int) (hn : n ≤ 9223372036854775807) (k : Nat) (hk : 30 ≤ k) : spec_FullWait.f k a0 a1 a2 a3 a4 a5 a6 a7 a8 a9 a10 a11 a12 a13 n = some (fullWait a0 a1 a2 a3 a4 a5 a6 a7 a8 a9 a10 a11 a12 a13 n) := by
  obtain ⟨k, rfl⟩ : ∃ m, k = m + 2 := ⟨k - 2, by omega⟩
  unfold spec_FullWait.f fullWait
  rw [sConfigOk, Option.bind_some]
  simp only [spec_FullWait.j0]
  by_cases h : configOk a0 a1 a2 a3 a4 a5 a6 a7 a8 a9 a10 a11 a12 a13 = true
  · obtain ⟨h7, h78, h8, _, _⟩ := cfg_bounds a0 a1 a2 a3 a4 a5 a6 a7 a8 a9 a10 a11 a12 a13 h
    rw [if_pos h, if_pos h, fullW]
    by_cases h1 : n < 0
    · simp [h1]
    · by_cases h2 : n = 0
      · simp [h2]
      · simp only [h1, h2, decide_false, Bool.false_eq_true, if_false]
        rw [sFull_l0 a0 a1 a2 a3 a4 a5 a6 a7 a8 a9 a10 a11 a12 a13 h8 n hn 20 (k + 1) a7 1 (by omega) (by omega) h7 (by omega) (by omega) (by omega)]
  · rw [if_neg h, if_neg h]; simp
theorem sFull_ev (a0 a1 a2 a3 a4 a5 a6 a7 a8 a9 a10 a11 a12 a13 : Int) (n : Int) (hn : n ≤ 9223372036854775807) : Ev (fun k => spec_FullWait.f k a0 a1 a2 a3 a4 a5 a6 a7 a8 a9 a10 a11 a12 a13 n) (fullWait a0 a1 a2 a3 a4 a5 a6 a7 a8 a9 a10 a11 a12 a13 n) := ⟨30, fun k hk => sFull a0 a1 a2 a3 a4 a5 a6 a7 a8 a9 a10 a11 a12 a13 n hn k hk⟩

theorem sWaitSum_l0 (a0 a1 a2 a3 a4 a5 a6 a7 a8 a9 a10 a11 a12 a13 : Int) (h : configOk a0 a1 a2 a3 a4 a5 a6 a7 a8 a9 a10 a11 a12 a13 = true) (n : Int) : ∀ (d : Nat) (s i : Int), i + d = 21 → 1 ≤ i → Ev (fun k => spec_WaitSum.l0 k n s i a0 a1 a2 a3 a4 a5 a6 a7 a8 a9 a10 a11 a12 a13) (wsum a7 a8 n d s i) := by
  obtain ⟨h7, h78, h8, _, _⟩ := cfg_bounds a0 a1 a2 a3 a4 a5 a6 a7 a8 a9 a10 a11 a12 a13 h
  intro d
  induction d with
  | zero =>
    intro s i hi h1
    obtain rfl : i = 21 := by omega
    refine Ev.step (fun k => by rw [spec_WaitSum.l0]) ?_
    rw [wsum]
    by_cases h2 : 21 ≤ n
    · rw [if_pos h2]
      refine Ev.pos h2 ?_
      refine Ev.bind' _ (sFull_ev a0 a1 a2 a3 a4 a5 a6 a7 a8 a9 a10 a11 a12 a13 21 (by omega)) ?_
      refine Ev.pos (by unfold fullWait; rw [if_pos h, full_21 a7 a8 h7 h8]) ?_
      unfold capTick
      exact Ev.ite (fun _ => Ev.now _) (fun _ => Ev.now _)
    · rw [if_neg h2]
      refine Ev.neg h2 ?_
      unfold capTick
      exact Ev.ite (fun _ => Ev.now _) (fun _ => Ev.now _)
  | succ d ih =>
    intro s i hi h1
    refine Ev.step (fun k => by rw [spec_WaitSum.l0]) ?_
    rw [wsum]
    have e : fullWait a0 a1 a2 a3 a4 a5 a6 a7 a8 a9 a10 a11 a12 a13 i = fullW a7 a8 i := if_pos h
    by_cases h2 : i ≤ n
    · rw [if_pos h2]
      refine Ev.pos h2 ?_
      refine Ev.bind' _ (sFull_ev a0 a1 a2 a3 a4 a5 a6 a7 a8 a9 a10 a11 a12 a13 i (by omega)) ?_
      rw [e]
      by_cases h4 : fullW a7 a8 i = a8
      · rw [if_pos h4]
        refine Ev.pos h4 ?_
        unfold capTick
        exact Ev.ite (fun _ => Ev.now _) (fun _ => Ev.now _)
      · rw [if_neg h4, w64 (n := i + 1) (by omega) (by omega)]
        exact Ev.neg h4 (ih _ _ (by omega) (by omega))
    · rw [if_neg h2]
      refine Ev.neg h2 ?_
      unfold capTick
      exact Ev.ite (fun _ => Ev.now _) (fun _ => Ev.now _)
theorem sWaitSum_ev (a0 a1 a2 a3 a4 a5 a6 a7 a8 a9 a10 a11 a12 a13 : Int) (n : Int) : Ev (fun k => spec_WaitSum.f k a0 a1 a2 a3 a4 a5 a6 a7 a8 a9 a10 a11 a12 a13 n) (waitSum a0 a1 a2 a3 a4 a5 a6 a7 a8 a9 a10 a11 a12 a13 n) := by
  unfold spec_WaitSum.f waitSum
  refine Ev.bind' _ (sConfigOk_ev a0 a1 a2 a3 a4 a5 a6 a7 a8 a9 a10 a11 a12 a13) ?_
  by_cases h : configOk a0 a1 a2 a3 a4 a5 a6 a7 a8 a9 a10 a11 a12 a13 = true
  · refine Ev.pos h ?_
    by_cases h1 : n < 0
    · rw [if_neg (fun e => by omega)]
      exact Ev.pos h1 (Ev.step (fun k => by rw [spec_WaitSum.j0]) (Ev.pos rfl (Ev.now _)))
    · refine Ev.neg h1 (Ev.step (fun k => by rw [spec_WaitSum.j0]) ?_)
      by_cases h2 : n > 1000000000
      · rw [if_neg (fun e => by omega)]
        exact Ev.pos (by simpa using h2) (Ev.now _)
      · rw [if_pos ⟨h, by omega, by omega⟩]
        exact Ev.neg (by simpa using h2) (sWaitSum_l0 a0 a1 a2 a3 a4 a5 a6 a7 a8 a9 a10 a11 a12 a13 h n 20 0 1 (by omega) (by omega))
  · rw [if_neg (fun e => h e.1)]
    exact Ev.neg h (Ev.step (fun k => by rw [spec_WaitSum.j0]) (Ev.pos rfl (Ev.now _)))

theorem iIn (a b c : Int) : impl_in.f a b c = some (decide (b ≤ a ∧ a ≤ c)) := by
  unfold impl_in.f; by_cases h : b ≤ a <;> simp [h]

theorem iTick (a : Int) : impl_TickOk.f a = some (decide (0 ≤ a ∧ a ≤ 1000000000)) := by unfold impl_TickOk.f; rw [iIn]; rfl

theorem iConfigOk_j1 (k : Nat) (x5 : Bool) (a0 a1 a2 a3 a4 a5 a6 a7 a8 a9 a10 a11 a12 a13 : Int) : impl_ConfigOk.j1 (k + 1) x5 a0 a1 a2 a3 a4 a5 a6 a7 a8 a9 a10 a11 a12 a13 = some (x5 && decide ((1 ≤ a8 ∧ a8 ≤ 1000000) ∧ (1 ≤ a7 ∧ a7 ≤ a8) ∧ (0 ≤ a9 ∧ a9 ≤ 100) ∧ (1 ≤ a10 ∧ a10 ≤ 1000000) ∧ (1 ≤ a11 ∧ a11 ≤ 20) ∧ (1 ≤ a12 ∧ a12 ≤ 1000000))) := by
  simp only [impl_ConfigOk.j1, iIn, Option.bind_some]
  by_cases g2 : 1 ≤ a7 ∧ a7 ≤ a8
  case neg => cases x5 <;> simp [g2]
  by_cases g1 : a8 ≤ 1000000
  case neg => cases x5 <;> simp [g1, g2]
  have g0 : 1 ≤ a8 := by omega
  cases x5
  case false => simp [g1, g2]
  by_cases g3 : 0 ≤ a9 ∧ a9 ≤ 100
  case neg => simp [g0, g1, g2, g3]
  by_cases g4 : 1 ≤ a10 ∧ a10 ≤ 1000000
  case neg => simp [g0, g1, g2, g3, g4]
  by_cases g5 : 1 ≤ a12 ∧ a12 ≤ 1000000
  case neg => simp [g0, g1, g2, g3, g4, g5]
  simp [g0, g1, g2, g3, g4, g5]
theorem iConfigOk (k : Nat) (a0 a1 a2 a3 a4 a5 a6 a7 a8 a9 a10 a11 a12 a13 : Int) : impl_ConfigOk.f (k + 8) a0 a1 a2 a3 a4 a5 a6 a7 a8 a9 a10 a11 a12 a13 = some (configOk a0 a1 a2 a3 a4 a5 a6 a7 a8 a9 a10 a11 a12 a13) := by
  unfold impl_ConfigOk.f configOk
  simp only [Option.bind_some, List.length_cons, List.length_nil]
  by_cases h3 : 0 ≤ a2 ∧ a2 ≤ 1000000000
  case neg => simp [impl_ConfigOk.l0, iTick, rd, h3]
  by_cases h5 : 0 ≤ a3 ∧ a3 ≤ 1000000000
  case neg => simp [impl_ConfigOk.l0, iTick, rd, h3, h5, wrap64]
  by_cases h6 : 0 ≤ a4 ∧ a4 ≤ 1000000000
  case neg => simp [impl_ConfigOk.l0, iTick, rd, h3, h5, h6, wrap64]
  by_cases h7 : 0 ≤ a5 ∧ a5 ≤ 1000000000
  case neg => simp [impl_ConfigOk.l0, iTick, rd, h3, h5, h6, h7, wrap64]
  by_cases h8 : 0 ≤ a6 ∧ a6 ≤ 1000000000
  case neg => simp [impl_ConfigOk.l0, iTick, rd, h3, h5, h6, h7, h8, wrap64]
  by_cases h9 : 0 ≤ a13 ∧ a13 ≤ 1000000000
  case neg => simp [impl_ConfigOk.l0, iTick, rd, h3, h5, h6, h7, h8, h9, wrap64]
  by_cases h1 : 1 ≤ a1 ∧ a1 ≤ 12
  case neg => simp [impl_ConfigOk.l0, iTick, iIn, rd, h3, h5, h6, h7, h8, h9, h1, wrap64, iConfigOk_j1]
  by_cases h2 : 0 ≤ a0 ∧ a0 ≤ a1
  case neg => simp [impl_ConfigOk.l0, iTick, iIn, rd, h3, h5, h6, h7, h8, h9, h1, h2, wrap64, iConfigOk_j1]
  by_cases h4 : a2 = 0
  case pos => subst h4; simp [impl_ConfigOk.l0, iTick, iIn, rd, h5, h6, h7, h8, h9, h1, h2, wrap64, iConfigOk_j1]
  have h4' : 1 ≤ a2 := by omega
  by_cases h10 : a13 = 0
  case pos => subst h10; simp [impl_ConfigOk.l0, iTick, iIn, rd, h3, h5, h6, h7, h8, h1, h2, h4', wrap64, iConfigOk_j1]
  have h10' : 1 ≤ a13 := by omega
  simp [impl_ConfigOk.l0, iTick, iIn, rd, h3, h4, h5, h6, h7, h8, h9, h1, h2, h4', h10, h10', wrap64, iConfigOk_j1]
theorem iConfigOk_ev (a0 a1 a2 a3 a4 a5 a6 a7 a8 a9 a10 a11 a12 a13 : Int) : Ev (fun k => impl_ConfigOk.f k a0 a1 a2 a3 a4 a5 a6 a7 a8 a9 a10 a11 a12 a13) (configOk a0 a1 a2 a3 a4 a5 a6 a7 a8 a9 a10 a11 a12 a13) := ⟨8, fun k hk => by obtain ⟨m, rfl⟩ : ∃ m, k = m + 8 := ⟨k - 8, by omega⟩; exact iConfigOk m a0 a1 a2 a3 a4 a5 a6 a7 a8 a9 a10 a11 a12 a13⟩

theorem iFull_l0 (a0 a1 a2 a3 a4 a5 a6 a7 a8 a9 a10 a11 a12 a13 : Int) (h8 : a8 ≤ 1000000) (n : Int) (hn : n ≤ 9223372036854775807) : ∀ (d k : Nat) (w i : Int), 1 ≤ i → i ≤ n → 1 ≤ w → w ≤ 2000000 → a8 ≤ w * 2 ^ d → d < k → impl_FullWait.l0 k n w i a0 a1 a2 a3 a4 a5 a6 a7 a8 a9 a10 a11 a12 a13 = some (if a8 < dbl a8 (n - i).toNat w then a8 else dbl a8 (n - i).toNat w) := by
  intro d
  induction d with
  | zero =>
    intro k w i hi hin hw hw2 hd hk
    obtain ⟨k, rfl⟩ : ∃ m, k = m + 1 := ⟨k - 1, by omega⟩
    have hc : ¬ w < a8 := by simp at hd; omega
    simp only [impl_FullWait.l0]
    rw [dbl_done _ _ _ hc, if_neg hc]
    simp only [ite_self, mn]
  | succ d ih =>
    intro k w i hi hin hw hw2 hd hk
    obtain ⟨k, rfl⟩ : ∃ m, k = m + 1 := ⟨k - 1, by omega⟩
    simp only [impl_FullWait.l0]
    by_cases h1 : i < n
    · by_cases h2 : w < a8
      · rw [if_pos h1, if_pos h2, Int.mul_comm w 2, w64 (by omega) (by omega), w64 (by omega) (by omega), ih k (2 * w) (i + 1) (by omega) (by omega) (by omega) (by omega) (by rw [Int.mul_comm 2 w, Int.mul_assoc, Int.mul_comm 2, ← Int.pow_succ]; exact hd) (by omega)]
        obtain ⟨m, hm⟩ : ∃ m : Nat, (n - i).toNat = m + 1 := ⟨(n - i).toNat - 1, by omega⟩
        have hm2 : (n - (i + 1)).toNat = m := by omega
        rw [hm, hm2, dbl, if_pos h2]
      · rw [if_pos h1, if_neg h2, dbl_done _ _ _ h2, mn]
    · rw [if_neg h1]
      have hm : (n - i).toNat = 0 := by omega
      rw [hm, dbl, mn]
theorem iFull (a0 a1 a2 a3 a4 a5 a6 a7 a8 a9 a10 a11 a12 a13 : Int) (n : Int) (hn : n ≤ 9223372036854775807) (k : Nat) (hk : 30 ≤ k) : impl_FullWait.f k a0 a1 a2 a3 a4 a5 a6 a7 a8 a9 a10 a11 a12 a13 n = some (fullWait a0 a1 a2 a3 a4 a5 a6 a7 a8 a9 a10 a11 a12 a13 n) := by
  obtain ⟨k, rfl⟩ : ∃ m, k = m + 8 := ⟨k - 8, by omega⟩
  unfold impl_FullWait.f fullWait
  rw [iConfigOk, Option.bind_some]
  simp only [impl_FullWait.j0]
  by_cases h : configOk a0 a1 a2 a3 a4 a5 a6 a7 a8 a9 a10 a11 a12 a13 = true
  · obtain ⟨h7, h78, h8, _, _⟩ := cfg_bounds a0 a1 a2 a3 a4 a5 a6 a7 a8 a9 a10 a11 a12 a13 h
    rw [if_pos h, if_pos h, fullW]
    by_cases h1 : n < 0
    · simp [h1]
    · by_cases h2 : n = 0
      · simp [h2]
      · simp only [h1, h2, decide_false, Bool.false_eq_true, if_false]
        rw [iFull_l0 a0 a1 a2 a3 a4 a5 a6 a7 a8 a9 a10 a11 a12 a13 h8 n hn 20 (k + 7) a7 1 (by omega) (by omega) h7 (by omega) (by omega) (by omega)]
  · rw [if_neg h, if_neg h]; simp
theorem iFull_ev (a0 a1 a2 a3 a4 a5 a6 a7 a8 a9 a10 a11 a12 a13 : Int) (n : Int) (hn : n ≤ 9223372036854775807) : Ev (fun k => impl_FullWait.f k a0 a1 a2 a3 a4 a5 a6 a7 a8 a9 a10 a11 a12 a13 n) (fullWait a0 a1 a2 a3 a4 a5 a6 a7 a8 a9 a10 a11 a12 a13 n) := ⟨30, fun k hk => iFull a0 a1 a2 a3 a4 a5 a6 a7 a8 a9 a10 a11 a12 a13 n hn k hk⟩

theorem iSteps_l0 (a0 a1 a2 a3 a4 a5 a6 a7 a8 a9 a10 a11 a12 a13 : Int) (h : configOk a0 a1 a2 a3 a4 a5 a6 a7 a8 a9 a10 a11 a12 a13 = true) : ∀ (d : Nat) (i : Int), i + d = 21 → 1 ≤ i → Ev (fun k => impl_StepsToCap.l0 k i a0 a1 a2 a3 a4 a5 a6 a7 a8 a9 a10 a11 a12 a13) (stepsFrom a7 a8 d i) := by
  obtain ⟨h7, h78, h8, _, _⟩ := cfg_bounds a0 a1 a2 a3 a4 a5 a6 a7 a8 a9 a10 a11 a12 a13 h
  intro d
  induction d with
  | zero =>
    intro i hi h1
    obtain rfl : i = 21 := by omega
    refine Ev.step (fun k => by rw [impl_StepsToCap.l0]) ?_
    refine Ev.bind' _ (iFull_ev a0 a1 a2 a3 a4 a5 a6 a7 a8 a9 a10 a11 a12 a13 21 (by omega)) ?_
    refine Ev.neg ?_ (Ev.now _)
    unfold fullWait
    rw [if_pos h, full_21 a7 a8 h7 h8]
    omega
  | succ d ih =>
    intro i hi h1
    refine Ev.step (fun k => by rw [impl_StepsToCap.l0]) ?_
    refine Ev.bind' _ (iFull_ev a0 a1 a2 a3 a4 a5 a6 a7 a8 a9 a10 a11 a12 a13 i (by omega)) ?_
    have e : fullWait a0 a1 a2 a3 a4 a5 a6 a7 a8 a9 a10 a11 a12 a13 i = fullW a7 a8 i := if_pos h
    rw [e, stepsFrom, w64 (by omega) (by omega)]
    by_cases h2 : fullW a7 a8 i < a8
    · rw [if_pos h2]; exact Ev.pos h2 (ih (i + 1) (by omega) (by omega))
    · rw [if_neg h2]; exact Ev.neg h2 (Ev.now _)
theorem iSteps_ev (a0 a1 a2 a3 a4 a5 a6 a7 a8 a9 a10 a11 a12 a13 : Int) : Ev (fun k => impl_StepsToCap.f k a0 a1 a2 a3 a4 a5 a6 a7 a8 a9 a10 a11 a12 a13) (steps a0 a1 a2 a3 a4 a5 a6 a7 a8 a9 a10 a11 a12 a13) := by
  unfold impl_StepsToCap.f steps
  refine Ev.bind' _ (iConfigOk_ev a0 a1 a2 a3 a4 a5 a6 a7 a8 a9 a10 a11 a12 a13) ?_
  by_cases h : configOk a0 a1 a2 a3 a4 a5 a6 a7 a8 a9 a10 a11 a12 a13 = true
  · rw [if_pos h]; exact Ev.pos h (iSteps_l0 a0 a1 a2 a3 a4 a5 a6 a7 a8 a9 a10 a11 a12 a13 h 20 1 (by omega) (by omega))
  · rw [if_neg h]; exact Ev.neg h (Ev.now _)

theorem iWaitSum_l0 (a0 a1 a2 a3 a4 a5 a6 a7 a8 a9 a10 a11 a12 a13 : Int) (h : configOk a0 a1 a2 a3 a4 a5 a6 a7 a8 a9 a10 a11 a12 a13 = true) (n : Int) : ∀ (d : Nat) (s i : Int), i + d = 21 → 1 ≤ i → Ev (fun k => impl_WaitSum.l0 k n s (stepsFrom a7 a8 d i) i a0 a1 a2 a3 a4 a5 a6 a7 a8 a9 a10 a11 a12 a13) (wsum a7 a8 n d s i) := by
  obtain ⟨h7, h78, h8, _, _⟩ := cfg_bounds a0 a1 a2 a3 a4 a5 a6 a7 a8 a9 a10 a11 a12 a13 h
  intro d
  induction d with
  | zero =>
    intro s i hi h1
    obtain rfl : i = 21 := by omega
    refine Ev.step (fun k => by rw [impl_WaitSum.l0]) ?_
    rw [wsum, stepsFrom]
    exact Ev.ite (fun h2 => Ev.neg (by omega) (Ev.pos (by omega) (Ev.now _))) (fun h2 => Ev.neg (by omega) (Ev.now _))
  | succ d ih =>
    intro s i hi h1
    refine Ev.step (fun k => by rw [impl_WaitSum.l0]) ?_
    rw [wsum]
    have e : fullWait a0 a1 a2 a3 a4 a5 a6 a7 a8 a9 a10 a11 a12 a13 i = fullW a7 a8 i := if_pos h
    have hle := full_le a7 a8 i h1
    have hge := steps_ge a7 a8 (d + 1) i
    by_cases h2 : i ≤ n
    · rw [if_pos h2]
      refine Ev.pos h2 ?_
      by_cases h4 : fullW a7 a8 i = a8
      · have hs : stepsFrom a7 a8 (d + 1) i = i := by rw [stepsFrom, if_neg (by omega)]
        rw [if_pos h4, hs]
        exact Ev.neg (by omega) (Ev.pos (by omega) (Ev.now _))
      · have hs : stepsFrom a7 a8 (d + 1) i = stepsFrom a7 a8 d (i + 1) := by rw [stepsFrom, if_pos (by omega)]
        have hg2 := steps_ge a7 a8 d (i + 1)
        rw [if_neg h4, hs, w64 (n := i + 1) (by omega) (by omega)]
        refine Ev.pos (by omega) ?_
        refine Ev.bind' _ (iFull_ev a0 a1 a2 a3 a4 a5 a6 a7 a8 a9 a10 a11 a12 a13 i (by omega)) ?_
        rw [e]
        exact ih _ _ (by omega) (by omega)
    · rw [if_neg h2]
      exact Ev.neg h2 (Ev.neg (by omega) (Ev.now _))
theorem iWaitSum_ev (a0 a1 a2 a3 a4 a5 a6 a7 a8 a9 a10 a11 a12 a13 : Int) (n : Int) : Ev (fun k => impl_WaitSum.f k a0 a1 a2 a3 a4 a5 a6 a7 a8 a9 a10 a11 a12 a13 n) (waitSum a0 a1 a2 a3 a4 a5 a6 a7 a8 a9 a10 a11 a12 a13 n) := by
  unfold impl_WaitSum.f waitSum
  refine Ev.bind' _ (iConfigOk_ev a0 a1 a2 a3 a4 a5 a6 a7 a8 a9 a10 a11 a12 a13) ?_
  by_cases h : configOk a0 a1 a2 a3 a4 a5 a6 a7 a8 a9 a10 a11 a12 a13 = true
  · refine Ev.pos h ?_
    refine Ev.bind' _ (Ev.is fun _ => iTick n) ?_
    refine Ev.step (fun k => by rw [impl_WaitSum.j0]) ?_
    by_cases h2 : 0 ≤ n ∧ n ≤ 1000000000
    · rw [if_pos ⟨h, h2⟩]
      refine Ev.neg (by simp [h2]) ?_
      refine Ev.bind' _ (iSteps_ev a0 a1 a2 a3 a4 a5 a6 a7 a8 a9 a10 a11 a12 a13) ?_
      have e : steps a0 a1 a2 a3 a4 a5 a6 a7 a8 a9 a10 a11 a12 a13 = stepsFrom a7 a8 20 1 := if_pos h
      rw [e]
      exact iWaitSum_l0 a0 a1 a2 a3 a4 a5 a6 a7 a8 a9 a10 a11 a12 a13 h n 20 0 1 (by omega) (by omega)
    · rw [if_neg (fun e => h2 e.2)]
      exact Ev.pos (by simp [h2]) (Ev.now _)
  · rw [if_neg (fun e => h e.1)]
    exact Ev.neg h (Ev.step (fun k => by rw [impl_WaitSum.j0]) (Ev.pos rfl (Ev.now _)))

theorem FnExactWaitSum : ∀ (a0 a1 a2 a3 a4 a5 a6 a7 a8 a9 a10 a11 a12 a13 : Int) (n : Int), (Lit.int .i64 a0).wf = true → (Lit.int .i64 a1).wf = true → (Lit.int .i64 a2).wf = true → (Lit.int .i64 a3).wf = true → (Lit.int .i64 a4).wf = true → (Lit.int .i64 a5).wf = true → (Lit.int .i64 a6).wf = true → (Lit.int .i64 a7).wf = true → (Lit.int .i64 a8).wf = true → (Lit.int .i64 a9).wf = true → (Lit.int .i64 a10).wf = true → (Lit.int .i64 a11).wf = true → (Lit.int .i64 a12).wf = true → (Lit.int .i64 a13).wf = true →  (Lit.int .i64 n).wf = true → ∃ k, laws_FnExactWaitSum.f k a0 a1 a2 a3 a4 a5 a6 a7 a8 a9 a10 a11 a12 a13 n = some true := by
  intro a0 a1 a2 a3 a4 a5 a6 a7 a8 a9 a10 a11 a12 a13 n _ _ _ _ _ _ _ _ _ _ _ _ _ _ _
  refine Ev.rounds (r := true) ?_
  unfold laws_FnExactWaitSum.f laws_toConfig.f
  refine Ev.some' ?_
  refine Ev.bind' _ (sWaitSum_ev a0 a1 a2 a3 a4 a5 a6 a7 a8 a9 a10 a11 a12 a13 n) ?_
  refine Ev.some' ?_
  refine Ev.bind' _ (iWaitSum_ev a0 a1 a2 a3 a4 a5 a6 a7 a8 a9 a10 a11 a12 a13 n) ?_
  exact Ev.pos rfl (Ev.now _)

end Go.Proofs.Ytdeilfcoikmafaa.Pure
