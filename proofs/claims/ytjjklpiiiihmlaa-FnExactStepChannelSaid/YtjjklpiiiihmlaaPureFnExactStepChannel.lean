/-
For every two whole numbers the program's StepChannel and the reference's StepChannel answer alike (the printed law answers true). The numbers are any 64-bit numbers.
-/
import Derived.Test.YtjjklpiiiihmlaaPFnExactStepChannelx1
namespace Go.Proofs.Ytjjklpiiiihmlaa.Pure
open Go.RowKit Go.Proofs.Ytjjklpiiiihmlaa.PFnExactStepChannel Go.Proofs.YtjjklpiiiihmlaaW.PrintWords Go.Proofs.YtjjklpiiiihmlaaW.PrintLast Go.Proofs.YtjjklpiiiihmlaaW.PrintMore 
set_option linter.unusedVariables false
set_option linter.unusedSimpArgs false

theorem w64 {n : Int} (h0 : -9223372036854775808 ≤ n) (h1 : n ≤ 9223372036854775807) : wrap64 n = n := by unfold wrap64; omega
theorem wsucc (i : Nat) (h : i < 9223372036854775807) : wrap64 ((i : Int) + 1) = ((i + 1 : Nat) : Int) := by rw [w64 (by omega) (by omega)]; omega
theorem rd_nat (xs : List Int) (i : Nat) (h : i < xs.length) : rd xs (i : Int) = xs[i] := by simp [rd, h]
theorem rdOf_nat {α : Type} (d : α) (xs : List α) (i : Nat) (h : i < xs.length) : rdOf d xs (i : Int) = xs[i] := by simp [rdOf, h]
theorem Ev.pos {α : Type} {c : Prop} [Decidable c] {A B : Nat → Option α} {r : α} (h : c) (e : Ev A r) : Ev (fun k => if c then A k else B k) r := Ev.congr (fun _ => if_pos h) e
theorem Ev.neg {α : Type} {c : Prop} [Decidable c] {A B : Nat → Option α} {r : α} (h : ¬ c) (e : Ev B r) : Ev (fun k => if c then A k else B k) r := Ev.congr (fun _ => if_neg h) e
theorem Ev.bind' {α β : Type} {g : Nat → Option α} {f : Nat → α → Option β} {r : β} (a : α) (h : Ev g a) (k : Ev (fun n => f n a) r) : Ev (fun n => (g n).bind (f n)) r := Ev.bind h k
theorem Ev.some' {α β : Type} {a : α} {f : Nat → α → Option β} {r : β} (k : Ev (fun n => f n a) r) : Ev (fun n => (Option.some a).bind (f n)) r := Ev.bind (Ev.now a) k
theorem Ev.is {α : Type} {g : Nat → Option α} {r : α} (h : ∀ k, g k = some r) : Ev g r := ⟨0, fun k _ => h k⟩
theorem Ev.at1 {α : Type} {g : Nat → Option α} {r : α} (h : ∀ k, g (k + 1) = some r) : Ev g r := ⟨1, fun k hk => by obtain ⟨m, rfl⟩ : ∃ m, k = m + 1 := ⟨k - 1, by omega⟩; exact h m⟩
theorem Ev.at2 {α : Type} {g : Nat → Option α} {r : α} (h : ∀ k, g (k + 2) = some r) : Ev g r := ⟨2, fun k hk => by obtain ⟨m, rfl⟩ : ∃ m, k = m + 2 := ⟨k - 2, by omega⟩; exact h m⟩
theorem Ev.at3 {α : Type} {g : Nat → Option α} {r : α} (h : ∀ k, g (k + 3) = some r) : Ev g r := ⟨3, fun k hk => by obtain ⟨m, rfl⟩ : ∃ m, k = m + 3 := ⟨k - 3, by omega⟩; exact h m⟩
/-- What a loop over a list comes to: a state, a step that goes on or answers, an end. -/
def runE {α σ ρ : Type} (step : Nat → σ → α → Except ρ σ) (fin : σ → ρ) : Nat → List α → σ → ρ
  | _, [], s => fin s
  | i, x :: xs, s => match step i s x with
    | .error r => r
    | .ok s' => runE step fin (i + 1) xs s'
/-- A loop over a list, round by round (from K rounds on). -/
theorem loop_run {α σ ρ : Type} (xs : List α) (L : Nat → σ → Int → Option ρ) (step : Nat → σ → α → Except ρ σ) (fin : σ → ρ) (K : Nat)
    (hs : ∀ k, K ≤ k → ∀ s (i : Nat) (h : i < xs.length), L (k + 1) s i = match step i s xs[i] with | .error r => some r | .ok s' => L k s' ((i + 1 : Nat) : Int))
    (he : ∀ k s, L (k + 1) s (xs.length : Int) = some (fin s)) :
    ∀ (d k : Nat) (s : σ) (i : Nat), i ≤ xs.length → xs.length - i = d → d + K < k → L k s (i : Int) = some (runE step fin i (xs.drop i) s) := by
  intro d
  induction d with
  | zero =>
    intro k s i hi hd hk
    obtain ⟨k, rfl⟩ : ∃ m, k = m + 1 := ⟨k - 1, by omega⟩
    obtain rfl : i = xs.length := by omega
    rw [he, List.drop_length, runE]
  | succ d ih =>
    intro k s i hi hd hk
    obtain ⟨k, rfl⟩ : ∃ m, k = m + 1 := ⟨k - 1, by omega⟩
    have hlt : i < xs.length := by omega
    rw [hs k (by omega) s i hlt, List.drop_eq_getElem_cons hlt, runE]
    cases step i s xs[i] with
    | error r => rfl
    | ok s' => exact ih k s' (i + 1) (by omega) (by omega) (by omega)
/-- The same, from the start. -/
theorem loop_ev {α σ ρ : Type} (xs : List α) (L : Nat → σ → Int → Option ρ) (step : Nat → σ → α → Except ρ σ) (fin : σ → ρ) (K : Nat)
    (hs : ∀ k, K ≤ k → ∀ s (i : Nat) (h : i < xs.length), L (k + 1) s i = match step i s xs[i] with | .error r => some r | .ok s' => L k s' ((i + 1 : Nat) : Int))
    (he : ∀ k s, L (k + 1) s (xs.length : Int) = some (fin s)) (s : σ) : Ev (fun k => L k s 0) (runE step fin 0 xs s) :=
  ⟨xs.length + K + 1, fun k hk => by have := loop_run xs L step fin K hs he xs.length k s 0 (by omega) (by omega) (by omega); simpa using this⟩
theorem wf_b {n : Int} (h : (Lit.int .i64 n).wf = true) : -9223372036854775808 ≤ n ∧ n ≤ 9223372036854775807 := by
  simp [Lit.wf, IntKind.min, IntKind.max, IntKind.signed, IntKind.bits] at h
  omega
theorem Ev.ite {α : Type} {c : Prop} [Decidable c] {A B : Nat → Option α} {a b : α} (h1 : c → Ev A a) (h2 : ¬ c → Ev B b) : Ev (fun k => if c then A k else B k) (if c then a else b) := by
  by_cases h : c
  · rw [if_pos h]; exact Ev.pos h (h1 h)
  · rw [if_neg h]; exact Ev.neg h (h2 h)

theorem sIn (a b c : Int) : spec_l01In.f a b c = some (decide (b ≤ a ∧ a ≤ c)) := by
  unfold spec_l01In.f; by_cases h : b ≤ a <;> simp [h]

/-- The first place of a number in a list, counted from i; -1 if it is none of it. -/
def idx (v : Int) : Nat → List Int → Int
  | _, [] => -1
  | i, x :: xs => if v = x then (i : Int) else idx v (i + 1) xs
theorem idx_run (xs : List Int) (v : Int) (hl : xs.length ≤ 4611686018427387904) : ∀ (d k i : Nat), i ≤ xs.length → xs.length - i = d → d < k → slices_Index_int_int.l0 k xs v (xs.length : Int) (i : Int) = some (idx v i (xs.drop i)) := by
  intro d
  induction d with
  | zero =>
    intro k i hi hd hk
    obtain ⟨k, rfl⟩ : ∃ m, k = m + 1 := ⟨k - 1, by omega⟩
    obtain rfl : i = xs.length := by omega
    simp only [slices_Index_int_int.l0]
    rw [if_neg (by omega), List.drop_length, idx]
  | succ d ih =>
    intro k i hi hd hk
    obtain ⟨k, rfl⟩ : ∃ m, k = m + 1 := ⟨k - 1, by omega⟩
    simp only [slices_Index_int_int.l0]
    rw [if_pos (by omega), if_pos (by omega), if_pos (by omega), rd_nat xs i (by omega), wsucc i (by omega), List.drop_eq_getElem_cons (by omega), idx, ih k (i + 1) (by omega) (by omega) (by omega)]
    split <;> rfl
theorem index_run (xs : List Int) (v : Int) (hl : xs.length ≤ 4611686018427387904) (k : Nat) (hk : xs.length < k) : slices_Index_int_int.f k xs v = some (idx v 0 xs) := by
  have := idx_run xs v hl xs.length k 0 (by omega) (by omega) hk
  unfold slices_Index_int_int.f
  simpa using this
theorem index_ev (xs : List Int) (v : Int) (hl : xs.length ≤ 4611686018427387904) : Ev (fun k => slices_Index_int_int.f k xs v) (idx v 0 xs) :=
  ⟨xs.length + 1, fun k hk => index_run xs v hl k hk⟩
theorem idx_nonneg (v : Int) : ∀ (xs : List Int) (i : Nat), 0 ≤ idx v i xs ↔ v ∈ xs
  | [], i => by simp [idx]
  | x :: xs, i => by
    rw [idx, List.mem_cons]
    by_cases h : v = x
    · simp [h]
    · rw [if_neg h, idx_nonneg v xs (i + 1)]; simp [h]

theorem contains_run (xs : List Int) (v : Int) (hl : xs.length ≤ 4611686018427387904) (k : Nat) (hk : xs.length < k) : slices_Contains_int_int.f k xs v = some (decide (v ∈ xs)) := by
  unfold slices_Contains_int_int.f
  rw [index_run xs v hl k hk, Option.bind_some]
  congr 1
  exact decide_eq_decide.2 (idx_nonneg v xs 0)
theorem contains_ev (xs : List Int) (v : Int) (hl : xs.length ≤ 4611686018427387904) : Ev (fun k => slices_Contains_int_int.f k xs v) (decide (v ∈ xs)) :=
  ⟨xs.length + 1, fun k hk => contains_run xs v hl k hk⟩

def goes (s e : Int) : Int := if e = 0 then (if s = 0 then 1 else s) else if e = 1 then (if s = 1 then 2 else if s = 3 then 2 else s) else if e = 2 then (if s = 1 then 3 else s) else if e = 3 then (if s = 3 then 1 else s) else if e = 4 then (if s = 2 then 0 else s) else if e = 5 then (if 1 ≤ s ∧ s ≤ 3 then 0 else s) else if e = 6 then 4 else s
def stepC (s e : Int) : Int × Bool := if (0 ≤ s ∧ s ≤ 4) ∧ (0 ≤ e ∧ e ≤ 6) then (goes s e, goes s e != s) else (s, false)
theorem sGoes (s e : Int) : spec_l07Goes.f s e = some (goes s e) := by
  unfold spec_l07Goes.f goes
  rw [sIn]
  simp only [Option.bind_some, decide_eq_true_eq]
  repeat' split
  all_goals rfl
theorem sStepC (s e : Int) : spec_StepChannel.f s e = some (stepC s e) := by
  unfold spec_StepChannel.f stepC
  rw [sIn, sIn, sGoes]
  simp only [Option.bind_some, decide_eq_true_eq]
  by_cases h1 : 0 ≤ s ∧ s ≤ 4
  · by_cases h2 : 0 ≤ e ∧ e ≤ 6
    · simp [h1, h2]
    · simp [h1, h2]
  · simp [h1]
/-- The program's table: the state that an event leads to, and from which states. -/
def tableC (e : Int) : Int × List Int := if e = 0 then (1, [0]) else if e = 1 then (2, [1, 3]) else if e = 2 then (3, [1]) else if e = 3 then (1, [3]) else if e = 4 then (0, [2]) else if e = 5 then (0, [2, 1, 3]) else if e = 6 then (4, [0, 1, 2, 3]) else (0, [])
theorem tableC_len (e : Int) : (tableC e).2.length ≤ 4 := by
  unfold tableC
  repeat' split
  all_goals simp
theorem iTableC (e : Int) : impl_stepChan.f e = some (tableC e) := by
  unfold impl_stepChan.f tableC
  repeat' split
  all_goals rfl
theorem table_step (s e : Int) : (if s ∈ (tableC e).2 then ((tableC e).1, true) else (s, false)) = stepC s e := by
  by_cases h0 : e = 0
  · subst h0; by_cases h : s = 0 <;> simp [tableC, stepC, goes, h]
  by_cases h1 : e = 1
  · subst h1; by_cases h : s = 1 <;> by_cases h' : s = 3 <;> simp [tableC, stepC, goes, h, h']
  by_cases h2 : e = 2
  · subst h2; by_cases h : s = 1 <;> simp [tableC, stepC, goes, h]
  by_cases h3 : e = 3
  · subst h3; by_cases h : s = 3 <;> simp [tableC, stepC, goes, h]
  by_cases h4 : e = 4
  · subst h4; by_cases h : s = 2 <;> simp [tableC, stepC, goes, h]
  by_cases h5 : e = 5
  · subst h5
    by_cases a : s = 2
    · subst a; rfl
    by_cases b : s = 1
    · subst b; rfl
    by_cases c : s = 3
    · subst c; rfl
    have d : ¬ (1 ≤ s ∧ s ≤ 3) := by omega
    simp [tableC, stepC, goes, a, b, c, d]
  by_cases h6 : e = 6
  · subst h6
    by_cases a : s = 0
    · subst a; rfl
    by_cases b : s = 1
    · subst b; rfl
    by_cases c : s = 2
    · subst c; rfl
    by_cases d : s = 3
    · subst d; rfl
    by_cases e : s = 4
    · subst e; rfl
    have f : ¬ (0 ≤ s ∧ s ≤ 4) := by omega
    simp [tableC, stepC, goes, a, b, c, d, f]
  have h7 : ¬ (0 ≤ e ∧ e ≤ 6) := by omega
  simp [tableC, stepC, h0, h1, h2, h3, h4, h5, h6, h7]
theorem iStepC (s e : Int) (k : Nat) (hk : 5 ≤ k) : impl_StepChannel.f k s e = some (stepC s e) := by
  unfold impl_StepChannel.f
  have hl := tableC_len e
  rw [iTableC, Option.bind_some, contains_run _ _ (by omega) k (by omega), Option.bind_some, ← table_step]
  simp only [decide_eq_true_eq]
  split <;> rfl
theorem iStepC_ev (s e : Int) : Ev (fun k => impl_StepChannel.f k s e) (stepC s e) := ⟨5, fun k hk => iStepC s e k hk⟩

theorem FnExactStepChannel : laws_FnExactStepChannel.Pure := by
  intro s e _ _
  refine Ev.rounds (r := true) ?_
  unfold laws_FnExactStepChannel.f
  refine Ev.bind' _ (Ev.is fun _ => sStepC s e) ?_
  refine Ev.bind' _ (iStepC_ev s e) ?_
  exact Ev.pos rfl (Ev.neg (by simp) (Ev.now _))

end Go.Proofs.Ytjjklpiiiihmlaa.Pure
