/-
For every three whole numbers the program's DueAt and the reference's DueAt answer alike (the printed law answers true). The numbers are any 64-bit numbers.
-/
import Derived.Test.YtpcddljnlkbepaaPFnExactDueAtx1
namespace Go.Proofs.Ytpcddljnlkbepaa.Pure
open Go.RowKit Go.Proofs.Ytpcddljnlkbepaa.PFnExactDueAt Go.Proofs.YtpcddljnlkbepaaW.PrintWords Go.Proofs.YtpcddljnlkbepaaW.PrintLast Go.Proofs.YtpcddljnlkbepaaW.PrintMore 
set_option linter.unusedVariables false
set_option linter.unusedSimpArgs false

theorem w64 {n : Int} (h0 : -9223372036854775808 ≤ n) (h1 : n ≤ 9223372036854775807) : wrap64 n = n := by unfold wrap64; omega
theorem wsucc (i : Nat) (h : i < 9223372036854775807) : wrap64 ((i : Int) + 1) = ((i + 1 : Nat) : Int) := by rw [w64 (by omega) (by omega)]; omega
theorem rd_nat (xs : List Int) (i : Nat) (h : i < xs.length) : rd xs (i : Int) = xs[i] := by simp [rd, h]
theorem rdOf_nat {α : Type} (d : α) (xs : List α) (i : Nat) (h : i < xs.length) : rdOf d xs (i : Int) = xs[i] := by simp [rdOf, h]
theorem Ev.pos {α : Type} {c : Prop} [Decidable c] {A B : Nat → Option α} {r : α} (h : c) (e : Ev A r) : Ev (fun k => if c then A k else B k) r := Ev.congr (fun _ => if_pos h) e
theorem Ev.neg {α : Type} {c : Prop} [Decidable c] {A B : Nat → Option α} {r : α} (h : ¬ c) (e : Ev B r) : Ev (fun k => if c then A k else B k) r := Ev.congr (fun _ => if_neg h) e
theorem Ev.bind' {α β : Type} {g : Nat → Option α} {f : Nat → α → Option β} {r : β} (a : α) (h : Ev g a) (k : Ev (fun n => f n a) r) : Ev (fun n => (g n).bind (f n)) r := Ev.bind h k
theorem Ev.some' {α β : Type} {a : α} {f : Nat → α → Option β} {r : β} (k : Ev (fun n => f n a) r) : Ev (fun n => (Option.some a).bind (f n)) r := Ev.bind (Ev.now a) k
theorem Ev.is {α : Type} {g : Nat → Option α} {r : α} (h : ∀ k, g k = some r) : Ev g r := ⟨0, fun k _ => h k⟩
theorem Ev.at1 {α : Type} {g : Nat → Option α} {r : α} (h : ∀ k, g (k + 1) = some r) : Ev g r := ⟨1, fun k hk => by obtain ⟨m, rfl⟩ : ∃ m, k = m + 1 := ⟨k - 1, by omega⟩; exact h m⟩
theorem Ev.at2 {α : Type} {g : Nat → Option α} {r : α} (h : ∀ k, g (k + 2) = some r) : Ev g r := ⟨2, fun k hk => by obtain ⟨m, rfl⟩ : ∃ m, k = m + 2 := ⟨k - 2, by omega⟩; exact h m⟩
theorem Ev.at3 {α : Type} {g : Nat → Option α} {r : α} (h : ∀ k, g (k + 3) = some r) : Ev g r := ⟨3, fun k hk => by obtain ⟨m, rfl⟩ : ∃ m, k = m + 3 := ⟨k - 3, by omega⟩; exact h m⟩
/-- What a loop over a list comes to: a state, a step that goes on or answers, an end. -/
def runE {α σ ρ : Type} (step : Nat → σ → α → Except ρ σ) (fin : σ → ρ) : Nat → List α → σ → ρ
  | _, [], s => fin s
  | i, x :: xs, s => match step i s x with
    | .error r => r
    | .ok s' => runE step fin (i + 1) xs s'
/-- A loop over a list, round by round (from K rounds on). -/
theorem loop_run {α σ ρ : Type} (xs : List α) (L : Nat → σ → Int → Option ρ) (step : Nat → σ → α → Except ρ σ) (fin : σ → ρ) (K : Nat)
    (hs : ∀ k, K ≤ k → ∀ s (i : Nat) (h : i < xs.length), L (k + 1) s i = match step i s xs[i] with | .error r => some r | .ok s' => L k s' ((i + 1 : Nat) : Int))
    (he : ∀ k s, L (k + 1) s (xs.length : Int) = some (fin s)) :
    ∀ (d k : Nat) (s : σ) (i : Nat), i ≤ xs.length → xs.length - i = d → d + K < k → L k s (i : Int) = some (runE step fin i (xs.drop i) s) := by
  intro d
  induction d with
  | zero =>
    intro k s i hi hd hk
    obtain ⟨k, rfl⟩ : ∃ m, k = m + 1 := ⟨k - 1, by omega⟩
    obtain rfl : i = xs.length := by omega
    rw [he, List.drop_length, runE]
  | succ d ih =>
    intro k s i hi hd hk
    obtain ⟨k, rfl⟩ : ∃ m, k = m + 1 := ⟨k - 1, by omega⟩
    have hlt : i < xs.length := by omega
    rw [hs k (by omega) s i hlt, List.drop_eq_getElem_cons hlt, runE]
    cases step i s xs[i] with
    | error r => rfl
    | ok s' => exact ih k s' (i + 1) (by omega) (by omega) (by omega)
/-- The same, from the start. -/
theorem loop_ev {α σ ρ : Type} (xs : List α) (L : Nat → σ → Int → Option ρ) (step : Nat → σ → α → Except ρ σ) (fin : σ → ρ) (K : Nat)
    (hs : ∀ k, K ≤ k → ∀ s (i : Nat) (h : i < xs.length), L (k + 1) s i = match step i s xs[i] with | .error r => some r | .ok s' => L k s' ((i + 1 : Nat) : Int))
    (he : ∀ k s, L (k + 1) s (xs.length : Int) = some (fin s)) (s : σ) : Ev (fun k => L k s 0) (runE step fin 0 xs s) :=
  ⟨xs.length + K + 1, fun k hk => by have := loop_run xs L step fin K hs he xs.length k s 0 (by omega) (by omega) (by omega); simpa using this⟩

theorem sIn (a b c : Int) : spec_l01In.f a b c = some (decide (b ≤ a ∧ a ≤ c)) := by
  unfold spec_l01In.f; by_cases h : b ≤ a <;> simp [h]
theorem sTick (a : Int) : spec_TickOk.f a = some (decide (0 ≤ a ∧ a ≤ 1000000000)) := by unfold spec_TickOk.f; rw [sIn]; rfl
theorem iIn (a b c : Int) : impl_in.f a b c = some (decide (b ≤ a ∧ a ≤ c)) := by
  unfold impl_in.f; by_cases h : b ≤ a <;> simp [h]
theorem iTick (a : Int) : impl_TickOk.f a = some (decide (0 ≤ a ∧ a ≤ 1000000000)) := by unfold impl_TickOk.f; rw [iIn]; rfl

def addTick (t d : Int) : Int := if (0 ≤ t ∧ t ≤ 1000000000) ∧ (-1000000000 ≤ d ∧ d ≤ 1000000000) then (if t + d > 1000000000 then 1000000000 else if t + d < 0 then 0 else t + d) else -1
theorem sAddTick (k : Nat) (t d : Int) : spec_AddTick.f (k + 1) t d = some (addTick t d) := by
  unfold spec_AddTick.f addTick
  simp only [sTick, sIn, Option.bind_some, spec_AddTick.j0]
  by_cases h1 : 0 ≤ t ∧ t ≤ 1000000000
  · by_cases h2 : -1000000000 ≤ d ∧ d ≤ 1000000000
    · rw [w64 (by omega) (by omega)]
      simp only [h1, h2, and_self, decide_true, if_true, Bool.not_true, Bool.false_eq_true, if_false]
      repeat' split
      all_goals first | rfl | omega
    · simp [h1, h2]
  · simp [h1]
theorem iAddTick (t d : Int) : impl_AddTick.f t d = some (addTick t d) := by
  unfold impl_AddTick.f addTick
  simp only [iTick, iIn, Option.bind_some]
  by_cases h1 : 0 ≤ t ∧ t ≤ 1000000000
  · by_cases h2 : -1000000000 ≤ d ∧ d ≤ 1000000000
    · rw [w64 (by omega) (by omega)]
      simp only [h1, h2, and_self, decide_true, if_true]
      unfold mx mn
      congr 1
      repeat' split
      all_goals omega
    · simp [h1, h2]
  · simp [h1]
theorem sAddTick_ev (t d : Int) : Ev (fun k => spec_AddTick.f k t d) (addTick t d) := Ev.at1 (fun k => sAddTick k t d)

def dueAt (a b c : Int) : Bool := decide ((0 ≤ a ∧ a ≤ 1000000000) ∧ (0 ≤ b ∧ b ≤ 1000000000) ∧ (0 ≤ c ∧ c ≤ 1000000000) ∧ 0 < b ∧ addTick a b ≤ c)
theorem sDueAt (k : Nat) (a b c : Int) : spec_DueAt.f (k + 1) a b c = some (dueAt a b c) := by
  unfold spec_DueAt.f dueAt
  simp only [sTick, sAddTick, Option.bind_some]
  by_cases h1 : 0 ≤ a ∧ a ≤ 1000000000 <;> by_cases h2 : 0 ≤ b ∧ b ≤ 1000000000 <;> by_cases h3 : 0 ≤ c ∧ c ≤ 1000000000 <;> by_cases h4 : 0 < b <;> simp [h1, h2, h3, h4]
theorem iDueAt (a b c : Int) : impl_DueAt.f a b c = some (dueAt a b c) := by
  unfold impl_DueAt.f dueAt
  simp only [iTick, iAddTick, Option.bind_some]
  by_cases h1 : 0 ≤ a ∧ a ≤ 1000000000 <;> by_cases h2 : 0 ≤ b ∧ b ≤ 1000000000 <;> by_cases h3 : 0 ≤ c ∧ c ≤ 1000000000 <;> by_cases h4 : 0 < b <;> simp [h1, h2, h3, h4]
theorem sDueAt_ev (a b c : Int) : Ev (fun k => spec_DueAt.f k a b c) (dueAt a b c) := Ev.at1 (fun k => sDueAt k a b c)

theorem FnExactDueAt : laws_FnExactDueAt.Pure := by
  intro a b c _ _ _
  refine ⟨1, ?_⟩
  unfold laws_FnExactDueAt.f
  rw [sDueAt 0, iDueAt]
  simp

end Go.Proofs.Ytpcddljnlkbepaa.Pure
