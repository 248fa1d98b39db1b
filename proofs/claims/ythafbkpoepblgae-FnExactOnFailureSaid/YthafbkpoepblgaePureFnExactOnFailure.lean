/-
For every configuration, breaker and number the program's OnFailure and the reference's OnFailure answer alike, in memory of their own, and the breaker is left as it was (the printed law answers true). Its list is any that a slice can hold.
-/
import Derived.Test.YthafbkpoepblgaeMFnExactOnFailurex11
namespace Go.Proofs.Ythafbkpoepblgae.Pure
open Go.RowKit Go.Proofs.Ythafbkpoepblgae.MFnExactOnFailure Go.Proofs.YthafbkpoepblgaeW.PrintWords Go.Proofs.YthafbkpoepblgaeW.PrintLast Go.Proofs.YthafbkpoepblgaeW.PrintMore 
set_option linter.unusedVariables false
set_option linter.unusedSimpArgs false

theorem w64 {n : Int} (h0 : -9223372036854775808 ≤ n) (h1 : n ≤ 9223372036854775807) : wrap64 n = n := by unfold wrap64; omega
theorem wsucc (i : Nat) (h : i < 9223372036854775807) : wrap64 ((i : Int) + 1) = ((i + 1 : Nat) : Int) := by rw [w64 (by omega) (by omega)]; omega
theorem rd_nat (xs : List Int) (i : Nat) (h : i < xs.length) : rd xs (i : Int) = xs[i] := by simp [rd, h]
theorem rdOf_nat {α : Type} (d : α) (xs : List α) (i : Nat) (h : i < xs.length) : rdOf d xs (i : Int) = xs[i] := by simp [rdOf, h]
theorem Ev.pos {α : Type} {c : Prop} [Decidable c] {A B : Nat → Option α} {r : α} (h : c) (e : Ev A r) : Ev (fun k => if c then A k else B k) r := Ev.congr (fun _ => if_pos h) e
theorem Ev.neg {α : Type} {c : Prop} [Decidable c] {A B : Nat → Option α} {r : α} (h : ¬ c) (e : Ev B r) : Ev (fun k => if c then A k else B k) r := Ev.congr (fun _ => if_neg h) e
theorem Ev.bind' {α β : Type} {g : Nat → Option α} {f : Nat → α → Option β} {r : β} (a : α) (h : Ev g a) (k : Ev (fun n => f n a) r) : Ev (fun n => (g n).bind (f n)) r := Ev.bind h k
theorem Ev.some' {α β : Type} {a : α} {f : Nat → α → Option β} {r : β} (k : Ev (fun n => f n a) r) : Ev (fun n => (Option.some a).bind (f n)) r := Ev.bind (Ev.now a) k
theorem Ev.is {α : Type} {g : Nat → Option α} {r : α} (h : ∀ k, g k = some r) : Ev g r := ⟨0, fun k _ => h k⟩
theorem Ev.at1 {α : Type} {g : Nat → Option α} {r : α} (h : ∀ k, g (k + 1) = some r) : Ev g r := ⟨1, fun k hk => by obtain ⟨m, rfl⟩ : ∃ m, k = m + 1 := ⟨k - 1, by omega⟩; exact h m⟩
theorem Ev.at2 {α : Type} {g : Nat → Option α} {r : α} (h : ∀ k, g (k + 2) = some r) : Ev g r := ⟨2, fun k hk => by obtain ⟨m, rfl⟩ : ∃ m, k = m + 2 := ⟨k - 2, by omega⟩; exact h m⟩
theorem Ev.at3 {α : Type} {g : Nat → Option α} {r : α} (h : ∀ k, g (k + 3) = some r) : Ev g r := ⟨3, fun k hk => by obtain ⟨m, rfl⟩ : ∃ m, k = m + 3 := ⟨k - 3, by omega⟩; exact h m⟩
/-- What a loop over a list comes to: a state, a step that goes on or answers, an end. -/
def runE {α σ ρ : Type} (step : Nat → σ → α → Except ρ σ) (fin : σ → ρ) : Nat → List α → σ → ρ
  | _, [], s => fin s
  | i, x :: xs, s => match step i s x with
    | .error r => r
    | .ok s' => runE step fin (i + 1) xs s'
/-- A loop over a list, round by round (from K rounds on). -/
theorem loop_run {α σ ρ : Type} (xs : List α) (L : Nat → σ → Int → Option ρ) (step : Nat → σ → α → Except ρ σ) (fin : σ → ρ) (K : Nat)
    (hs : ∀ k, K ≤ k → ∀ s (i : Nat) (h : i < xs.length), L (k + 1) s i = match step i s xs[i] with | .error r => some r | .ok s' => L k s' ((i + 1 : Nat) : Int))
    (he : ∀ k s, L (k + 1) s (xs.length : Int) = some (fin s)) :
    ∀ (d k : Nat) (s : σ) (i : Nat), i ≤ xs.length → xs.length - i = d → d + K < k → L k s (i : Int) = some (runE step fin i (xs.drop i) s) := by
  intro d
  induction d with
  | zero =>
    intro k s i hi hd hk
    obtain ⟨k, rfl⟩ : ∃ m, k = m + 1 := ⟨k - 1, by omega⟩
    obtain rfl : i = xs.length := by omega
    rw [he, List.drop_length, runE]
  | succ d ih =>
    intro k s i hi hd hk
    obtain ⟨k, rfl⟩ : ∃ m, k = m + 1 := ⟨k - 1, by omega⟩
    have hlt : i < xs.length := by omega
    rw [hs k (by omega) s i hlt, List.drop_eq_getElem_cons hlt, runE]
    cases step i s xs[i] with
    | error r => rfl
    | ok s' => exact ih k s' (i + 1) (by omega) (by omega) (by omega)
/-- The same, from the start. -/
theorem loop_ev {α σ ρ : Type} (xs : List α) (L : Nat → σ → Int → Option ρ) (step : Nat → σ → α → Except ρ σ) (fin : σ → ρ) (K : Nat)
    (hs : ∀ k, K ≤ k → ∀ s (i : Nat) (h : i < xs.length), L (k + 1) s i = match step i s xs[i] with | .error r => some r | .ok s' => L k s' ((i + 1 : Nat) : Int))
    (he : ∀ k s, L (k + 1) s (xs.length : Int) = some (fin s)) (s : σ) : Ev (fun k => L k s 0) (runE step fin 0 xs s) :=
  ⟨xs.length + K + 1, fun k hk => by have := loop_run xs L step fin K hs he xs.length k s 0 (by omega) (by omega) (by omega); simpa using this⟩
theorem wf_b {n : Int} (h : (Lit.int .i64 n).wf = true) : -9223372036854775808 ≤ n ∧ n ≤ 9223372036854775807 := by
  simp [Lit.wf, IntKind.min, IntKind.max, IntKind.signed, IntKind.bits] at h
  omega
theorem Ev.ite {α : Type} {c : Prop} [Decidable c] {A B : Nat → Option α} {a b : α} (h1 : c → Ev A a) (h2 : ¬ c → Ev B b) : Ev (fun k => if c then A k else B k) (if c then a else b) := by
  by_cases h : c
  · rw [if_pos h]; exact Ev.pos h (h1 h)
  · rw [if_neg h]; exact Ev.neg h (h2 h)

def chk (l : List Int) : Nat → Nat → Bool
  | 0, _ => true
  | d + 1, i => if (0 ≤ rd l i ∧ rd l i ≤ 1000000000) ∧ (0 < i → rd l ((i - 1 : Nat) : Int) ≤ rd l i) then chk l d (i + 1) else false
def breakerOk (s : Int) (l : List Int) (u : Int) : Bool := decide ((0 ≤ s ∧ s ≤ 2) ∧ (0 ≤ u ∧ u ≤ 1000000000) ∧ l.length ≤ 20 ∧ (s = 0 → u = 0) ∧ (s ≠ 0 → l.length = 0)) && chk l l.length 0
theorem wpred (i : Nat) (h : 0 < i) (h2 : i < 9223372036854775807) : wrap64 ((i : Int) - 1) = ((i - 1 : Nat) : Int) := by rw [w64 (by omega) (by omega)]; omega

theorem sIn (a b c : Int) : spec_l01In.f a b c = some (decide (b ≤ a ∧ a ≤ c)) := by
  unfold spec_l01In.f; by_cases h : b ≤ a <;> simp [h]

theorem sTick (a : Int) : spec_TickOk.f a = some (decide (0 ≤ a ∧ a ≤ 1000000000)) := by unfold spec_TickOk.f; rw [sIn]; rfl

theorem sBreaker_l0 (s : Int) (l : List Int) (u : Int) (hl : l.length ≤ 1048577) : ∀ (d i : Nat), i + d = l.length → Ev (fun k => spec_BreakerOk.l0 k (i : Int) s l u) (chk l d i) := by
  intro d
  induction d with
  | zero =>
    intro i hi
    refine Ev.step (fun k => by rw [spec_BreakerOk.l0]) ?_
    exact Ev.neg (by omega) (Ev.now _)
  | succ d ih =>
    intro i hi
    refine Ev.step (fun k => by rw [spec_BreakerOk.l0]) ?_
    refine Ev.pos (by omega) (Ev.pos (by omega) ?_)
    refine Ev.bind' _ (Ev.is fun _ => sTick _) ?_
    rw [chk, wsucc i (by omega)]
    by_cases h1 : 0 ≤ rd l i ∧ rd l i ≤ 1000000000
    · refine Ev.pos (by simpa using h1) ?_
      by_cases h2 : 0 < i
      · refine Ev.pos (by omega) ?_
        rw [wpred i h2 (by omega)]
        refine Ev.pos (by omega) (Ev.pos (by omega) ?_)
        by_cases h3 : rd l ((i - 1 : Nat) : Int) ≤ rd l i
        · rw [if_pos ⟨h1, fun _ => h3⟩]
          exact Ev.neg (by omega) (ih (i + 1) (by omega))
        · rw [if_neg (fun e => h3 (e.2 h2))]
          exact Ev.pos (by omega) (Ev.now _)
      · rw [if_pos ⟨h1, fun e => absurd e h2⟩]
        exact Ev.neg (by omega) (ih (i + 1) (by omega))
    · rw [if_neg (fun e => h1 e.1)]
      exact Ev.neg (by simpa using h1) (Ev.now _)
theorem sBreaker_j {r : Bool} (s : Int) (l : List Int) (u : Int) (hl : l.length ≤ 1048577) (b : Bool) (h : b = false → Ev (fun k => spec_BreakerOk.l0 k 0 s l u) r) (h2 : b = true → r = false) : Ev (fun k => spec_BreakerOk.j0 k b s l u) r := by
  refine Ev.step (fun k => by rw [spec_BreakerOk.j0]) ?_
  cases b
  · exact Ev.neg (by simp) (h rfl)
  · rw [h2 rfl]; exact Ev.pos rfl (Ev.now _)
theorem sBreaker_ev (s : Int) (l : List Int) (u : Int) (hl : l.length ≤ 1048577) : Ev (fun k => spec_BreakerOk.f k s l u) (breakerOk s l u) := by
  have hc := sBreaker_l0 s l u hl l.length 0 (by omega)
  unfold spec_BreakerOk.f breakerOk
  refine Ev.bind' _ (Ev.is fun _ => sIn s 0 2) ?_
  by_cases h1 : 0 ≤ s ∧ s ≤ 2
  case neg => exact Ev.neg (by simpa using h1) (sBreaker_j s l u hl true (by simp) (by simp [h1]))
  refine Ev.pos (by simpa using h1) (Ev.bind' _ (Ev.is fun _ => sTick u) ?_)
  by_cases h2 : 0 ≤ u ∧ u ≤ 1000000000
  case neg => exact Ev.neg (by simpa using h2) (sBreaker_j s l u hl true (by simp) (by simp [h2]))
  refine Ev.pos (by simpa using h2) ?_
  by_cases h3 : l.length ≤ 20
  case neg => exact Ev.pos (by omega) (sBreaker_j s l u hl true (by simp) (by simp [h3]))
  refine Ev.neg (by omega) ?_
  by_cases h4 : s = 0
  · refine Ev.pos h4 ?_
    by_cases h5 : u = 0
    · refine Ev.pos h5 (sBreaker_j s l u hl false (fun _ => ?_) (by simp))
      have e : (decide ((0 ≤ s ∧ s ≤ 2) ∧ (0 ≤ u ∧ u ≤ 1000000000) ∧ l.length ≤ 20 ∧ (s = 0 → u = 0) ∧ (s ≠ 0 → l.length = 0)) && chk l l.length 0) = chk l l.length 0 := by simp [h1, h2, h3, h4, h5]
      rw [e]; exact hc
    · exact Ev.neg h5 (sBreaker_j s l u hl true (by simp) (by simp [h4, h5]))
  · refine Ev.neg h4 ?_
    by_cases h5 : l.length = 0
    · refine sBreaker_j s l u hl _ (fun _ => ?_) (fun e => by simp [h5] at e)
      have e : (decide ((0 ≤ s ∧ s ≤ 2) ∧ (0 ≤ u ∧ u ≤ 1000000000) ∧ l.length ≤ 20 ∧ (s = 0 → u = 0) ∧ (s ≠ 0 → l.length = 0)) && chk l l.length 0) = chk l l.length 0 := by simp [h1, h2, h4, h5]
      rw [e]; exact hc
    · exact sBreaker_j s l u hl _ (fun e => by simp at e; exact absurd (by rw [e]; rfl) h5) (fun _ => by simp [h4, h5])

theorem iIn (a b c : Int) : impl_in.f a b c = some (decide (b ≤ a ∧ a ≤ c)) := by
  unfold impl_in.f; by_cases h : b ≤ a <;> simp [h]

theorem iTick (a : Int) : impl_TickOk.f a = some (decide (0 ≤ a ∧ a ≤ 1000000000)) := by unfold impl_TickOk.f; rw [iIn]; rfl

theorem iBreaker_l0 (s : Int) (l : List Int) (u : Int) (hl : l.length ≤ 1048577) (R : Bool) (hR : Ev (fun k => if s = 0 then (if (l.length : Int) ≤ 20 then (some (u == 0)) else (some false)) else ((impl_in.f s 1 2).bind fun t135 => (if t135 = true then (if (l.length : Int) = 0 then ((impl_TickOk.f u).bind fun t136 => (some t136)) else (some false)) else (some false)))) R) : ∀ (d i : Nat), i + d = l.length → Ev (fun k => impl_BreakerOk.l0 k l (l.length : Int) (i : Int) s l u) (chk l d i && R) := by
  intro d
  induction d with
  | zero =>
    intro i hi
    refine Ev.step (fun k => by rw [impl_BreakerOk.l0]) ?_
    exact Ev.neg (by omega) (by rw [chk, Bool.true_and]; exact hR)
  | succ d ih =>
    intro i hi
    refine Ev.step (fun k => by rw [impl_BreakerOk.l0]) ?_
    refine Ev.pos (by omega) (Ev.pos (by omega) (Ev.pos (by omega) ?_))
    refine Ev.bind' _ (Ev.is fun _ => iTick _) ?_
    rw [chk, wsucc i (by omega)]
    by_cases h1 : 0 ≤ rd l i ∧ rd l i ≤ 1000000000
    · refine Ev.pos (by simpa using h1) ?_
      by_cases h2 : 0 < i
      · refine Ev.pos (by omega) ?_
        rw [wpred i h2 (by omega)]
        refine Ev.pos (by omega) (Ev.pos (by omega) ?_)
        by_cases h3 : rd l ((i - 1 : Nat) : Int) ≤ rd l i
        · rw [if_pos ⟨h1, fun _ => h3⟩]
          exact Ev.neg (by omega) (ih (i + 1) (by omega))
        · rw [if_neg (fun e => h3 (e.2 h2))]
          exact Ev.pos (by omega) (Ev.now _)
      · rw [if_pos ⟨h1, fun e => absurd e h2⟩]
        exact Ev.neg (by omega) (ih (i + 1) (by omega))
    · rw [if_neg (fun e => h1 e.1)]
      exact Ev.neg (by simpa using h1) (Ev.now _)
theorem iBreaker_ev (s : Int) (l : List Int) (u : Int) (hl : l.length ≤ 1048577) : Ev (fun k => impl_BreakerOk.f k s l u) (breakerOk s l u) := by
  unfold impl_BreakerOk.f breakerOk
  rw [Bool.and_comm]
  refine iBreaker_l0 s l u hl _ ?_ l.length 0 (by omega)
  by_cases h1 : s = 0
  · subst h1
    refine Ev.pos rfl ?_
    by_cases h3 : l.length ≤ 20
    · refine Ev.pos (by omega) (Ev.is fun _ => ?_)
      congr 1
      by_cases h : u = 0 <;> simp [h, h3]
    · exact Ev.neg (by omega) (Ev.is fun _ => by simp [h3])
  · refine Ev.neg h1 (Ev.bind' _ (Ev.is fun _ => iIn s 1 2) ?_)
    by_cases h2 : 1 ≤ s ∧ s ≤ 2
    · refine Ev.pos (by simpa using h2) ?_
      by_cases h5 : l.length = 0
      · refine Ev.pos (by omega) (Ev.bind' _ (Ev.is fun _ => iTick u) (Ev.is fun _ => ?_))
        have h6 : 0 ≤ s := by omega
        simp [h1, h2, h5, h6]
      · exact Ev.neg (by omega) (Ev.is fun _ => by simp [h1, h5])
    · have h6 : ¬ (0 ≤ s ∧ s ≤ 2) := by omega
      exact Ev.neg (by simpa using h2) (Ev.is fun _ => by simp [h6])

theorem sCopy_ev (l : List Int) (hl : l.length ≤ 1048577) : Ev (fun k => spec_l01Copy.f k l) l := by
  have key : ∀ (d i : Nat) (out : List Int), i + d = l.length → out.length = i → Ev (fun k => spec_l01Copy.l0 k l out (i : Int)) (out ++ l.drop i) := by
    intro d
    induction d with
    | zero =>
      intro i out hi ho
      obtain rfl : i = l.length := by omega
      refine Ev.step (fun k => by rw [spec_l01Copy.l0]) ?_
      rw [List.drop_length, List.append_nil]
      exact Ev.neg (by omega) (Ev.now _)
    | succ d ih =>
      intro i out hi ho
      refine Ev.step (fun k => by rw [spec_l01Copy.l0]) ?_
      rw [rd_nat l i (by omega), wsucc i (by omega), List.drop_eq_getElem_cons (by omega)]
      refine Ev.pos (by omega) (Ev.pos (by omega) (Ev.pos (by omega) ?_))
      have := ih (i + 1) (out ++ [l[i]]) (by omega) (by simp [ho])
      simp only [List.append_assoc, List.singleton_append] at this
      exact this
  unfold spec_l01Copy.f
  have := key l.length 0 [] (by omega) rfl
  simpa using this
theorem sCopyB_ev (s : Int) (l : List Int) (u : Int) (hl : l.length ≤ 1048577) : Ev (fun k => spec_l06Copy.f k s l u) (s, l, u) := by
  unfold spec_l06Copy.f
  exact Ev.bind' l (sCopy_ev l hl) (Ev.now _)

theorem iClone (l : List Int) (hl : l.length ≤ 1048577) : slices_Clone_int_int.f l = some l := by
  unfold slices_Clone_int_int.f
  rw [Option.bind_some, if_pos (by simp; omega)]
  rfl
theorem iOwn (s : Int) (l : List Int) (u : Int) (hl : l.length ≤ 1048577) : impl_ownBreaker.f s l u = some (s, l, u) := by
  unfold impl_ownBreaker.f
  rw [iClone l hl]; rfl

def configOk (a0 a1 a2 a3 a4 a5 a6 a7 a8 a9 a10 a11 a12 a13 : Int) : Bool := decide ((1 ≤ a1 ∧ a1 ≤ 12) ∧ (0 ≤ a0 ∧ a0 ≤ a1) ∧ (0 ≤ a2 ∧ a2 ≤ 1000000000) ∧ (a2 ≠ 0) ∧ (0 ≤ a3 ∧ a3 ≤ 1000000000) ∧ (0 ≤ a4 ∧ a4 ≤ 1000000000) ∧ (0 ≤ a5 ∧ a5 ≤ 1000000000) ∧ (0 ≤ a6 ∧ a6 ≤ 1000000000) ∧ (0 ≤ a13 ∧ a13 ≤ 1000000000) ∧ (a13 ≠ 0) ∧
  (1 ≤ a8 ∧ a8 ≤ 1000000) ∧ (1 ≤ a7 ∧ a7 ≤ a8) ∧ (0 ≤ a9 ∧ a9 ≤ 100) ∧ (1 ≤ a10 ∧ a10 ≤ 1000000) ∧ (1 ≤ a11 ∧ a11 ≤ 20) ∧ (1 ≤ a12 ∧ a12 ≤ 1000000))

theorem sConfigOk (k : Nat) (a0 a1 a2 a3 a4 a5 a6 a7 a8 a9 a10 a11 a12 a13 : Int) : spec_ConfigOk.f (k + 2) a0 a1 a2 a3 a4 a5 a6 a7 a8 a9 a10 a11 a12 a13 = some (configOk a0 a1 a2 a3 a4 a5 a6 a7 a8 a9 a10 a11 a12 a13) := by
  unfold spec_ConfigOk.f configOk
  simp only [sTick, sIn, Option.bind_some]
  by_cases h1 : 1 ≤ a1 ∧ a1 ≤ 12
  case neg => simp [h1, spec_ConfigOk.j0]
  by_cases h2 : 0 ≤ a0 ∧ a0 ≤ a1
  case neg => simp [h1, h2, spec_ConfigOk.j0]
  simp only [h1, h2, and_self, decide_true, if_true, Bool.not_true, spec_ConfigOk.j0, sTick, Option.bind_some, Bool.false_eq_true, if_false, true_and]
  clear h1 h2
  by_cases h3 : 0 ≤ a2 ∧ a2 ≤ 1000000000
  case neg => simp [h3, spec_ConfigOk.j1]
  by_cases h4 : a2 = 0
  case pos => subst h4; simp [spec_ConfigOk.j1]
  by_cases h5 : 0 ≤ a3 ∧ a3 ≤ 1000000000
  case neg => simp [h3, h4, h5, spec_ConfigOk.j1]
  by_cases h6 : 0 ≤ a4 ∧ a4 ≤ 1000000000
  case neg => simp [h3, h4, h5, h6, spec_ConfigOk.j1]
  by_cases h7 : 0 ≤ a5 ∧ a5 ≤ 1000000000
  case neg => simp [h3, h4, h5, h6, h7, spec_ConfigOk.j1]
  by_cases h8 : 0 ≤ a6 ∧ a6 ≤ 1000000000
  case neg => simp [h3, h4, h5, h6, h7, h8, spec_ConfigOk.j1]
  by_cases h9 : 0 ≤ a13 ∧ a13 ≤ 1000000000
  case neg => simp [h3, h4, h5, h6, h7, h8, h9, spec_ConfigOk.j1]
  by_cases h10 : a13 = 0
  case pos => subst h10; simp [h3, h4, h5, h6, h7, h8, spec_ConfigOk.j1]
  simp only [h3, h4, h5, h6, h7, h8, h9, h10, and_self, decide_true, if_true, if_false, beq_eq_false_iff_ne.mpr h10, Bool.false_eq_true, spec_ConfigOk.j1, sIn, Option.bind_some, ne_eq, not_false_eq_true, true_and]
  by_cases g1 : 1 ≤ a8 ∧ a8 ≤ 1000000
  case neg => simp [g1]
  by_cases g2 : 1 ≤ a7 ∧ a7 ≤ a8
  case neg => simp [g1, g2]
  by_cases g3 : 0 ≤ a9 ∧ a9 ≤ 100
  case neg => simp [g1, g2, g3]
  by_cases g4 : 1 ≤ a10 ∧ a10 ≤ 1000000
  case neg => simp [g1, g2, g3, g4]
  by_cases g5 : 1 ≤ a11 ∧ a11 ≤ 20
  case neg => simp [g1, g2, g3, g4, g5]
  simp [g1, g2, g3, g4, g5]
theorem sConfigOk_ev (a0 a1 a2 a3 a4 a5 a6 a7 a8 a9 a10 a11 a12 a13 : Int) : Ev (fun k => spec_ConfigOk.f k a0 a1 a2 a3 a4 a5 a6 a7 a8 a9 a10 a11 a12 a13) (configOk a0 a1 a2 a3 a4 a5 a6 a7 a8 a9 a10 a11 a12 a13) := Ev.at2 (fun k => sConfigOk k a0 a1 a2 a3 a4 a5 a6 a7 a8 a9 a10 a11 a12 a13)

theorem iConfigOk_j1 (k : Nat) (x5 : Bool) (a0 a1 a2 a3 a4 a5 a6 a7 a8 a9 a10 a11 a12 a13 : Int) : impl_ConfigOk.j1 (k + 1) x5 a0 a1 a2 a3 a4 a5 a6 a7 a8 a9 a10 a11 a12 a13 = some (x5 && decide ((1 ≤ a8 ∧ a8 ≤ 1000000) ∧ (1 ≤ a7 ∧ a7 ≤ a8) ∧ (0 ≤ a9 ∧ a9 ≤ 100) ∧ (1 ≤ a10 ∧ a10 ≤ 1000000) ∧ (1 ≤ a11 ∧ a11 ≤ 20) ∧ (1 ≤ a12 ∧ a12 ≤ 1000000))) := by
  simp only [impl_ConfigOk.j1, iIn, Option.bind_some]
  by_cases g2 : 1 ≤ a7 ∧ a7 ≤ a8
  case neg => cases x5 <;> simp [g2]
  by_cases g1 : a8 ≤ 1000000
  case neg => cases x5 <;> simp [g1, g2]
  have g0 : 1 ≤ a8 := by omega
  cases x5
  case false => simp [g1, g2]
  by_cases g3 : 0 ≤ a9 ∧ a9 ≤ 100
  case neg => simp [g0, g1, g2, g3]
  by_cases g4 : 1 ≤ a10 ∧ a10 ≤ 1000000
  case neg => simp [g0, g1, g2, g3, g4]
  by_cases g5 : 1 ≤ a12 ∧ a12 ≤ 1000000
  case neg => simp [g0, g1, g2, g3, g4, g5]
  simp [g0, g1, g2, g3, g4, g5]
theorem iConfigOk (k : Nat) (a0 a1 a2 a3 a4 a5 a6 a7 a8 a9 a10 a11 a12 a13 : Int) : impl_ConfigOk.f (k + 8) a0 a1 a2 a3 a4 a5 a6 a7 a8 a9 a10 a11 a12 a13 = some (configOk a0 a1 a2 a3 a4 a5 a6 a7 a8 a9 a10 a11 a12 a13) := by
  unfold impl_ConfigOk.f configOk
  simp only [Option.bind_some, List.length_cons, List.length_nil]
  by_cases h3 : 0 ≤ a2 ∧ a2 ≤ 1000000000
  case neg => simp [impl_ConfigOk.l0, iTick, rd, h3]
  by_cases h5 : 0 ≤ a3 ∧ a3 ≤ 1000000000
  case neg => simp [impl_ConfigOk.l0, iTick, rd, h3, h5, wrap64]
  by_cases h6 : 0 ≤ a4 ∧ a4 ≤ 1000000000
  case neg => simp [impl_ConfigOk.l0, iTick, rd, h3, h5, h6, wrap64]
  by_cases h7 : 0 ≤ a5 ∧ a5 ≤ 1000000000
  case neg => simp [impl_ConfigOk.l0, iTick, rd, h3, h5, h6, h7, wrap64]
  by_cases h8 : 0 ≤ a6 ∧ a6 ≤ 1000000000
  case neg => simp [impl_ConfigOk.l0, iTick, rd, h3, h5, h6, h7, h8, wrap64]
  by_cases h9 : 0 ≤ a13 ∧ a13 ≤ 1000000000
  case neg => simp [impl_ConfigOk.l0, iTick, rd, h3, h5, h6, h7, h8, h9, wrap64]
  by_cases h1 : 1 ≤ a1 ∧ a1 ≤ 12
  case neg => simp [impl_ConfigOk.l0, iTick, iIn, rd, h3, h5, h6, h7, h8, h9, h1, wrap64, iConfigOk_j1]
  by_cases h2 : 0 ≤ a0 ∧ a0 ≤ a1
  case neg => simp [impl_ConfigOk.l0, iTick, iIn, rd, h3, h5, h6, h7, h8, h9, h1, h2, wrap64, iConfigOk_j1]
  by_cases h4 : a2 = 0
  case pos => subst h4; simp [impl_ConfigOk.l0, iTick, iIn, rd, h5, h6, h7, h8, h9, h1, h2, wrap64, iConfigOk_j1]
  have h4' : 1 ≤ a2 := by omega
  by_cases h10 : a13 = 0
  case pos => subst h10; simp [impl_ConfigOk.l0, iTick, iIn, rd, h3, h5, h6, h7, h8, h1, h2, h4', wrap64, iConfigOk_j1]
  have h10' : 1 ≤ a13 := by omega
  simp [impl_ConfigOk.l0, iTick, iIn, rd, h3, h4, h5, h6, h7, h8, h9, h1, h2, h4', h10, h10', wrap64, iConfigOk_j1]
theorem iConfigOk_ev (a0 a1 a2 a3 a4 a5 a6 a7 a8 a9 a10 a11 a12 a13 : Int) : Ev (fun k => impl_ConfigOk.f k a0 a1 a2 a3 a4 a5 a6 a7 a8 a9 a10 a11 a12 a13) (configOk a0 a1 a2 a3 a4 a5 a6 a7 a8 a9 a10 a11 a12 a13) := ⟨8, fun k hk => by obtain ⟨m, rfl⟩ : ∃ m, k = m + 8 := ⟨k - 8, by omega⟩; exact iConfigOk m a0 a1 a2 a3 a4 a5 a6 a7 a8 a9 a10 a11 a12 a13⟩



def addTick (t d : Int) : Int := if (0 ≤ t ∧ t ≤ 1000000000) ∧ (-1000000000 ≤ d ∧ d ≤ 1000000000) then (if t + d > 1000000000 then 1000000000 else if t + d < 0 then 0 else t + d) else -1

theorem sAddTick (k : Nat) (t d : Int) : spec_AddTick.f (k + 1) t d = some (addTick t d) := by
  unfold spec_AddTick.f addTick
  simp only [sTick, sIn, Option.bind_some, spec_AddTick.j0]
  by_cases h1 : 0 ≤ t ∧ t ≤ 1000000000
  · by_cases h2 : -1000000000 ≤ d ∧ d ≤ 1000000000
    · rw [w64 (by omega) (by omega)]
      simp only [h1, h2, and_self, decide_true, if_true, Bool.not_true, Bool.false_eq_true, if_false]
      repeat' split
      all_goals first | rfl | omega
    · simp [h1, h2]
  · simp [h1]
theorem sAddTick_ev (t d : Int) : Ev (fun k => spec_AddTick.f k t d) (addTick t d) := Ev.at1 (fun k => sAddTick k t d)

theorem iAddTick (t d : Int) : impl_AddTick.f t d = some (addTick t d) := by
  unfold impl_AddTick.f addTick
  simp only [iTick, iIn, Option.bind_some]
  by_cases h1 : 0 ≤ t ∧ t ≤ 1000000000
  · by_cases h2 : -1000000000 ≤ d ∧ d ≤ 1000000000
    · rw [w64 (by omega) (by omega)]
      simp only [h1, h2, and_self, decide_true, if_true]
      unfold mx mn
      congr 1
      repeat' split
      all_goals omega
    · simp [h1, h2]
  · simp [h1]



/-- What is left of the failures, and the new one. -/
def failed (win now : Int) (l : List Int) : List Int := (l.filter fun x => !decide (x < wrap64 (now - win))) ++ [now]
def failTail (win trips cool s : Int) (l : List Int) (u now : Int) : Int × List Int × Int × Bool :=
  if s = 2 then (1, [], addTick now cool, true) else if s = 0 then (if ((failed win now l).length : Int) ≥ trips then (1, [], addTick now cool, true) else (s, failed win now l, u, true)) else (s, l, u, true)
def failBack (l : List Int) (now : Int) : Bool := if (l.length : Int) > 0 then decide (now < rd l ((l.length - 1 : Nat) : Int)) else false
def onFailure (a0 a1 a2 a3 a4 a5 a6 a7 a8 a9 a10 a11 a12 a13 : Int) (s : Int) (l : List Int) (u now : Int) : Int × List Int × Int × Bool :=
  if configOk a0 a1 a2 a3 a4 a5 a6 a7 a8 a9 a10 a11 a12 a13 = true then (if breakerOk s l u = true then (if 0 ≤ now ∧ now ≤ 1000000000 then (if failBack l now = true then (s, l, u, false) else failTail a10 a11 a12 s l u now) else (s, l, u, false)) else (s, l, u, false)) else (s, l, u, false)
theorem failed_len (win now : Int) (l : List Int) : (failed win now l).length ≤ l.length + 1 := by
  unfold failed
  rw [List.length_append]
  have := List.length_filter_le (fun x => !decide (x < wrap64 (now - win))) l
  simp only [List.length_cons, List.length_nil]
  omega
theorem breakerOk_s {s : Int} {l : List Int} {u : Int} (h : breakerOk s l u = true) : 0 ≤ s ∧ s ≤ 2 := by
  unfold breakerOk at h
  simp only [Bool.and_eq_true, decide_eq_true_eq] at h
  exact h.1.1
theorem iFail_j0 (a0 a1 a2 a3 a4 a5 a6 a7 a8 a9 a10 a11 a12 a13 : Int) (b : Bool) (s : Int) (l : List Int) (u now : Int) (hl : l.length ≤ 1048577) : Ev (fun k => impl_OnFailure.j0 k b a0 a1 a2 a3 a4 a5 a6 a7 a8 a9 a10 a11 a12 a13 s l u now s l u) (if b = true then (s, l, u, false) else failTail a10 a11 a12 s l u now) := by
  refine Ev.step (fun k => by rw [impl_OnFailure.j0]) ?_
  refine Ev.ite (fun _ => Ev.now _) (fun _ => ?_)
  unfold failTail
  refine Ev.bind' _ (Ev.is fun _ => iAddTick now a12) ?_
  refine Ev.ite (fun _ => Ev.now _) (fun _ => Ev.ite (fun _ => ?_) (fun _ => Ev.now _))
  have hf := List.length_filter_le (fun x => !decide (x < wrap64 (now - a10))) l
  refine Ev.bind' (l.filter fun x => !decide (x < wrap64 (now - a10))) (Ev.is fun _ => rfl) (Ev.some' (Ev.pos (by simp only [List.length_cons, List.length_nil]; omega) (Ev.some' ?_)))
  exact Ev.ite (fun _ => Ev.now _) (fun _ => Ev.now _)
theorem iOnFailure_ev (a0 a1 a2 a3 a4 a5 a6 a7 a8 a9 a10 a11 a12 a13 : Int) (s : Int) (l : List Int) (u now : Int) (hl : l.length ≤ 1048577) : Ev (fun k => impl_OnFailure.f k a0 a1 a2 a3 a4 a5 a6 a7 a8 a9 a10 a11 a12 a13 s l u now) (onFailure a0 a1 a2 a3 a4 a5 a6 a7 a8 a9 a10 a11 a12 a13 s l u now) := by
  unfold impl_OnFailure.f onFailure
  have hT := iFail_j0 a0 a1 a2 a3 a4 a5 a6 a7 a8 a9 a10 a11 a12 a13 true s l u now hl
  rw [if_pos rfl] at hT
  refine Ev.bind' _ (Ev.is fun _ => iOwn s l u hl) (Ev.bind' _ (iConfigOk_ev a0 a1 a2 a3 a4 a5 a6 a7 a8 a9 a10 a11 a12 a13) ?_)
  refine Ev.ite (fun _ => Ev.bind' _ (iBreaker_ev s l u hl) (Ev.ite (fun _ => Ev.bind' _ (Ev.is fun _ => iTick now) ?_) (fun _ => hT))) (fun _ => hT)
  simp only [decide_eq_true_eq]
  refine Ev.ite (fun _ => ?_) (fun _ => hT)
  unfold failBack
  by_cases h : (l.length : Int) > 0
  · rw [if_pos h, wpred l.length (by omega) (by omega)]
    exact Ev.pos h (Ev.pos (by omega) (Ev.pos (by omega) (iFail_j0 a0 a1 a2 a3 a4 a5 a6 a7 a8 a9 a10 a11 a12 a13 _ s l u now hl)))
  · rw [if_neg h]
    exact Ev.neg h (iFail_j0 a0 a1 a2 a3 a4 a5 a6 a7 a8 a9 a10 a11 a12 a13 _ s l u now hl)
theorem sFail_l0 (a0 a1 a2 a3 a4 a5 a6 a7 a8 a9 a10 a11 a12 a13 : Int) (s : Int) (l : List Int) (u now : Int) (hl : l.length ≤ 1048577) : ∀ (d i : Nat) (out : List Int), i + d = l.length → out.length ≤ i → Ev (fun k => spec_OnFailure.l0 k now out (i : Int) a0 a1 a2 a3 a4 a5 a6 a7 a8 a9 a10 a11 a12 a13 s l u s l u) (if ((out ++ failed a10 now (l.drop i)).length : Int) ≥ a11 then (1, [], addTick now a12, true) else (s, out ++ failed a10 now (l.drop i), u, true)) := by
  intro d
  induction d with
  | zero =>
    intro i out hi ho
    refine Ev.step (fun k => by rw [spec_OnFailure.l0]) ?_
    obtain rfl : i = l.length := by omega
    have e : out ++ failed a10 now (l.drop l.length) = out ++ [now] := by rw [List.drop_length]; rfl
    rw [e]
    refine Ev.neg (by omega) (Ev.pos (by omega) (Ev.some' ?_))
    exact Ev.ite (fun _ => Ev.bind' _ (sAddTick_ev now a12) (Ev.now _)) (fun _ => Ev.now _)
  | succ d ih =>
    intro i out hi ho
    refine Ev.step (fun k => by rw [spec_OnFailure.l0]) ?_
    refine Ev.pos (by omega) (Ev.pos (by omega) ?_)
    rw [rd_nat l i (by omega), wsucc i (by omega), List.drop_eq_getElem_cons (by omega)]
    by_cases h : l[i] ≥ wrap64 (now - a10)
    · have e : out ++ failed a10 now (l[i] :: l.drop (i + 1)) = (out ++ [l[i]]) ++ failed a10 now (l.drop (i + 1)) := by
        unfold failed
        rw [List.filter_cons_of_pos (by simp; omega)]
        simp
      rw [e]
      exact Ev.pos h (Ev.pos (by omega) (ih (i + 1) (out ++ [l[i]]) (by omega) (by simp; omega)))
    · have e : out ++ failed a10 now (l[i] :: l.drop (i + 1)) = out ++ failed a10 now (l.drop (i + 1)) := by
        unfold failed
        rw [List.filter_cons_of_neg (by simp; omega)]
      rw [e]
      exact Ev.neg h (ih (i + 1) out (by omega) (by omega))
theorem sFail_j0 (a0 a1 a2 a3 a4 a5 a6 a7 a8 a9 a10 a11 a12 a13 : Int) (b : Bool) (s : Int) (l : List Int) (u now : Int) (hl : l.length ≤ 1048577) (hs : b = false → 0 ≤ s ∧ s ≤ 2) : Ev (fun k => spec_OnFailure.j0 k now b a0 a1 a2 a3 a4 a5 a6 a7 a8 a9 a10 a11 a12 a13 s l u s l u) (if b = true then (s, l, u, false) else failTail a10 a11 a12 s l u now) := by
  refine Ev.step (fun k => by rw [spec_OnFailure.j0]) ?_
  refine Ev.ite (fun _ => Ev.now _) (fun hb => ?_)
  have hs' := hs (by simpa using hb)
  unfold failTail
  refine Ev.ite (fun _ => Ev.bind' _ (sAddTick_ev now a12) (Ev.now _)) (fun h2 => ?_)
  by_cases h1 : s = 1
  · rw [if_neg (by omega)]
    exact Ev.pos h1 (Ev.now _)
  · rw [if_pos (by omega)]
    have := sFail_l0 a0 a1 a2 a3 a4 a5 a6 a7 a8 a9 a10 a11 a12 a13 s l u now hl l.length 0 [] (by omega) (Nat.le_refl _)
    rw [List.drop_zero, List.nil_append] at this
    exact Ev.neg h1 this
theorem sOnFailure_ev (a0 a1 a2 a3 a4 a5 a6 a7 a8 a9 a10 a11 a12 a13 : Int) (s : Int) (l : List Int) (u now : Int) (hl : l.length ≤ 1048577) : Ev (fun k => spec_OnFailure.f k a0 a1 a2 a3 a4 a5 a6 a7 a8 a9 a10 a11 a12 a13 s l u now) (onFailure a0 a1 a2 a3 a4 a5 a6 a7 a8 a9 a10 a11 a12 a13 s l u now) := by
  unfold spec_OnFailure.f onFailure
  have hT := sFail_j0 a0 a1 a2 a3 a4 a5 a6 a7 a8 a9 a10 a11 a12 a13 true s l u now hl (by simp)
  rw [if_pos rfl] at hT
  refine Ev.bind' _ (sCopyB_ev s l u hl) (Ev.bind' _ (sConfigOk_ev a0 a1 a2 a3 a4 a5 a6 a7 a8 a9 a10 a11 a12 a13) ?_)
  refine Ev.ite (fun _ => Ev.bind' _ (sBreaker_ev s l u hl) (Ev.ite (fun hb => Ev.bind' _ (Ev.is fun _ => sTick now) ?_) (fun _ => hT))) (fun _ => hT)
  simp only [decide_eq_true_eq]
  refine Ev.ite (fun _ => ?_) (fun _ => hT)
  unfold failBack
  by_cases h : (l.length : Int) > 0
  · rw [if_pos h, wpred l.length (by omega) (by omega)]
    exact Ev.pos h (Ev.pos (by omega) (Ev.pos (by omega) (sFail_j0 a0 a1 a2 a3 a4 a5 a6 a7 a8 a9 a10 a11 a12 a13 _ s l u now hl (fun _ => breakerOk_s hb))))
  · rw [if_neg h]
    exact Ev.neg h (sFail_j0 a0 a1 a2 a3 a4 a5 a6 a7 a8 a9 a10 a11 a12 a13 _ s l u now hl (fun _ => breakerOk_s hb))
theorem onFailure_len (a0 a1 a2 a3 a4 a5 a6 a7 a8 a9 a10 a11 a12 a13 : Int) (s : Int) (l : List Int) (u now : Int) : (onFailure a0 a1 a2 a3 a4 a5 a6 a7 a8 a9 a10 a11 a12 a13 s l u now).2.1.length ≤ l.length + 1 := by
  have := failed_len a10 now l
  unfold onFailure failTail
  repeat' split
  all_goals first | (simp; done) | (simp only []; omega) | exact this

theorem toIntS_ev (l : List Int) (hl : l.length ≤ 1048576) : Ev (fun k => laws_toIntS.f k l) l := by
  have key : ∀ (d k : Nat) (i : Nat) (acc : List Int), i ≤ l.length → l.length - i = d → d < k → acc.length = l.length → laws_toIntS.l0 k l acc (i : Int) = some (acc.take i ++ l.drop i) := by
    intro d
    induction d with
    | zero =>
      intro k i acc hi hd hk ha
      obtain ⟨k, rfl⟩ : ∃ m, k = m + 1 := ⟨k - 1, by omega⟩
      obtain rfl : i = l.length := by omega
      simp only [laws_toIntS.l0]
      rw [if_neg (by omega), List.drop_length, ← ha, List.take_length, List.append_nil]
    | succ d ih =>
      intro k i acc hi hd hk ha
      obtain ⟨k, rfl⟩ : ∃ m, k = m + 1 := ⟨k - 1, by omega⟩
      simp only [laws_toIntS.l0]
      rw [if_pos (by omega), if_pos (by omega), if_pos (by omega), wsucc i (by omega), rd_nat l i (by omega), Int.toNat_natCast, ih k (i + 1) _ (by omega) (by omega) (by omega) (by rw [List.length_set, ha])]
      congr 1
      rw [List.take_succ_eq_append_getElem (by rw [List.length_set]; omega), List.getElem_set_self, List.take_set_of_le (Nat.le_refl _), List.append_assoc, List.singleton_append, ← List.drop_eq_getElem_cons (by omega)]
  refine ⟨l.length + 1, fun k hk => (?_ : laws_toIntS.f k l = some l)⟩
  unfold laws_toIntS.f
  rw [if_pos (by omega), if_pos (by omega), Int.toNat_natCast]
  have := key l.length k 0 (List.replicate l.length 0) (by omega) (by omega) (by omega) (by simp)
  simpa using this

theorem eqIntS_run (l r : List Int) (hl : l.length = r.length) (hb : l.length ≤ 1048577) : ∀ (d k i : Nat), i ≤ l.length → l.length - i = d → d < k → laws_eqIntS.l0 k l r (i : Int) = some (decide (l.drop i = r.drop i)) := by
  intro d
  induction d with
  | zero =>
    intro k i hi hd hk
    obtain ⟨k, rfl⟩ : ∃ m, k = m + 1 := ⟨k - 1, by omega⟩
    obtain rfl : i = l.length := by omega
    simp only [laws_eqIntS.l0]
    rw [if_neg (by omega), List.drop_length, hl, List.drop_length]
    rfl
  | succ d ih =>
    intro k i hi hd hk
    obtain ⟨k, rfl⟩ : ∃ m, k = m + 1 := ⟨k - 1, by omega⟩
    simp only [laws_eqIntS.l0]
    rw [if_pos (by omega), if_pos (by omega), if_pos (by omega), rd_nat l i (by omega), rd_nat r i (by omega), wsucc i (by omega), List.drop_eq_getElem_cons (show i < l.length by omega), List.drop_eq_getElem_cons (show i < r.length by omega)]
    by_cases h : l[i] = r[i]
    · rw [if_pos h, ih k (i + 1) (by omega) (by omega) (by omega)]
      simp only [List.cons.injEq, h, true_and]
    · rw [if_neg h]
      simp only [List.cons.injEq, h, false_and, decide_false]
theorem eqIntS_ev (l r : List Int) (hb : l.length ≤ 1048577) : Ev (fun k => laws_eqIntS.f k l r) (decide (l = r)) := by
  unfold laws_eqIntS.f
  by_cases h : l.length = r.length
  · refine Ev.pos (by omega) ⟨l.length + 1, fun k hk => ?_⟩
    have := eqIntS_run l r h hb l.length k 0 (by omega) (by omega) (by omega)
    simpa using this
  · refine Ev.neg (by omega) (Ev.is fun _ => ?_)
    rw [decide_eq_false (fun e => h (by rw [e]))]

/-- The size that a law lets in: more than so many elements end it. -/
theorem szBreaker (s : Int) (l : List Int) (u : Int) (hl : l.length ≤ 9223372036854775807) : laws_szBreaker.f s l u 1048576 = some (if l.length ≤ 1048576 then 1048576 - (l.length : Int) else -1) := by
  unfold laws_szBreaker.f laws_szIntS.f
  rw [w64 (by omega) (by omega)]
  by_cases h : l.length ≤ 1048576
  · rw [if_neg (by omega), if_pos h, Option.bind_some, if_neg (by omega)]
  · rw [if_pos (by omega), if_neg h]
    rfl
theorem toBreaker_ev (s : Int) (l : List Int) (u : Int) (hl : l.length ≤ 1048576) : Ev (fun k => laws_toBreaker.f k s l u) (s, l, u) := by
  unfold laws_toBreaker.f
  exact Ev.bind' l (toIntS_ev l hl) (Ev.now _)
theorem eqBreaker_ev (s : Int) (l : List Int) (u : Int) (hl : l.length ≤ 1048577) : Ev (fun k => laws_eqBreaker.f k s l u s l u) true := by
  unfold laws_eqBreaker.f
  exact Ev.pos rfl (Ev.bind' _ (eqIntS_ev l l hl) (Ev.pos (by simp) (Ev.pos rfl (Ev.now _))))

def marks : Int → Nat → List Int
  | _, 0 => []
  | m, n + 1 => m :: marks (m + 1) n
theorem marks_length : ∀ (n : Nat) (m : Int), (marks m n).length = n
  | 0, _ => rfl
  | n + 1, m => by rw [marks, List.length_cons, marks_length n]
theorem markIntS_ev (l : List Int) (m : Int) (hm : 0 ≤ m) (hm2 : m ≤ 4611686018427387904) (hl : l.length ≤ 1048577) : Ev (fun k => laws_markIntS.f k l m) (m + l.length, marks m l.length) := by
  have key : ∀ (d k i : Nat) (m : Int) (acc : List Int), i ≤ l.length → l.length - i = d → d < k → acc.length = l.length → 0 ≤ m → m + d ≤ 4611686018428436481 → laws_markIntS.l0 k acc m (i : Int) = some (m + d, acc.take i ++ marks m d) := by
    intro d
    induction d with
    | zero =>
      intro k i m acc hi hd hk ha h0 h1
      obtain ⟨k, rfl⟩ : ∃ m, k = m + 1 := ⟨k - 1, by omega⟩
      simp only [laws_markIntS.l0]
      rw [if_neg (by omega), List.take_of_length_le (by omega), marks, List.append_nil]
      simp
    | succ d ih =>
      intro k i m acc hi hd hk ha h0 h1
      obtain ⟨k, rfl⟩ : ∃ m, k = m + 1 := ⟨k - 1, by omega⟩
      simp only [laws_markIntS.l0]
      rw [if_pos (by omega), if_pos (by omega), wsucc i (by omega), w64 (by omega) (by omega), Int.toNat_natCast, ih k (i + 1) (m + 1) _ (by omega) (by omega) (by omega) (by rw [List.length_set, ha]) (by omega) (by omega)]
      rw [List.take_succ_eq_append_getElem (by rw [List.length_set]; omega), List.getElem_set_self, List.take_set_of_le (Nat.le_refl _), List.append_assoc, List.singleton_append, marks]
      congr 2
      omega
  refine ⟨l.length + 1, fun k hk => (?_ : laws_markIntS.f k l m = _)⟩
  unfold laws_markIntS.f
  have := key l.length k 0 m l (by omega) (by omega) (by omega) rfl hm (by omega)
  simpa using this
theorem heldIntS_ev (n : Nat) (m : Int) (hm : 0 ≤ m) (hm2 : m ≤ 4611686018427387904) (hn : n ≤ 1048577) : Ev (fun k => laws_heldIntS.f k (marks m n) m) (m + n) := by
  have key : ∀ (l : List Int), l.length ≤ 1048577 → ∀ (d k i : Nat) (m : Int), i ≤ l.length → l.length - i = d → d < k → l.drop i = marks m d → 0 ≤ m → m + d ≤ 4611686018428436481 → laws_heldIntS.l0 k l m (i : Int) = some (m + d) := by
    intro l hl d
    induction d with
    | zero =>
      intro k i m hi hd hk hs h0 h1
      obtain ⟨k, rfl⟩ : ∃ m, k = m + 1 := ⟨k - 1, by omega⟩
      simp only [laws_heldIntS.l0]
      rw [if_neg (by omega)]
      simp
    | succ d ih =>
      intro k i m hi hd hk hs h0 h1
      obtain ⟨k, rfl⟩ : ∃ m, k = m + 1 := ⟨k - 1, by omega⟩
      rw [List.drop_eq_getElem_cons (by omega), marks, List.cons.injEq] at hs
      simp only [laws_heldIntS.l0]
      rw [if_pos (by omega), if_pos (by omega), rd_nat l i (by omega), if_pos hs.1, wsucc i (by omega), w64 (by omega) (by omega), ih k (i + 1) (m + 1) (by omega) (by omega) (by omega) hs.2 (by omega) (by omega)]
      congr 1
      omega
  refine ⟨n + 1, fun k hk => (?_ : laws_heldIntS.f k (marks m n) m = _)⟩
  unfold laws_heldIntS.f
  exact key (marks m n) (by rw [marks_length]; exact hn) n k 0 m (by omega) (by rw [marks_length]; omega) (by omega) rfl hm (by omega)

theorem markBreaker_ev (s : Int) (l : List Int) (u : Int) (hl : l.length ≤ 1048577) : Ev (fun k => laws_markBreaker.f k s l u 1) (1 + l.length, marks 1 l.length) := by
  unfold laws_markBreaker.f
  exact Ev.bind' _ (markIntS_ev l 1 (by omega) (by omega) hl) (Ev.now _)
theorem heldBreaker_ev (s : Int) (n : Nat) (u : Int) (hl : n ≤ 1048577) : Ev (fun k => laws_heldBreaker.f k s (marks 1 n) u 1) (1 + n) := by
  unfold laws_heldBreaker.f
  exact Ev.bind' _ (heldIntS_ev n 1 (by omega) (by omega) hl) (Ev.neg (by omega) (Ev.now _))

theorem FnExactOnFailure : ∀ (a0 a1 a2 a3 a4 a5 a6 a7 a8 a9 a10 a11 a12 a13 : Int) (s : Int) (l : List Int) (u now : Int), l.length ≤ 9223372036854775807 → (Lit.int .i64 a0).wf = true → (Lit.int .i64 a1).wf = true → (Lit.int .i64 a2).wf = true → (Lit.int .i64 a3).wf = true → (Lit.int .i64 a4).wf = true → (Lit.int .i64 a5).wf = true → (Lit.int .i64 a6).wf = true → (Lit.int .i64 a7).wf = true → (Lit.int .i64 a8).wf = true → (Lit.int .i64 a9).wf = true → (Lit.int .i64 a10).wf = true → (Lit.int .i64 a11).wf = true → (Lit.int .i64 a12).wf = true → (Lit.int .i64 a13).wf = true →  (Lit.int .i64 s).wf = true → (∀ n ∈ l, (Lit.int .i64 n).wf = true) → (Lit.int .i64 u).wf = true → (Lit.int .i64 now).wf = true → ∃ k, laws_FnExactOnFailure.f k a0 a1 a2 a3 a4 a5 a6 a7 a8 a9 a10 a11 a12 a13 s l u now = some true := by
  intro a0 a1 a2 a3 a4 a5 a6 a7 a8 a9 a10 a11 a12 a13 s l u now hm _ _ _ _ _ _ _ _ _ _ _ _ _ _ _ _ _ _
  refine Ev.rounds (r := true) ?_
  unfold laws_FnExactOnFailure.f
  refine Ev.bind' _ (Ev.is fun _ => szBreaker s l u hm) ?_
  by_cases h : l.length ≤ 1048576
  case neg => rw [if_neg h]; exact Ev.pos (by omega) (Ev.now _)
  rw [if_pos h]
  have hr := onFailure_len a0 a1 a2 a3 a4 a5 a6 a7 a8 a9 a10 a11 a12 a13 s l u now
  have hc : laws_toConfig.f a0 a1 a2 a3 a4 a5 a6 a7 a8 a9 a10 a11 a12 a13 = some (a0, a1, a2, a3, a4, a5, a6, a7, a8, a9, a10, a11, a12, a13) := rfl
  refine Ev.neg (by omega) ?_
  refine Ev.bind' _ (Ev.is fun _ => hc) (Ev.bind' _ (toBreaker_ev s l u h) ?_)
  refine Ev.bind' _ (sOnFailure_ev a0 a1 a2 a3 a4 a5 a6 a7 a8 a9 a10 a11 a12 a13 s l u now (by omega)) ?_
  refine Ev.bind' _ (toBreaker_ev s l u h) (Ev.bind' _ (Ev.is fun _ => hc) ?_)
  refine Ev.bind' _ (iOnFailure_ev a0 a1 a2 a3 a4 a5 a6 a7 a8 a9 a10 a11 a12 a13 s l u now (by omega)) ?_
  refine Ev.bind' _ (eqBreaker_ev _ _ _ (by omega)) (Ev.pos rfl ?_)
  refine Ev.step (fun k => by rw [laws_FnExactOnFailure.j0]) (Ev.neg (by simp) ?_)
  refine Ev.bind' _ (toBreaker_ev s l u h) ?_
  refine Ev.bind' _ (eqBreaker_ev s l u (by omega)) (Ev.pos rfl ?_)
  refine Ev.bind' _ (markBreaker_ev s l u (by omega)) (Ev.neg (by omega) ?_)
  refine Ev.bind' _ (eqBreaker_ev _ _ _ (by omega)) (Ev.pos rfl ?_)
  refine Ev.step (fun k => by rw [laws_FnExactOnFailure.j1]) (Ev.neg (by simp) ?_)
  refine Ev.bind' _ (markBreaker_ev _ _ _ (by omega)) ?_
  refine Ev.bind' _ (heldBreaker_ev _ _ _ (by omega)) (Ev.neg (by omega) (Ev.pos rfl ?_))
  refine Ev.bind' _ (Ev.is fun _ => hc) (Ev.bind' _ (toBreaker_ev s l u h) ?_)
  refine Ev.bind' _ (iOnFailure_ev a0 a1 a2 a3 a4 a5 a6 a7 a8 a9 a10 a11 a12 a13 s l u now (by omega)) ?_
  refine Ev.bind' _ (eqBreaker_ev _ _ _ (by omega)) (Ev.pos rfl ?_)
  refine Ev.step (fun k => by rw [laws_FnExactOnFailure.j2]) (Ev.neg (by simp) ?_)
  exact Ev.bind' _ (heldBreaker_ev _ _ _ (by omega)) (Ev.neg (by omega) (Ev.pos rfl (Ev.now _)))

end Go.Proofs.Ythafbkpoepblgae.Pure
