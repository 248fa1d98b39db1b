/-
For every connection, event and numbers the program's StepConn and the reference's StepConn answer alike (the printed law answers true). All are any 64-bit numbers and any bool.
-/
import Derived.Test.YtpckdemamlhpdaaMFnExactStepConnx5
namespace Go.Proofs.Ytpckdemamlhpdaa.Pure
open Go.RowKit Go.Proofs.Ytpckdemamlhpdaa.MFnExactStepConn Go.Proofs.YtpckdemamlhpdaaW.PrintWords Go.Proofs.YtpckdemamlhpdaaW.PrintLast Go.Proofs.YtpckdemamlhpdaaW.PrintMore 
set_option linter.unusedVariables false
set_option linter.unusedSimpArgs false

theorem w64 {n : Int} (h0 : -9223372036854775808 ≤ n) (h1 : n ≤ 9223372036854775807) : wrap64 n = n := by unfold wrap64; omega
theorem wsucc (i : Nat) (h : i < 9223372036854775807) : wrap64 ((i : Int) + 1) = ((i + 1 : Nat) : Int) := by rw [w64 (by omega) (by omega)]; omega
theorem rd_nat (xs : List Int) (i : Nat) (h : i < xs.length) : rd xs (i : Int) = xs[i] := by simp [rd, h]
theorem rdOf_nat {α : Type} (d : α) (xs : List α) (i : Nat) (h : i < xs.length) : rdOf d xs (i : Int) = xs[i] := by simp [rdOf, h]
theorem Ev.pos {α : Type} {c : Prop} [Decidable c] {A B : Nat → Option α} {r : α} (h : c) (e : Ev A r) : Ev (fun k => if c then A k else B k) r := Ev.congr (fun _ => if_pos h) e
theorem Ev.neg {α : Type} {c : Prop} [Decidable c] {A B : Nat → Option α} {r : α} (h : ¬ c) (e : Ev B r) : Ev (fun k => if c then A k else B k) r := Ev.congr (fun _ => if_neg h) e
theorem Ev.bind' {α β : Type} {g : Nat → Option α} {f : Nat → α → Option β} {r : β} (a : α) (h : Ev g a) (k : Ev (fun n => f n a) r) : Ev (fun n => (g n).bind (f n)) r := Ev.bind h k
theorem Ev.some' {α β : Type} {a : α} {f : Nat → α → Option β} {r : β} (k : Ev (fun n => f n a) r) : Ev (fun n => (Option.some a).bind (f n)) r := Ev.bind (Ev.now a) k
theorem Ev.is {α : Type} {g : Nat → Option α} {r : α} (h : ∀ k, g k = some r) : Ev g r := ⟨0, fun k _ => h k⟩
theorem Ev.at1 {α : Type} {g : Nat → Option α} {r : α} (h : ∀ k, g (k + 1) = some r) : Ev g r := ⟨1, fun k hk => by obtain ⟨m, rfl⟩ : ∃ m, k = m + 1 := ⟨k - 1, by omega⟩; exact h m⟩
theorem Ev.at2 {α : Type} {g : Nat → Option α} {r : α} (h : ∀ k, g (k + 2) = some r) : Ev g r := ⟨2, fun k hk => by obtain ⟨m, rfl⟩ : ∃ m, k = m + 2 := ⟨k - 2, by omega⟩; exact h m⟩
theorem Ev.at3 {α : Type} {g : Nat → Option α} {r : α} (h : ∀ k, g (k + 3) = some r) : Ev g r := ⟨3, fun k hk => by obtain ⟨m, rfl⟩ : ∃ m, k = m + 3 := ⟨k - 3, by omega⟩; exact h m⟩
/-- What a loop over a list comes to: a state, a step that goes on or answers, an end. -/
def runE {α σ ρ : Type} (step : Nat → σ → α → Except ρ σ) (fin : σ → ρ) : Nat → List α → σ → ρ
  | _, [], s => fin s
  | i, x :: xs, s => match step i s x with
    | .error r => r
    | .ok s' => runE step fin (i + 1) xs s'
/-- A loop over a list, round by round (from K rounds on). -/
theorem loop_run {α σ ρ : Type} (xs : List α) (L : Nat → σ → Int → Option ρ) (step : Nat → σ → α → Except ρ σ) (fin : σ → ρ) (K : Nat)
    (hs : ∀ k, K ≤ k → ∀ s (i : Nat) (h : i < xs.length), L (k + 1) s i = match step i s xs[i] with | .error r => some r | .ok s' => L k s' ((i + 1 : Nat) : Int))
    (he : ∀ k s, L (k + 1) s (xs.length : Int) = some (fin s)) :
    ∀ (d k : Nat) (s : σ) (i : Nat), i ≤ xs.length → xs.length - i = d → d + K < k → L k s (i : Int) = some (runE step fin i (xs.drop i) s) := by
  intro d
  induction d with
  | zero =>
    intro k s i hi hd hk
    obtain ⟨k, rfl⟩ : ∃ m, k = m + 1 := ⟨k - 1, by omega⟩
    obtain rfl : i = xs.length := by omega
    rw [he, List.drop_length, runE]
  | succ d ih =>
    intro k s i hi hd hk
    obtain ⟨k, rfl⟩ : ∃ m, k = m + 1 := ⟨k - 1, by omega⟩
    have hlt : i < xs.length := by omega
    rw [hs k (by omega) s i hlt, List.drop_eq_getElem_cons hlt, runE]
    cases step i s xs[i] with
    | error r => rfl
    | ok s' => exact ih k s' (i + 1) (by omega) (by omega) (by omega)
/-- The same, from the start. -/
theorem loop_ev {α σ ρ : Type} (xs : List α) (L : Nat → σ → Int → Option ρ) (step : Nat → σ → α → Except ρ σ) (fin : σ → ρ) (K : Nat)
    (hs : ∀ k, K ≤ k → ∀ s (i : Nat) (h : i < xs.length), L (k + 1) s i = match step i s xs[i] with | .error r => some r | .ok s' => L k s' ((i + 1 : Nat) : Int))
    (he : ∀ k s, L (k + 1) s (xs.length : Int) = some (fin s)) (s : σ) : Ev (fun k => L k s 0) (runE step fin 0 xs s) :=
  ⟨xs.length + K + 1, fun k hk => by have := loop_run xs L step fin K hs he xs.length k s 0 (by omega) (by omega) (by omega); simpa using this⟩
theorem wf_b {n : Int} (h : (Lit.int .i64 n).wf = true) : -9223372036854775808 ≤ n ∧ n ≤ 9223372036854775807 := by
  simp [Lit.wf, IntKind.min, IntKind.max, IntKind.signed, IntKind.bits] at h
  omega
theorem Ev.ite {α : Type} {c : Prop} [Decidable c] {A B : Nat → Option α} {a b : α} (h1 : c → Ev A a) (h2 : ¬ c → Ev B b) : Ev (fun k => if c then A k else B k) (if c then a else b) := by
  by_cases h : c
  · rw [if_pos h]; exact Ev.pos h (h1 h)
  · rw [if_neg h]; exact Ev.neg h (h2 h)

def connOk (a b c d e : Int) (f : Bool) : Bool := decide ((1 ≤ a ∧ a ≤ 1000000000) ∧ (0 ≤ b ∧ b ≤ 4) ∧ (0 ≤ d ∧ d ≤ 1000000000) ∧ (0 ≤ c ∧ c ≤ d) ∧ (b = 0 → c = 0) ∧ (if b = 3 then 1 ≤ e ∧ e ≤ 1000000000 else e = 0 ∧ f = false))

def tgt (s e : Int) : Int := if e = 7 then (if s = 4 then -1 else 4) else if e = 0 then (if s = 0 then 1 else -1) else if e = 1 then (if s = 0 then 4 else -1) else if e = 2 then (if s = 1 then 3 else -1) else if e = 3 then (if s = 3 then 1 else -1) else if e = 4 then (if s = 1 then 2 else -1) else if e = 5 then (if s = 2 then 1 else -1) else if e = 6 then (if s = 2 then 4 else -1) else -1
def stepped (c0 c1 c2 c3 c4 : Int) (c5 : Bool) (e now n : Int) : Int × Int × Int × Int × Int × Bool × Bool := (c0, tgt c1 e, if e = 0 then now else c2, now, if e = 2 then n else 0, false, true)
def stepConn (c0 c1 c2 c3 c4 : Int) (c5 : Bool) (e now n : Int) : Int × Int × Int × Int × Int × Bool × Bool := if connOk c0 c1 c2 c3 c4 c5 = true ∧ (c3 ≤ now ∧ now ≤ 1000000000) ∧ ¬ (tgt c1 e < 0 ∨ (e = 2 ∧ ¬ (1 ≤ n ∧ n ≤ 1000000000))) then stepped c0 c1 c2 c3 c4 c5 e now n else (c0, c1, c2, c3, c4, c5, false)
theorem conn_bounds (c0 c1 c2 c3 c4 : Int) (c5 : Bool) (h : connOk c0 c1 c2 c3 c4 c5 = true) : (1 ≤ c0 ∧ c0 ≤ 1000000000) ∧ (0 ≤ c1 ∧ c1 ≤ 4) ∧ (0 ≤ c3 ∧ c3 ≤ 1000000000) ∧ (0 ≤ c2 ∧ c2 ≤ c3) ∧ (c1 = 0 → c2 = 0) ∧ (if c1 = 3 then 1 ≤ c4 ∧ c4 ≤ 1000000000 else c4 = 0 ∧ c5 = false) := by
  unfold connOk at h
  exact of_decide_eq_true h

theorem sIn (a b c : Int) : spec_l01In.f a b c = some (decide (b ≤ a ∧ a ≤ c)) := by
  unfold spec_l01In.f; by_cases h : b ≤ a <;> simp [h]

theorem sTick (a : Int) : spec_TickOk.f a = some (decide (0 ≤ a ∧ a ≤ 1000000000)) := by unfold spec_TickOk.f; rw [sIn]; rfl

theorem sConnOk (k : Nat) (a b c d e : Int) (f : Bool) : spec_ConnOk.f (k + 2) a b c d e f = some (connOk a b c d e f) := by
  unfold spec_ConnOk.f connOk
  simp only [sTick, sIn, Option.bind_some, spec_ConnOk.j0, spec_ConnOk.j1]
  by_cases h1 : 1 ≤ a ∧ a ≤ 1000000000
  · by_cases h2 : 0 ≤ b ∧ b ≤ 4
    · by_cases h3 : 0 ≤ d ∧ d ≤ 1000000000
      · by_cases h4 : 0 ≤ c ∧ c ≤ d
        · by_cases h5 : b = 0
          · subst h5
            by_cases h6 : c = 0 <;> by_cases h7 : e = 0 <;> cases f <;> simp [h1, h3, h4, h6, h7]
          · by_cases h6 : b = 3
            · subst h6
              simp [h1, h3, h4]
            · by_cases h7 : e = 0 <;> cases f <;> simp [h1, h2, h3, h4, h5, h6, h7]
        · simp [h1, h2, h3, h4]
      · simp [h1, h2, h3]
    · simp [h1, h2]
  · simp [h1]
theorem sConnOk_ev (a b c d e : Int) (f : Bool) : Ev (fun k => spec_ConnOk.f k a b c d e f) (connOk a b c d e f) := Ev.at2 (fun k => sConnOk k a b c d e f)

theorem sTo (s e : Int) (k : Nat) : spec_l08To.f (k + 1) s e = some (tgt s e) := by
  unfold spec_l08To.f tgt
  simp only [Option.bind_some, spec_l08To.j0, sIn]
  by_cases h7 : e = 7
  · subst h7
    by_cases h : s = 4 <;> simp [h]
  · rw [if_neg h7, if_neg h7]
    by_cases h0 : 0 ≤ e ∧ e ≤ 6
    · have : e = 0 ∨ e = 1 ∨ e = 2 ∨ e = 3 ∨ e = 4 ∨ e = 5 ∨ e = 6 := by omega
      rcases this with rfl | rfl | rfl | rfl | rfl | rfl | rfl
      · by_cases h : s = 0 <;> simp [rd, h, eq_comm]
      · by_cases h : s = 0 <;> simp [rd, h, eq_comm]
      · by_cases h : s = 1 <;> simp [rd, h, eq_comm]
      · by_cases h : s = 3 <;> simp [rd, h, eq_comm]
      · by_cases h : s = 1 <;> simp [rd, h, eq_comm]
      · by_cases h : s = 2 <;> simp [rd, h, eq_comm]
      · by_cases h : s = 2 <;> simp [rd, h, eq_comm]
    · have a0 : ¬ e = 0 := by omega
      have a1 : ¬ e = 1 := by omega
      have a2 : ¬ e = 2 := by omega
      have a3 : ¬ e = 3 := by omega
      have a4 : ¬ e = 4 := by omega
      have a5 : ¬ e = 5 := by omega
      have a6 : ¬ e = 6 := by omega
      simp [h0, a0, a1, a2, a3, a4, a5, a6]
theorem sTo_ev (s e : Int) : Ev (fun k => spec_l08To.f k s e) (tgt s e) := Ev.at1 (fun k => sTo s e k)
theorem sStepConn_j1 (c0 c1 c2 c3 c4 : Int) (c5 : Bool) (e now n t : Int) (b : Bool) : Ev (fun k => spec_StepConn.j1 k e now n t b c0 c1 c2 c3 c4 c5) (if b = true then (c0, c1, c2, c3, c4, c5, false) else (c0, t, if e = 0 then now else c2, now, if e = 2 then n else 0, false, true)) := by
  refine Ev.step (fun k => by rw [spec_StepConn.j1]) ?_
  cases b
  · refine Ev.neg (by simp) ?_
    by_cases h : e = 0
    · subst h; exact Ev.pos rfl (Ev.neg (by omega) (Ev.now _))
    · refine Ev.neg h ?_
      by_cases h2 : e = 2
      · subst h2; exact Ev.pos rfl (Ev.now _)
      · simp only [h, h2, if_false, Bool.false_eq_true]
        exact Ev.now _
  · exact Ev.pos rfl (Ev.now _)
theorem sStepConn_ev (c0 c1 c2 c3 c4 : Int) (c5 : Bool) (e now n : Int) : Ev (fun k => spec_StepConn.f k c0 c1 c2 c3 c4 c5 e now n) (stepConn c0 c1 c2 c3 c4 c5 e now n) := by
  have hj : ∀ (b : Bool), b = true → Ev (fun k => spec_StepConn.j0 k e now n b c0 c1 c2 c3 c4 c5) (c0, c1, c2, c3, c4, c5, false) := fun b h => Ev.step (fun k => by rw [spec_StepConn.j0]) (Ev.pos h (Ev.now _))
  unfold spec_StepConn.f stepConn
  refine Ev.bind' _ (sConnOk_ev c0 c1 c2 c3 c4 c5) ?_
  by_cases h1 : connOk c0 c1 c2 c3 c4 c5 = true
  case neg => rw [if_neg (fun e => h1 e.1)]; exact Ev.neg h1 (hj _ rfl)
  refine Ev.pos h1 (Ev.bind' _ (Ev.is fun _ => sIn now c3 1000000000) ?_)
  by_cases h2 : c3 ≤ now ∧ now ≤ 1000000000
  case neg => rw [if_neg (fun e => h2 e.2.1)]; exact hj _ (by simp [h2])
  refine Ev.step (fun k => by rw [spec_StepConn.j0]) (Ev.neg (by simp [h2]) ?_)
  refine Ev.bind' _ (sTo_ev c1 e) ?_
  by_cases h3 : tgt c1 e < 0
  · rw [if_neg (fun q => q.2.2 (.inl h3))]
    exact Ev.pos h3 (sStepConn_j1 c0 c1 c2 c3 c4 c5 e now n _ true)
  refine Ev.neg h3 ?_
  by_cases h4 : e = 2
  · refine Ev.pos h4 (Ev.bind' _ (Ev.is fun _ => sIn n 1 1000000000) ?_)
    have hk := sStepConn_j1 c0 c1 c2 c3 c4 c5 e now n (tgt c1 e) (!(decide (1 ≤ n ∧ n ≤ 1000000000)))
    by_cases h5 : 1 ≤ n ∧ n ≤ 1000000000
    · rw [if_pos ⟨h1, h2, fun q => q.elim h3 (fun z => z.2 h5)⟩]
      rw [if_neg (by simp [h5])] at hk
      exact hk
    · rw [if_neg (fun q => q.2.2 (.inr ⟨h4, h5⟩))]
      rw [if_pos (by simp [h5])] at hk
      exact hk
  · rw [if_pos ⟨h1, h2, fun q => q.elim h3 (fun z => h4 z.1)⟩]
    exact Ev.neg h4 (sStepConn_j1 c0 c1 c2 c3 c4 c5 e now n (tgt c1 e) false)

theorem iIn (a b c : Int) : impl_in.f a b c = some (decide (b ≤ a ∧ a ≤ c)) := by
  unfold impl_in.f; by_cases h : b ≤ a <;> simp [h]

theorem iTick (a : Int) : impl_TickOk.f a = some (decide (0 ≤ a ∧ a ≤ 1000000000)) := by unfold impl_TickOk.f; rw [iIn]; rfl

theorem iId (a : Int) : impl_isId.f a = some (decide (1 ≤ a ∧ a ≤ 1000000000)) := by unfold impl_isId.f; rw [iIn]; rfl

theorem iConnOk (k : Nat) (a b c d e : Int) (f : Bool) : impl_ConnOk.f (k + 1) a b c d e f = some (connOk a b c d e f) := by
  unfold impl_ConnOk.f connOk
  simp only [iTick, iIn, iId, Option.bind_some, impl_ConnOk.j0]
  by_cases h1 : 1 ≤ a ∧ a ≤ 1000000000
  · by_cases h2 : 0 ≤ b ∧ b ≤ 4
    · by_cases h3 : 0 ≤ d ∧ d ≤ 1000000000
      · by_cases h4 : 0 ≤ c ∧ c ≤ 1000000000
        · by_cases h8 : c ≤ d
          · have h9 : ¬ d < c := by omega
            by_cases h5 : b = 0
            · subst h5
              by_cases h6 : c = 0 <;> by_cases h7 : e = 0 <;> cases f <;> simp [h1, h3, h4, h6, h7, h8, h9]
            · by_cases h6 : b = 3
              · subst h6
                simp [h1, h3, h4, h8, h9]
              · by_cases h7 : e = 0 <;> cases f <;> simp [h1, h2, h3, h4, h5, h6, h7, h8, h9]
          · have h9 : d < c := by omega
            simp [h1, h2, h3, h4, h8, h9]
        · have h8 : ¬ (0 ≤ c ∧ c ≤ d) := by omega
          simp [h1, h2, h3, h4, h8]
      · by_cases h4 : 0 ≤ c ∧ c ≤ 1000000000 <;> simp [h1, h2, h3, h4]
    · simp [h1, h2]
  · simp [h1]
theorem iConnOk_ev (a b c d e : Int) (f : Bool) : Ev (fun k => impl_ConnOk.f k a b c d e f) (connOk a b c d e f) := Ev.at1 (fun k => iConnOk k a b c d e f)

theorem iStepConn_j2 (c0 c1 c2 c3 c4 : Int) (c5 : Bool) (e now n t : Int) (b : Bool) : Ev (fun k => impl_StepConn.j2 k e now n t b c0 c1 c2 c3 c4 c5) (if b = true then (c0, c1, c2, c3, c4, c5, false) else (c0, t, if e = 0 then now else c2, now, if e = 2 then n else 0, false, true)) := by
  refine Ev.step (fun k => by rw [impl_StepConn.j2]) ?_
  cases b
  · refine Ev.neg (by simp) ?_
    by_cases h : e = 0
    · subst h; exact Ev.pos rfl (Ev.neg (by omega) (Ev.now _))
    · refine Ev.neg h ?_
      by_cases h2 : e = 2
      · subst h2; exact Ev.pos rfl (Ev.now _)
      · simp only [h, h2, if_false, Bool.false_eq_true]
        exact Ev.now _
  · exact Ev.pos rfl (Ev.now _)
theorem iStepConn_j1 (c0 c1 c2 c3 c4 : Int) (c5 : Bool) (e now n f t : Int) : Ev (fun k => impl_StepConn.j1 k e now n f t c0 c1 c2 c3 c4 c5) (if f = c1 ∧ ¬ (e = 2 ∧ ¬ (1 ≤ n ∧ n ≤ 1000000000)) then (c0, t, if e = 0 then now else c2, now, if e = 2 then n else 0, false, true) else (c0, c1, c2, c3, c4, c5, false)) := by
  refine Ev.step (fun k => by rw [impl_StepConn.j1]) ?_
  by_cases h1 : f = c1
  · refine Ev.pos h1 ?_
    by_cases h2 : e = 2
    · refine Ev.pos h2 (Ev.bind' _ (Ev.is fun _ => iId n) ?_)
      have hk := iStepConn_j2 c0 c1 c2 c3 c4 c5 e now n t (!(decide (1 ≤ n ∧ n ≤ 1000000000)))
      by_cases h5 : 1 ≤ n ∧ n ≤ 1000000000
      · rw [if_pos ⟨h1, fun q => q.2 h5⟩]
        rw [if_neg (by simp [h5])] at hk
        exact hk
      · rw [if_neg (fun q => q.2 ⟨h2, h5⟩)]
        rw [if_pos (by simp [h5])] at hk
        exact hk
    · rw [if_pos ⟨h1, fun q => h2 q.1⟩]
      exact Ev.neg h2 (iStepConn_j2 c0 c1 c2 c3 c4 c5 e now n t false)
  · rw [if_neg (fun q => h1 q.1)]
    exact Ev.neg h1 (iStepConn_j2 c0 c1 c2 c3 c4 c5 e now n t true)
/-- The program's switch: from which state an event leads, and where. -/
def fromTo (s e : Int) : Int × Int := if e = 0 then (0, 1) else if e = 1 then (0, 4) else if e = 2 then (1, 3) else if e = 3 then (3, 1) else if e = 4 then (1, 2) else if e = 5 then (2, 1) else if e = 6 then (2, 4) else if e = 7 then (if s = 4 then (-1, -1) else (s, 4)) else (-1, -1)
theorem fromTo_tgt (s e : Int) (h0 : 0 ≤ s) (h4 : s ≤ 4) : ((fromTo s e).1 = s ↔ ¬ tgt s e < 0) ∧ ((fromTo s e).1 = s → (fromTo s e).2 = tgt s e) := by
  have hs : s = 0 ∨ s = 1 ∨ s = 2 ∨ s = 3 ∨ s = 4 := by omega
  by_cases he : 0 ≤ e ∧ e ≤ 7
  · have : e = 0 ∨ e = 1 ∨ e = 2 ∨ e = 3 ∨ e = 4 ∨ e = 5 ∨ e = 6 ∨ e = 7 := by omega
    rcases this with rfl | rfl | rfl | rfl | rfl | rfl | rfl | rfl <;> rcases hs with rfl | rfl | rfl | rfl | rfl <;> simp [fromTo, tgt]
  · have a0 : ¬ e = 0 := by omega
    have a1 : ¬ e = 1 := by omega
    have a2 : ¬ e = 2 := by omega
    have a3 : ¬ e = 3 := by omega
    have a4 : ¬ e = 4 := by omega
    have a5 : ¬ e = 5 := by omega
    have a6 : ¬ e = 6 := by omega
    have a7 : ¬ e = 7 := by omega
    have hn : ¬ -1 = s := by omega
    simp [fromTo, tgt, a0, a1, a2, a3, a4, a5, a6, a7, hn]
theorem iStepConn_sw (c0 c1 c2 c3 c4 : Int) (c5 : Bool) (e now n : Int) (r : Int × Int × Int × Int × Int × Bool × Bool) (h : Ev (fun k => impl_StepConn.j1 k e now n (fromTo c1 e).1 (fromTo c1 e).2 c0 c1 c2 c3 c4 c5) r) (b : Bool) (hb : b = false) : Ev (fun k => impl_StepConn.j0 k e now n b c0 c1 c2 c3 c4 c5) r := by
  subst hb
  refine Ev.step (fun k => by rw [impl_StepConn.j0]) (Ev.neg (by simp) ?_)
  unfold fromTo at h
  by_cases h0 : e = 0
  · rw [if_pos h0] at h; exact Ev.pos h0 h
  rw [if_neg h0] at h; refine Ev.neg h0 ?_
  by_cases h1 : e = 1
  · rw [if_pos h1] at h; exact Ev.pos h1 h
  rw [if_neg h1] at h; refine Ev.neg h1 ?_
  by_cases h2 : e = 2
  · rw [if_pos h2] at h; exact Ev.pos h2 h
  rw [if_neg h2] at h; refine Ev.neg h2 ?_
  by_cases h3 : e = 3
  · rw [if_pos h3] at h; exact Ev.pos h3 h
  rw [if_neg h3] at h; refine Ev.neg h3 ?_
  by_cases h4 : e = 4
  · rw [if_pos h4] at h; exact Ev.pos h4 h
  rw [if_neg h4] at h; refine Ev.neg h4 ?_
  by_cases h5 : e = 5
  · rw [if_pos h5] at h; exact Ev.pos h5 h
  rw [if_neg h5] at h; refine Ev.neg h5 ?_
  by_cases h6 : e = 6
  · rw [if_pos h6] at h; exact Ev.pos h6 h
  rw [if_neg h6] at h; refine Ev.neg h6 ?_
  by_cases h7 : e = 7
  · rw [if_pos h7] at h
    refine Ev.pos h7 ?_
    by_cases h8 : c1 = 4
    · rw [if_pos h8] at h; exact Ev.pos h8 h
    · rw [if_neg h8] at h; exact Ev.neg h8 h
  · rw [if_neg h7] at h; exact Ev.neg h7 h
theorem iStepConn_ev (c0 c1 c2 c3 c4 : Int) (c5 : Bool) (e now n : Int) : Ev (fun k => impl_StepConn.f k c0 c1 c2 c3 c4 c5 e now n) (stepConn c0 c1 c2 c3 c4 c5 e now n) := by
  have hj : ∀ (b : Bool), b = true → Ev (fun k => impl_StepConn.j0 k e now n b c0 c1 c2 c3 c4 c5) (c0, c1, c2, c3, c4, c5, false) := fun b h => Ev.step (fun k => by rw [impl_StepConn.j0]) (Ev.pos h (Ev.now _))
  unfold impl_StepConn.f stepConn
  refine Ev.bind' _ (iConnOk_ev c0 c1 c2 c3 c4 c5) ?_
  by_cases h1 : connOk c0 c1 c2 c3 c4 c5 = true
  case neg => rw [if_neg (fun e => h1 e.1)]; exact Ev.neg h1 (hj _ rfl)
  have hb := conn_bounds c0 c1 c2 c3 c4 c5 h1
  refine Ev.pos h1 (Ev.bind' _ (Ev.is fun _ => iTick now) ?_)
  by_cases h2 : 0 ≤ now ∧ now ≤ 1000000000
  case neg =>
    rw [if_neg (fun e => h2 ⟨by omega, e.2.1.2⟩)]
    exact Ev.neg (by simpa using h2) (hj _ rfl)
  refine Ev.pos (by simpa using h2) ?_
  by_cases h3 : now < c3
  · rw [if_neg (fun e => by omega)]
    exact hj _ (by simpa using h3)
  refine iStepConn_sw c0 c1 c2 c3 c4 c5 e now n _ ?_ _ (by simpa using h3)
  have hk := iStepConn_j1 c0 c1 c2 c3 c4 c5 e now n (fromTo c1 e).1 (fromTo c1 e).2
  obtain ⟨hf, ht⟩ := fromTo_tgt c1 e hb.2.1.1 hb.2.1.2
  by_cases h4 : (fromTo c1 e).1 = c1 ∧ ¬ (e = 2 ∧ ¬ (1 ≤ n ∧ n ≤ 1000000000))
  · rw [if_pos ⟨h1, ⟨by omega, h2.2⟩, fun q => q.elim (fun z => hf.1 h4.1 z) h4.2⟩]
    rw [if_pos h4, ht h4.1] at hk
    rw [ht h4.1]
    exact hk
  · rw [if_neg (fun q => h4 ⟨hf.2 (fun z => q.2.2 (.inl z)), fun z => q.2.2 (.inr z)⟩)]
    rw [if_neg h4] at hk
    exact hk

theorem eqConn_same (a b c d e : Int) (f : Bool) : laws_eqConn.f a b c d e f a b c d e f = some true := by simp [laws_eqConn.f]

theorem FnExactStepConn : ∀ (c0 c1 c2 c3 c4 : Int) (c5 : Bool) (e now n : Int), (Lit.int .i64 c0).wf = true → (Lit.int .i64 c1).wf = true → (Lit.int .i64 c2).wf = true → (Lit.int .i64 c3).wf = true → (Lit.int .i64 c4).wf = true →  (Lit.int .i64 e).wf = true → (Lit.int .i64 now).wf = true → (Lit.int .i64 n).wf = true → ∃ k, laws_FnExactStepConn.f k c0 c1 c2 c3 c4 c5 e now n = some true := by
  intro c0 c1 c2 c3 c4 c5 e now n _ _ _ _ _ _ _ _
  refine Ev.rounds (r := true) ?_
  unfold laws_FnExactStepConn.f laws_toConn.f
  refine Ev.some' ?_
  refine Ev.bind' _ (sStepConn_ev c0 c1 c2 c3 c4 c5 e now n) ?_
  refine Ev.some' ?_
  refine Ev.bind' _ (iStepConn_ev c0 c1 c2 c3 c4 c5 e now n) ?_
  refine Ev.bind' true (Ev.is fun _ => eqConn_same _ _ _ _ _ _) ?_
  exact Ev.pos rfl (Ev.neg (by simp) (Ev.now _))

end Go.Proofs.Ytpckdemamlhpdaa.Pure
