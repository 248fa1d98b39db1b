/-
For every number and list of events the program's PlayConn and the reference's PlayConn answer alike, in memory of their own, and the events are left as they were (the printed law answers true). The events are any rows that slices can hold.
-/
import Derived.Test.YthafbkpoepblgadMFnExactPlayConnx8
namespace Go.Proofs.Ythafbkpoepblgad.Pure
open Go.RowKit Go.Proofs.Ythafbkpoepblgad.MFnExactPlayConn Go.Proofs.YthafbkpoepblgadW.PrintWords Go.Proofs.YthafbkpoepblgadW.PrintLast Go.Proofs.YthafbkpoepblgadW.PrintMore 
set_option linter.unusedVariables false
set_option linter.unusedSimpArgs false

theorem w64 {n : Int} (h0 : -9223372036854775808 ≤ n) (h1 : n ≤ 9223372036854775807) : wrap64 n = n := by unfold wrap64; omega
theorem wsucc (i : Nat) (h : i < 9223372036854775807) : wrap64 ((i : Int) + 1) = ((i + 1 : Nat) : Int) := by rw [w64 (by omega) (by omega)]; omega
theorem rd_nat (xs : List Int) (i : Nat) (h : i < xs.length) : rd xs (i : Int) = xs[i] := by simp [rd, h]
theorem rdOf_nat {α : Type} (d : α) (xs : List α) (i : Nat) (h : i < xs.length) : rdOf d xs (i : Int) = xs[i] := by simp [rdOf, h]
theorem Ev.pos {α : Type} {c : Prop} [Decidable c] {A B : Nat → Option α} {r : α} (h : c) (e : Ev A r) : Ev (fun k => if c then A k else B k) r := Ev.congr (fun _ => if_pos h) e
theorem Ev.neg {α : Type} {c : Prop} [Decidable c] {A B : Nat → Option α} {r : α} (h : ¬ c) (e : Ev B r) : Ev (fun k => if c then A k else B k) r := Ev.congr (fun _ => if_neg h) e
theorem Ev.bind' {α β : Type} {g : Nat → Option α} {f : Nat → α → Option β} {r : β} (a : α) (h : Ev g a) (k : Ev (fun n => f n a) r) : Ev (fun n => (g n).bind (f n)) r := Ev.bind h k
theorem Ev.some' {α β : Type} {a : α} {f : Nat → α → Option β} {r : β} (k : Ev (fun n => f n a) r) : Ev (fun n => (Option.some a).bind (f n)) r := Ev.bind (Ev.now a) k
theorem Ev.is {α : Type} {g : Nat → Option α} {r : α} (h : ∀ k, g k = some r) : Ev g r := ⟨0, fun k _ => h k⟩
theorem Ev.at1 {α : Type} {g : Nat → Option α} {r : α} (h : ∀ k, g (k + 1) = some r) : Ev g r := ⟨1, fun k hk => by obtain ⟨m, rfl⟩ : ∃ m, k = m + 1 := ⟨k - 1, by omega⟩; exact h m⟩
theorem Ev.at2 {α : Type} {g : Nat → Option α} {r : α} (h : ∀ k, g (k + 2) = some r) : Ev g r := ⟨2, fun k hk => by obtain ⟨m, rfl⟩ : ∃ m, k = m + 2 := ⟨k - 2, by omega⟩; exact h m⟩
theorem Ev.at3 {α : Type} {g : Nat → Option α} {r : α} (h : ∀ k, g (k + 3) = some r) : Ev g r := ⟨3, fun k hk => by obtain ⟨m, rfl⟩ : ∃ m, k = m + 3 := ⟨k - 3, by omega⟩; exact h m⟩
/-- What a loop over a list comes to: a state, a step that goes on or answers, an end. -/
def runE {α σ ρ : Type} (step : Nat → σ → α → Except ρ σ) (fin : σ → ρ) : Nat → List α → σ → ρ
  | _, [], s => fin s
  | i, x :: xs, s => match step i s x with
    | .error r => r
    | .ok s' => runE step fin (i + 1) xs s'
/-- A loop over a list, round by round (from K rounds on). -/
theorem loop_run {α σ ρ : Type} (xs : List α) (L : Nat → σ → Int → Option ρ) (step : Nat → σ → α → Except ρ σ) (fin : σ → ρ) (K : Nat)
    (hs : ∀ k, K ≤ k → ∀ s (i : Nat) (h : i < xs.length), L (k + 1) s i = match step i s xs[i] with | .error r => some r | .ok s' => L k s' ((i + 1 : Nat) : Int))
    (he : ∀ k s, L (k + 1) s (xs.length : Int) = some (fin s)) :
    ∀ (d k : Nat) (s : σ) (i : Nat), i ≤ xs.length → xs.length - i = d → d + K < k → L k s (i : Int) = some (runE step fin i (xs.drop i) s) := by
  intro d
  induction d with
  | zero =>
    intro k s i hi hd hk
    obtain ⟨k, rfl⟩ : ∃ m, k = m + 1 := ⟨k - 1, by omega⟩
    obtain rfl : i = xs.length := by omega
    rw [he, List.drop_length, runE]
  | succ d ih =>
    intro k s i hi hd hk
    obtain ⟨k, rfl⟩ : ∃ m, k = m + 1 := ⟨k - 1, by omega⟩
    have hlt : i < xs.length := by omega
    rw [hs k (by omega) s i hlt, List.drop_eq_getElem_cons hlt, runE]
    cases step i s xs[i] with
    | error r => rfl
    | ok s' => exact ih k s' (i + 1) (by omega) (by omega) (by omega)
/-- The same, from the start. -/
theorem loop_ev {α σ ρ : Type} (xs : List α) (L : Nat → σ → Int → Option ρ) (step : Nat → σ → α → Except ρ σ) (fin : σ → ρ) (K : Nat)
    (hs : ∀ k, K ≤ k → ∀ s (i : Nat) (h : i < xs.length), L (k + 1) s i = match step i s xs[i] with | .error r => some r | .ok s' => L k s' ((i + 1 : Nat) : Int))
    (he : ∀ k s, L (k + 1) s (xs.length : Int) = some (fin s)) (s : σ) : Ev (fun k => L k s 0) (runE step fin 0 xs s) :=
  ⟨xs.length + K + 1, fun k hk => by have := loop_run xs L step fin K hs he xs.length k s 0 (by omega) (by omega) (by omega); simpa using this⟩
theorem wf_b {n : Int} (h : (Lit.int .i64 n).wf = true) : -9223372036854775808 ≤ n ∧ n ≤ 9223372036854775807 := by
  simp [Lit.wf, IntKind.min, IntKind.max, IntKind.signed, IntKind.bits] at h
  omega
theorem Ev.ite {α : Type} {c : Prop} [Decidable c] {A B : Nat → Option α} {a b : α} (h1 : c → Ev A a) (h2 : ¬ c → Ev B b) : Ev (fun k => if c then A k else B k) (if c then a else b) := by
  by_cases h : c
  · rw [if_pos h]; exact Ev.pos h (h1 h)
  · rw [if_neg h]; exact Ev.neg h (h2 h)

def connOk (a b c d e : Int) (f : Bool) : Bool := decide ((1 ≤ a ∧ a ≤ 1000000000) ∧ (0 ≤ b ∧ b ≤ 4) ∧ (0 ≤ d ∧ d ≤ 1000000000) ∧ (0 ≤ c ∧ c ≤ d) ∧ (b = 0 → c = 0) ∧ (if b = 3 then 1 ≤ e ∧ e ≤ 1000000000 else e = 0 ∧ f = false))

def tgt (s e : Int) : Int := if e = 7 then (if s = 4 then -1 else 4) else if e = 0 then (if s = 0 then 1 else -1) else if e = 1 then (if s = 0 then 4 else -1) else if e = 2 then (if s = 1 then 3 else -1) else if e = 3 then (if s = 3 then 1 else -1) else if e = 4 then (if s = 1 then 2 else -1) else if e = 5 then (if s = 2 then 1 else -1) else if e = 6 then (if s = 2 then 4 else -1) else -1
def stepped (c0 c1 c2 c3 c4 : Int) (c5 : Bool) (e now n : Int) : Int × Int × Int × Int × Int × Bool × Bool := (c0, tgt c1 e, if e = 0 then now else c2, now, if e = 2 then n else 0, false, true)
def stepConn (c0 c1 c2 c3 c4 : Int) (c5 : Bool) (e now n : Int) : Int × Int × Int × Int × Int × Bool × Bool := if connOk c0 c1 c2 c3 c4 c5 = true ∧ (c3 ≤ now ∧ now ≤ 1000000000) ∧ ¬ (tgt c1 e < 0 ∨ (e = 2 ∧ ¬ (1 ≤ n ∧ n ≤ 1000000000))) then stepped c0 c1 c2 c3 c4 c5 e now n else (c0, c1, c2, c3, c4, c5, false)
theorem conn_bounds (c0 c1 c2 c3 c4 : Int) (c5 : Bool) (h : connOk c0 c1 c2 c3 c4 c5 = true) : (1 ≤ c0 ∧ c0 ≤ 1000000000) ∧ (0 ≤ c1 ∧ c1 ≤ 4) ∧ (0 ≤ c3 ∧ c3 ≤ 1000000000) ∧ (0 ≤ c2 ∧ c2 ≤ c3) ∧ (c1 = 0 → c2 = 0) ∧ (if c1 = 3 then 1 ≤ c4 ∧ c4 ≤ 1000000000 else c4 = 0 ∧ c5 = false) := by
  unfold connOk at h
  exact of_decide_eq_true h

theorem sIn (a b c : Int) : spec_l01In.f a b c = some (decide (b ≤ a ∧ a ≤ c)) := by
  unfold spec_l01In.f; by_cases h : b ≤ a <;> simp [h]

theorem sTick (a : Int) : spec_TickOk.f a = some (decide (0 ≤ a ∧ a ≤ 1000000000)) := by unfold spec_TickOk.f; rw [sIn]; rfl

theorem sConnOk (k : Nat) (a b c d e : Int) (f : Bool) : spec_ConnOk.f (k + 2) a b c d e f = some (connOk a b c d e f) := by
  unfold spec_ConnOk.f connOk
  simp only [sTick, sIn, Option.bind_some, spec_ConnOk.j0, spec_ConnOk.j1]
  by_cases h1 : 1 ≤ a ∧ a ≤ 1000000000
  · by_cases h2 : 0 ≤ b ∧ b ≤ 4
    · by_cases h3 : 0 ≤ d ∧ d ≤ 1000000000
      · by_cases h4 : 0 ≤ c ∧ c ≤ d
        · by_cases h5 : b = 0
          · subst h5
            by_cases h6 : c = 0 <;> by_cases h7 : e = 0 <;> cases f <;> simp [h1, h3, h4, h6, h7]
          · by_cases h6 : b = 3
            · subst h6
              simp [h1, h3, h4]
            · by_cases h7 : e = 0 <;> cases f <;> simp [h1, h2, h3, h4, h5, h6, h7]
        · simp [h1, h2, h3, h4]
      · simp [h1, h2, h3]
    · simp [h1, h2]
  · simp [h1]
theorem sConnOk_ev (a b c d e : Int) (f : Bool) : Ev (fun k => spec_ConnOk.f k a b c d e f) (connOk a b c d e f) := Ev.at2 (fun k => sConnOk k a b c d e f)

theorem iIn (a b c : Int) : impl_in.f a b c = some (decide (b ≤ a ∧ a ≤ c)) := by
  unfold impl_in.f; by_cases h : b ≤ a <;> simp [h]

theorem iTick (a : Int) : impl_TickOk.f a = some (decide (0 ≤ a ∧ a ≤ 1000000000)) := by unfold impl_TickOk.f; rw [iIn]; rfl

theorem iId (a : Int) : impl_isId.f a = some (decide (1 ≤ a ∧ a ≤ 1000000000)) := by unfold impl_isId.f; rw [iIn]; rfl

theorem iConnOk (k : Nat) (a b c d e : Int) (f : Bool) : impl_ConnOk.f (k + 1) a b c d e f = some (connOk a b c d e f) := by
  unfold impl_ConnOk.f connOk
  simp only [iTick, iIn, iId, Option.bind_some, impl_ConnOk.j0]
  by_cases h1 : 1 ≤ a ∧ a ≤ 1000000000
  · by_cases h2 : 0 ≤ b ∧ b ≤ 4
    · by_cases h3 : 0 ≤ d ∧ d ≤ 1000000000
      · by_cases h4 : 0 ≤ c ∧ c ≤ 1000000000
        · by_cases h8 : c ≤ d
          · have h9 : ¬ d < c := by omega
            by_cases h5 : b = 0
            · subst h5
              by_cases h6 : c = 0 <;> by_cases h7 : e = 0 <;> cases f <;> simp [h1, h3, h4, h6, h7, h8, h9]
            · by_cases h6 : b = 3
              · subst h6
                simp [h1, h3, h4, h8, h9]
              · by_cases h7 : e = 0 <;> cases f <;> simp [h1, h2, h3, h4, h5, h6, h7, h8, h9]
          · have h9 : d < c := by omega
            simp [h1, h2, h3, h4, h8, h9]
        · have h8 : ¬ (0 ≤ c ∧ c ≤ d) := by omega
          simp [h1, h2, h3, h4, h8]
      · by_cases h4 : 0 ≤ c ∧ c ≤ 1000000000 <;> simp [h1, h2, h3, h4]
    · simp [h1, h2]
  · simp [h1]
theorem iConnOk_ev (a b c d e : Int) (f : Bool) : Ev (fun k => impl_ConnOk.f k a b c d e f) (connOk a b c d e f) := Ev.at1 (fun k => iConnOk k a b c d e f)



def newConn (a b : Int) : Int × Int × Int × Int × Int × Bool × Bool := if connOk a 0 0 b 0 false = true then (a, 0, 0, b, 0, false, true) else (0, 0, 0, 0, 0, false, false)
theorem sNewConn_ev (a b : Int) : Ev (fun k => spec_NewConn.f k a b) (newConn a b) := by
  unfold spec_NewConn.f newConn
  refine Ev.bind' _ (sConnOk_ev a 0 0 b 0 false) ?_
  by_cases h : connOk a 0 0 b 0 false = true
  · simp only [h, if_true]; exact Ev.now _
  · simp only [h, if_false]; exact Ev.now _
theorem iNewConn_ev (a b : Int) : Ev (fun k => impl_NewConn.f k a b) (newConn a b) := by
  unfold impl_NewConn.f newConn
  refine Ev.bind' _ (iConnOk_ev a 0 0 b 0 false) ?_
  by_cases h : connOk a 0 0 b 0 false = true
  · simp only [h, if_true]; exact Ev.now _
  · simp only [h, if_false]; exact Ev.now _

/-- A connection, as its six fields. -/
abbrev Cn := Int × Int × Int × Int × Int × Bool
def goStep (c : Cn) (ev : List Int) : Int × Int × Int × Int × Int × Bool × Bool := if ev.length = 3 then stepConn c.1 c.2.1 c.2.2.1 c.2.2.2.1 c.2.2.2.2.1 c.2.2.2.2.2 (rd ev 0) (rd ev 1) (rd ev 2) else (c.1, c.2.1, c.2.2.1, c.2.2.2.1, c.2.2.2.2.1, c.2.2.2.2.2, false)
def cnOf (r : Int × Int × Int × Int × Int × Bool × Bool) : Cn := (r.1, r.2.1, r.2.2.1, r.2.2.2.1, r.2.2.2.2.1, r.2.2.2.2.2.1)
def playGo : List (List Int) → Cn → List Int → Int × Int × Int × Int × Int × Bool × List Int
  | [], c, out => (c.1, c.2.1, c.2.2.1, c.2.2.2.1, c.2.2.2.2.1, c.2.2.2.2.2, out)
  | ev :: evs, c, out => playGo evs (cnOf (goStep c ev)) (out ++ [if (goStep c ev).2.2.2.2.2.2 = true then 1 else 0])
def playConn (id : Int) (evs : List (List Int)) : Int × Int × Int × Int × Int × Bool × List Int := if (newConn id 0).2.2.2.2.2.2 = true ∧ evs.length ≤ 300 then playGo evs (cnOf (newConn id 0)) [] else (0, 0, 0, 0, 0, false, [])
theorem rdL (l : List (List Int)) (i : Nat) (h : i < l.length) : rd_L1 l (i : Int) = l[i] := by simp [rd_L1, h]
theorem playGo_len : ∀ (evs : List (List Int)) (c : Cn) (out : List Int), (playGo evs c out).2.2.2.2.2.2.length = out.length + evs.length
  | [], _, _ => rfl
  | ev :: evs, c, out => by
    rw [playGo, playGo_len evs]
    simp
    omega
theorem playConn_len (id : Int) (evs : List (List Int)) : (playConn id evs).2.2.2.2.2.2.length ≤ 300 := by
  unfold playConn
  split
  · rw [playGo_len]; simp; omega
  · simp

theorem sTo (s e : Int) (k : Nat) : spec_l08To.f (k + 1) s e = some (tgt s e) := by
  unfold spec_l08To.f tgt
  simp only [Option.bind_some, spec_l08To.j0, sIn]
  by_cases h7 : e = 7
  · subst h7
    by_cases h : s = 4 <;> simp [h]
  · rw [if_neg h7, if_neg h7]
    by_cases h0 : 0 ≤ e ∧ e ≤ 6
    · have : e = 0 ∨ e = 1 ∨ e = 2 ∨ e = 3 ∨ e = 4 ∨ e = 5 ∨ e = 6 := by omega
      rcases this with rfl | rfl | rfl | rfl | rfl | rfl | rfl
      · by_cases h : s = 0 <;> simp [rd, h, eq_comm]
      · by_cases h : s = 0 <;> simp [rd, h, eq_comm]
      · by_cases h : s = 1 <;> simp [rd, h, eq_comm]
      · by_cases h : s = 3 <;> simp [rd, h, eq_comm]
      · by_cases h : s = 1 <;> simp [rd, h, eq_comm]
      · by_cases h : s = 2 <;> simp [rd, h, eq_comm]
      · by_cases h : s = 2 <;> simp [rd, h, eq_comm]
    · have a0 : ¬ e = 0 := by omega
      have a1 : ¬ e = 1 := by omega
      have a2 : ¬ e = 2 := by omega
      have a3 : ¬ e = 3 := by omega
      have a4 : ¬ e = 4 := by omega
      have a5 : ¬ e = 5 := by omega
      have a6 : ¬ e = 6 := by omega
      simp [h0, a0, a1, a2, a3, a4, a5, a6]
theorem sTo_ev (s e : Int) : Ev (fun k => spec_l08To.f k s e) (tgt s e) := Ev.at1 (fun k => sTo s e k)
theorem sStepConn_j1 (c0 c1 c2 c3 c4 : Int) (c5 : Bool) (e now n t : Int) (b : Bool) : Ev (fun k => spec_StepConn.j1 k e now n t b c0 c1 c2 c3 c4 c5) (if b = true then (c0, c1, c2, c3, c4, c5, false) else (c0, t, if e = 0 then now else c2, now, if e = 2 then n else 0, false, true)) := by
  refine Ev.step (fun k => by rw [spec_StepConn.j1]) ?_
  cases b
  · refine Ev.neg (by simp) ?_
    by_cases h : e = 0
    · subst h; exact Ev.pos rfl (Ev.neg (by omega) (Ev.now _))
    · refine Ev.neg h ?_
      by_cases h2 : e = 2
      · subst h2; exact Ev.pos rfl (Ev.now _)
      · simp only [h, h2, if_false, Bool.false_eq_true]
        exact Ev.now _
  · exact Ev.pos rfl (Ev.now _)
theorem sStepConn_ev (c0 c1 c2 c3 c4 : Int) (c5 : Bool) (e now n : Int) : Ev (fun k => spec_StepConn.f k c0 c1 c2 c3 c4 c5 e now n) (stepConn c0 c1 c2 c3 c4 c5 e now n) := by
  have hj : ∀ (b : Bool), b = true → Ev (fun k => spec_StepConn.j0 k e now n b c0 c1 c2 c3 c4 c5) (c0, c1, c2, c3, c4, c5, false) := fun b h => Ev.step (fun k => by rw [spec_StepConn.j0]) (Ev.pos h (Ev.now _))
  unfold spec_StepConn.f stepConn
  refine Ev.bind' _ (sConnOk_ev c0 c1 c2 c3 c4 c5) ?_
  by_cases h1 : connOk c0 c1 c2 c3 c4 c5 = true
  case neg => rw [if_neg (fun e => h1 e.1)]; exact Ev.neg h1 (hj _ rfl)
  refine Ev.pos h1 (Ev.bind' _ (Ev.is fun _ => sIn now c3 1000000000) ?_)
  by_cases h2 : c3 ≤ now ∧ now ≤ 1000000000
  case neg => rw [if_neg (fun e => h2 e.2.1)]; exact hj _ (by simp [h2])
  refine Ev.step (fun k => by rw [spec_StepConn.j0]) (Ev.neg (by simp [h2]) ?_)
  refine Ev.bind' _ (sTo_ev c1 e) ?_
  by_cases h3 : tgt c1 e < 0
  · rw [if_neg (fun q => q.2.2 (.inl h3))]
    exact Ev.pos h3 (sStepConn_j1 c0 c1 c2 c3 c4 c5 e now n _ true)
  refine Ev.neg h3 ?_
  by_cases h4 : e = 2
  · refine Ev.pos h4 (Ev.bind' _ (Ev.is fun _ => sIn n 1 1000000000) ?_)
    have hk := sStepConn_j1 c0 c1 c2 c3 c4 c5 e now n (tgt c1 e) (!(decide (1 ≤ n ∧ n ≤ 1000000000)))
    by_cases h5 : 1 ≤ n ∧ n ≤ 1000000000
    · rw [if_pos ⟨h1, h2, fun q => q.elim h3 (fun z => z.2 h5)⟩]
      rw [if_neg (by simp [h5])] at hk
      exact hk
    · rw [if_neg (fun q => q.2.2 (.inr ⟨h4, h5⟩))]
      rw [if_pos (by simp [h5])] at hk
      exact hk
  · rw [if_pos ⟨h1, h2, fun q => q.elim h3 (fun z => h4 z.1)⟩]
    exact Ev.neg h4 (sStepConn_j1 c0 c1 c2 c3 c4 c5 e now n (tgt c1 e) false)

theorem sPlayConn_l0 (evs : List (List Int)) (hn : evs.length ≤ 300) : ∀ (d i : Nat) (c : Cn) (out : List Int), i + d = evs.length → out.length = i → Ev (fun k => spec_PlayConn.l0 k evs out (i : Int) c.1 c.2.1 c.2.2.1 c.2.2.2.1 c.2.2.2.2.1 c.2.2.2.2.2) (playGo (evs.drop i) c out) := by
  intro d
  induction d with
  | zero =>
    intro i c out hi ho
    obtain rfl : i = evs.length := by omega
    refine Ev.step (fun k => by rw [spec_PlayConn.l0]) ?_
    rw [List.drop_length, playGo]
    exact Ev.neg (by omega) (Ev.now _)
  | succ d ih =>
    intro i c out hi ho
    refine Ev.step (fun k => by rw [spec_PlayConn.l0]) ?_
    rw [List.drop_eq_getElem_cons (by omega), playGo, rdL evs i (by omega), wsucc i (by omega)]
    refine Ev.pos (by omega) (Ev.pos (by omega) ?_)
    by_cases h3 : (evs[i]'(by omega)).length = 3
    · have hg : goStep c (evs[i]'(by omega)) = stepConn c.1 c.2.1 c.2.2.1 c.2.2.2.1 c.2.2.2.2.1 c.2.2.2.2.2 (rd (evs[i]'(by omega)) 0) (rd (evs[i]'(by omega)) 1) (rd (evs[i]'(by omega)) 2) := by unfold goStep; rw [if_pos h3]
      refine Ev.pos (by omega) (Ev.pos (by omega) (Ev.pos (by omega) (Ev.pos (by omega) (Ev.bind' _ (sStepConn_ev _ _ _ _ _ _ _ _ _) ?_))))
      rw [← hg]
      by_cases h : (goStep c (evs[i]'(by omega))).2.2.2.2.2.2 = true
      · rw [if_pos h]
        exact Ev.pos h (Ev.pos (by omega) (ih (i + 1) (cnOf (goStep c (evs[i]'(by omega)))) (out ++ [1]) (by omega) (by simp [ho])))
      · rw [if_neg h]
        exact Ev.neg h (Ev.pos (by omega) (ih (i + 1) (cnOf (goStep c (evs[i]'(by omega)))) (out ++ [0]) (by omega) (by simp [ho])))
    · have hg : goStep c (evs[i]'(by omega)) = (c.1, c.2.1, c.2.2.1, c.2.2.2.1, c.2.2.2.2.1, c.2.2.2.2.2, false) := by unfold goStep; rw [if_neg h3]
      rw [hg]
      exact Ev.neg (by omega) (Ev.pos (by omega) (ih (i + 1) c (out ++ [0]) (by omega) (by simp [ho])))
theorem sPlayConn_ev (id : Int) (evs : List (List Int)) : Ev (fun k => spec_PlayConn.f k id evs) (playConn id evs) := by
  unfold spec_PlayConn.f playConn
  have hj : ∀ (b : Bool) (a1 a2 a3 a4 a5 : Int) (a6 : Bool), b = true → Ev (fun k => spec_PlayConn.j0 k evs b a1 a2 a3 a4 a5 a6) (0, 0, 0, 0, 0, false, []) := fun b _ _ _ _ _ _ hb => by
    refine Ev.step (fun k => by rw [spec_PlayConn.j0]) ?_
    exact Ev.pos hb (Ev.now _)
  refine Ev.bind' _ (sNewConn_ev id 0) ?_
  by_cases h : (newConn id 0).2.2.2.2.2.2 = true
  · refine Ev.pos h ?_
    by_cases hn : evs.length ≤ 300
    · rw [if_pos ⟨h, hn⟩]
      refine Ev.step (fun k => by rw [spec_PlayConn.j0]) (Ev.neg (by simp; omega) ?_)
      exact sPlayConn_l0 evs hn evs.length 0 (cnOf (newConn id 0)) [] (by omega) rfl
    · rw [if_neg (fun e => hn e.2)]
      exact hj _ _ _ _ _ _ _ (by simp; omega)
  · rw [if_neg (fun e => h e.1)]
    exact Ev.neg h (hj _ _ _ _ _ _ _ rfl)

theorem iStepConn_j2 (c0 c1 c2 c3 c4 : Int) (c5 : Bool) (e now n t : Int) (b : Bool) : Ev (fun k => impl_StepConn.j2 k e now n t b c0 c1 c2 c3 c4 c5) (if b = true then (c0, c1, c2, c3, c4, c5, false) else (c0, t, if e = 0 then now else c2, now, if e = 2 then n else 0, false, true)) := by
  refine Ev.step (fun k => by rw [impl_StepConn.j2]) ?_
  cases b
  · refine Ev.neg (by simp) ?_
    by_cases h : e = 0
    · subst h; exact Ev.pos rfl (Ev.neg (by omega) (Ev.now _))
    · refine Ev.neg h ?_
      by_cases h2 : e = 2
      · subst h2; exact Ev.pos rfl (Ev.now _)
      · simp only [h, h2, if_false, Bool.false_eq_true]
        exact Ev.now _
  · exact Ev.pos rfl (Ev.now _)
theorem iStepConn_j1 (c0 c1 c2 c3 c4 : Int) (c5 : Bool) (e now n f t : Int) : Ev (fun k => impl_StepConn.j1 k e now n f t c0 c1 c2 c3 c4 c5) (if f = c1 ∧ ¬ (e = 2 ∧ ¬ (1 ≤ n ∧ n ≤ 1000000000)) then (c0, t, if e = 0 then now else c2, now, if e = 2 then n else 0, false, true) else (c0, c1, c2, c3, c4, c5, false)) := by
  refine Ev.step (fun k => by rw [impl_StepConn.j1]) ?_
  by_cases h1 : f = c1
  · refine Ev.pos h1 ?_
    by_cases h2 : e = 2
    · refine Ev.pos h2 (Ev.bind' _ (Ev.is fun _ => iId n) ?_)
      have hk := iStepConn_j2 c0 c1 c2 c3 c4 c5 e now n t (!(decide (1 ≤ n ∧ n ≤ 1000000000)))
      by_cases h5 : 1 ≤ n ∧ n ≤ 1000000000
      · rw [if_pos ⟨h1, fun q => q.2 h5⟩]
        rw [if_neg (by simp [h5])] at hk
        exact hk
      · rw [if_neg (fun q => q.2 ⟨h2, h5⟩)]
        rw [if_pos (by simp [h5])] at hk
        exact hk
    · rw [if_pos ⟨h1, fun q => h2 q.1⟩]
      exact Ev.neg h2 (iStepConn_j2 c0 c1 c2 c3 c4 c5 e now n t false)
  · rw [if_neg (fun q => h1 q.1)]
    exact Ev.neg h1 (iStepConn_j2 c0 c1 c2 c3 c4 c5 e now n t true)
/-- The program's switch: from which state an event leads, and where. -/
def fromTo (s e : Int) : Int × Int := if e = 0 then (0, 1) else if e = 1 then (0, 4) else if e = 2 then (1, 3) else if e = 3 then (3, 1) else if e = 4 then (1, 2) else if e = 5 then (2, 1) else if e = 6 then (2, 4) else if e = 7 then (if s = 4 then (-1, -1) else (s, 4)) else (-1, -1)
theorem fromTo_tgt (s e : Int) (h0 : 0 ≤ s) (h4 : s ≤ 4) : ((fromTo s e).1 = s ↔ ¬ tgt s e < 0) ∧ ((fromTo s e).1 = s → (fromTo s e).2 = tgt s e) := by
  have hs : s = 0 ∨ s = 1 ∨ s = 2 ∨ s = 3 ∨ s = 4 := by omega
  by_cases he : 0 ≤ e ∧ e ≤ 7
  · have : e = 0 ∨ e = 1 ∨ e = 2 ∨ e = 3 ∨ e = 4 ∨ e = 5 ∨ e = 6 ∨ e = 7 := by omega
    rcases this with rfl | rfl | rfl | rfl | rfl | rfl | rfl | rfl <;> rcases hs with rfl | rfl | rfl | rfl | rfl <;> simp [fromTo, tgt]
  · have a0 : ¬ e = 0 := by omega
    have a1 : ¬ e = 1 := by omega
    have a2 : ¬ e = 2 := by omega
    have a3 : ¬ e = 3 := by omega
    have a4 : ¬ e = 4 := by omega
    have a5 : ¬ e = 5 := by omega
    have a6 : ¬ e = 6 := by omega
    have a7 : ¬ e = 7 := by omega
    have hn : ¬ -1 = s := by omega
    simp [fromTo, tgt, a0, a1, a2, a3, a4, a5, a6, a7, hn]
theorem iStepConn_sw (c0 c1 c2 c3 c4 : Int) (c5 : Bool) (e now n : Int) (r : Int × Int × Int × Int × Int × Bool × Bool) (h : Ev (fun k => impl_StepConn.j1 k e now n (fromTo c1 e).1 (fromTo c1 e).2 c0 c1 c2 c3 c4 c5) r) (b : Bool) (hb : b = false) : Ev (fun k => impl_StepConn.j0 k e now n b c0 c1 c2 c3 c4 c5) r := by
  subst hb
  refine Ev.step (fun k => by rw [impl_StepConn.j0]) (Ev.neg (by simp) ?_)
  unfold fromTo at h
  by_cases h0 : e = 0
  · rw [if_pos h0] at h; exact Ev.pos h0 h
  rw [if_neg h0] at h; refine Ev.neg h0 ?_
  by_cases h1 : e = 1
  · rw [if_pos h1] at h; exact Ev.pos h1 h
  rw [if_neg h1] at h; refine Ev.neg h1 ?_
  by_cases h2 : e = 2
  · rw [if_pos h2] at h; exact Ev.pos h2 h
  rw [if_neg h2] at h; refine Ev.neg h2 ?_
  by_cases h3 : e = 3
  · rw [if_pos h3] at h; exact Ev.pos h3 h
  rw [if_neg h3] at h; refine Ev.neg h3 ?_
  by_cases h4 : e = 4
  · rw [if_pos h4] at h; exact Ev.pos h4 h
  rw [if_neg h4] at h; refine Ev.neg h4 ?_
  by_cases h5 : e = 5
  · rw [if_pos h5] at h; exact Ev.pos h5 h
  rw [if_neg h5] at h; refine Ev.neg h5 ?_
  by_cases h6 : e = 6
  · rw [if_pos h6] at h; exact Ev.pos h6 h
  rw [if_neg h6] at h; refine Ev.neg h6 ?_
  by_cases h7 : e = 7
  · rw [if_pos h7] at h
    refine Ev.pos h7 ?_
    by_cases h8 : c1 = 4
    · rw [if_pos h8] at h; exact Ev.pos h8 h
    · rw [if_neg h8] at h; exact Ev.neg h8 h
  · rw [if_neg h7] at h; exact Ev.neg h7 h
theorem iStepConn_ev (c0 c1 c2 c3 c4 : Int) (c5 : Bool) (e now n : Int) : Ev (fun k => impl_StepConn.f k c0 c1 c2 c3 c4 c5 e now n) (stepConn c0 c1 c2 c3 c4 c5 e now n) := by
  have hj : ∀ (b : Bool), b = true → Ev (fun k => impl_StepConn.j0 k e now n b c0 c1 c2 c3 c4 c5) (c0, c1, c2, c3, c4, c5, false) := fun b h => Ev.step (fun k => by rw [impl_StepConn.j0]) (Ev.pos h (Ev.now _))
  unfold impl_StepConn.f stepConn
  refine Ev.bind' _ (iConnOk_ev c0 c1 c2 c3 c4 c5) ?_
  by_cases h1 : connOk c0 c1 c2 c3 c4 c5 = true
  case neg => rw [if_neg (fun e => h1 e.1)]; exact Ev.neg h1 (hj _ rfl)
  have hb := conn_bounds c0 c1 c2 c3 c4 c5 h1
  refine Ev.pos h1 (Ev.bind' _ (Ev.is fun _ => iTick now) ?_)
  by_cases h2 : 0 ≤ now ∧ now ≤ 1000000000
  case neg =>
    rw [if_neg (fun e => h2 ⟨by omega, e.2.1.2⟩)]
    exact Ev.neg (by simpa using h2) (hj _ rfl)
  refine Ev.pos (by simpa using h2) ?_
  by_cases h3 : now < c3
  · rw [if_neg (fun e => by omega)]
    exact hj _ (by simpa using h3)
  refine iStepConn_sw c0 c1 c2 c3 c4 c5 e now n _ ?_ _ (by simpa using h3)
  have hk := iStepConn_j1 c0 c1 c2 c3 c4 c5 e now n (fromTo c1 e).1 (fromTo c1 e).2
  obtain ⟨hf, ht⟩ := fromTo_tgt c1 e hb.2.1.1 hb.2.1.2
  by_cases h4 : (fromTo c1 e).1 = c1 ∧ ¬ (e = 2 ∧ ¬ (1 ≤ n ∧ n ≤ 1000000000))
  · rw [if_pos ⟨h1, ⟨by omega, h2.2⟩, fun q => q.elim (fun z => hf.1 h4.1 z) h4.2⟩]
    rw [if_pos h4, ht h4.1] at hk
    rw [ht h4.1]
    exact hk
  · rw [if_neg (fun q => h4 ⟨hf.2 (fun z => q.2.2 (.inl z)), fun z => q.2.2 (.inr z)⟩)]
    rw [if_neg h4] at hk
    exact hk

theorem iFlag (b : Bool) : impl_flag.f b = some (if b = true then 1 else 0) := by
  unfold impl_flag.f
  split <;> rfl
theorem iPlayConn_l0 (evs : List (List Int)) (hn : evs.length ≤ 300) : ∀ (d i : Nat) (c : Cn) (out : List Int), i + d = evs.length → out.length = i → Ev (fun k => impl_PlayConn.l0 k out evs (evs.length : Int) (i : Int) c.1 c.2.1 c.2.2.1 c.2.2.2.1 c.2.2.2.2.1 c.2.2.2.2.2) (playGo (evs.drop i) c out) := by
  intro d
  induction d with
  | zero =>
    intro i c out hi ho
    obtain rfl : i = evs.length := by omega
    refine Ev.step (fun k => by rw [impl_PlayConn.l0]) ?_
    rw [List.drop_length, playGo]
    exact Ev.neg (by omega) (Ev.now _)
  | succ d ih =>
    intro i c out hi ho
    refine Ev.step (fun k => by rw [impl_PlayConn.l0]) ?_
    rw [List.drop_eq_getElem_cons (by omega), playGo, rdL evs i (by omega), wsucc i (by omega)]
    refine Ev.pos (by omega) (Ev.pos (by omega) (Ev.pos (by omega) ?_))
    by_cases h3 : (evs[i]'(by omega)).length = 3
    · have hg : goStep c (evs[i]'(by omega)) = stepConn c.1 c.2.1 c.2.2.1 c.2.2.2.1 c.2.2.2.2.1 c.2.2.2.2.2 (rd (evs[i]'(by omega)) 0) (rd (evs[i]'(by omega)) 1) (rd (evs[i]'(by omega)) 2) := by unfold goStep; rw [if_pos h3]
      refine Ev.pos (by omega) (Ev.pos (by omega) (Ev.pos (by omega) (Ev.pos (by omega) (Ev.bind' _ (iStepConn_ev _ _ _ _ _ _ _ _ _) ?_))))
      rw [← hg]
      refine Ev.bind' _ (Ev.is fun _ => iFlag _) (Ev.pos (by omega) ?_)
      exact ih (i + 1) (cnOf (goStep c (evs[i]'(by omega)))) _ (by omega) (by simp [ho])
    · have hg : goStep c (evs[i]'(by omega)) = (c.1, c.2.1, c.2.2.1, c.2.2.2.1, c.2.2.2.2.1, c.2.2.2.2.2, false) := by unfold goStep; rw [if_neg h3]
      rw [hg]
      refine Ev.neg (by omega) (Ev.bind' _ (Ev.is fun _ => iFlag _) (Ev.pos (by omega) ?_))
      exact ih (i + 1) c (out ++ [0]) (by omega) (by simp [ho])
theorem iPlayConn_ev (id : Int) (evs : List (List Int)) : Ev (fun k => impl_PlayConn.f k id evs) (playConn id evs) := by
  unfold impl_PlayConn.f playConn
  have hj : ∀ (b : Bool) (a1 a2 a3 a4 a5 : Int) (a6 : Bool), b = true → Ev (fun k => impl_PlayConn.j0 k evs b a1 a2 a3 a4 a5 a6) (0, 0, 0, 0, 0, false, []) := fun b _ _ _ _ _ _ hb => by
    refine Ev.step (fun k => by rw [impl_PlayConn.j0]) ?_
    exact Ev.pos hb (Ev.now _)
  refine Ev.bind' _ (iNewConn_ev id 0) ?_
  by_cases h : (newConn id 0).2.2.2.2.2.2 = true
  · refine Ev.pos h ?_
    by_cases hn : evs.length ≤ 300
    · rw [if_pos ⟨h, hn⟩]
      refine Ev.step (fun k => by rw [impl_PlayConn.j0]) (Ev.neg (by simp; omega) ?_)
      exact iPlayConn_l0 evs hn evs.length 0 (cnOf (newConn id 0)) [] (by omega) rfl
    · rw [if_neg (fun e => hn e.2)]
      exact hj _ _ _ _ _ _ _ (by simp; omega)
  · rw [if_neg (fun e => h e.1)]
    exact Ev.neg h (hj _ _ _ _ _ _ _ rfl)

theorem toIntS_ev (l : List Int) (hl : l.length ≤ 1048576) : Ev (fun k => laws_toIntS.f k l) l := by
  have key : ∀ (d k : Nat) (i : Nat) (acc : List Int), i ≤ l.length → l.length - i = d → d < k → acc.length = l.length → laws_toIntS.l0 k l acc (i : Int) = some (acc.take i ++ l.drop i) := by
    intro d
    induction d with
    | zero =>
      intro k i acc hi hd hk ha
      obtain ⟨k, rfl⟩ : ∃ m, k = m + 1 := ⟨k - 1, by omega⟩
      obtain rfl : i = l.length := by omega
      simp only [laws_toIntS.l0]
      rw [if_neg (by omega), List.drop_length, ← ha, List.take_length, List.append_nil]
    | succ d ih =>
      intro k i acc hi hd hk ha
      obtain ⟨k, rfl⟩ : ∃ m, k = m + 1 := ⟨k - 1, by omega⟩
      simp only [laws_toIntS.l0]
      rw [if_pos (by omega), if_pos (by omega), if_pos (by omega), wsucc i (by omega), rd_nat l i (by omega), Int.toNat_natCast, ih k (i + 1) _ (by omega) (by omega) (by omega) (by rw [List.length_set, ha])]
      congr 1
      rw [List.take_succ_eq_append_getElem (by rw [List.length_set]; omega), List.getElem_set_self, List.take_set_of_le (Nat.le_refl _), List.append_assoc, List.singleton_append, ← List.drop_eq_getElem_cons (by omega)]
  refine ⟨l.length + 1, fun k hk => (?_ : laws_toIntS.f k l = some l)⟩
  unfold laws_toIntS.f
  rw [if_pos (by omega), if_pos (by omega), Int.toNat_natCast]
  have := key l.length k 0 (List.replicate l.length 0) (by omega) (by omega) (by omega) (by simp)
  simpa using this

theorem eqIntS_run (l r : List Int) (hl : l.length = r.length) (hb : l.length ≤ 1048577) : ∀ (d k i : Nat), i ≤ l.length → l.length - i = d → d < k → laws_eqIntS.l0 k l r (i : Int) = some (decide (l.drop i = r.drop i)) := by
  intro d
  induction d with
  | zero =>
    intro k i hi hd hk
    obtain ⟨k, rfl⟩ : ∃ m, k = m + 1 := ⟨k - 1, by omega⟩
    obtain rfl : i = l.length := by omega
    simp only [laws_eqIntS.l0]
    rw [if_neg (by omega), List.drop_length, hl, List.drop_length]
    rfl
  | succ d ih =>
    intro k i hi hd hk
    obtain ⟨k, rfl⟩ : ∃ m, k = m + 1 := ⟨k - 1, by omega⟩
    simp only [laws_eqIntS.l0]
    rw [if_pos (by omega), if_pos (by omega), if_pos (by omega), rd_nat l i (by omega), rd_nat r i (by omega), wsucc i (by omega), List.drop_eq_getElem_cons (show i < l.length by omega), List.drop_eq_getElem_cons (show i < r.length by omega)]
    by_cases h : l[i] = r[i]
    · rw [if_pos h, ih k (i + 1) (by omega) (by omega) (by omega)]
      simp only [List.cons.injEq, h, true_and]
    · rw [if_neg h]
      simp only [List.cons.injEq, h, false_and, decide_false]
theorem eqIntS_ev (l r : List Int) (hb : l.length ≤ 1048577) : Ev (fun k => laws_eqIntS.f k l r) (decide (l = r)) := by
  unfold laws_eqIntS.f
  by_cases h : l.length = r.length
  · refine Ev.pos (by omega) ⟨l.length + 1, fun k hk => ?_⟩
    have := eqIntS_run l r h hb l.length k 0 (by omega) (by omega) (by omega)
    simpa using this
  · refine Ev.neg (by omega) (Ev.is fun _ => ?_)
    rw [decide_eq_false (fun e => h (by rw [e]))]

def marks : Int → Nat → List Int
  | _, 0 => []
  | m, n + 1 => m :: marks (m + 1) n
theorem marks_length : ∀ (n : Nat) (m : Int), (marks m n).length = n
  | 0, _ => rfl
  | n + 1, m => by rw [marks, List.length_cons, marks_length n]
theorem markIntS_ev (l : List Int) (m : Int) (hm : 0 ≤ m) (hm2 : m ≤ 4611686018427387904) (hl : l.length ≤ 1048577) : Ev (fun k => laws_markIntS.f k l m) (m + l.length, marks m l.length) := by
  have key : ∀ (d k i : Nat) (m : Int) (acc : List Int), i ≤ l.length → l.length - i = d → d < k → acc.length = l.length → 0 ≤ m → m + d ≤ 4611686018428436481 → laws_markIntS.l0 k acc m (i : Int) = some (m + d, acc.take i ++ marks m d) := by
    intro d
    induction d with
    | zero =>
      intro k i m acc hi hd hk ha h0 h1
      obtain ⟨k, rfl⟩ : ∃ m, k = m + 1 := ⟨k - 1, by omega⟩
      simp only [laws_markIntS.l0]
      rw [if_neg (by omega), List.take_of_length_le (by omega), marks, List.append_nil]
      simp
    | succ d ih =>
      intro k i m acc hi hd hk ha h0 h1
      obtain ⟨k, rfl⟩ : ∃ m, k = m + 1 := ⟨k - 1, by omega⟩
      simp only [laws_markIntS.l0]
      rw [if_pos (by omega), if_pos (by omega), wsucc i (by omega), w64 (by omega) (by omega), Int.toNat_natCast, ih k (i + 1) (m + 1) _ (by omega) (by omega) (by omega) (by rw [List.length_set, ha]) (by omega) (by omega)]
      rw [List.take_succ_eq_append_getElem (by rw [List.length_set]; omega), List.getElem_set_self, List.take_set_of_le (Nat.le_refl _), List.append_assoc, List.singleton_append, marks]
      congr 2
      omega
  refine ⟨l.length + 1, fun k hk => (?_ : laws_markIntS.f k l m = _)⟩
  unfold laws_markIntS.f
  have := key l.length k 0 m l (by omega) (by omega) (by omega) rfl hm (by omega)
  simpa using this
theorem heldIntS_ev (n : Nat) (m : Int) (hm : 0 ≤ m) (hm2 : m ≤ 4611686018427387904) (hn : n ≤ 1048577) : Ev (fun k => laws_heldIntS.f k (marks m n) m) (m + n) := by
  have key : ∀ (l : List Int), l.length ≤ 1048577 → ∀ (d k i : Nat) (m : Int), i ≤ l.length → l.length - i = d → d < k → l.drop i = marks m d → 0 ≤ m → m + d ≤ 4611686018428436481 → laws_heldIntS.l0 k l m (i : Int) = some (m + d) := by
    intro l hl d
    induction d with
    | zero =>
      intro k i m hi hd hk hs h0 h1
      obtain ⟨k, rfl⟩ : ∃ m, k = m + 1 := ⟨k - 1, by omega⟩
      simp only [laws_heldIntS.l0]
      rw [if_neg (by omega)]
      simp
    | succ d ih =>
      intro k i m hi hd hk hs h0 h1
      obtain ⟨k, rfl⟩ : ∃ m, k = m + 1 := ⟨k - 1, by omega⟩
      rw [List.drop_eq_getElem_cons (by omega), marks, List.cons.injEq] at hs
      simp only [laws_heldIntS.l0]
      rw [if_pos (by omega), if_pos (by omega), rd_nat l i (by omega), if_pos hs.1, wsucc i (by omega), w64 (by omega) (by omega), ih k (i + 1) (m + 1) (by omega) (by omega) (by omega) hs.2 (by omega) (by omega)]
      congr 1
      omega
  refine ⟨n + 1, fun k hk => (?_ : laws_heldIntS.f k (marks m n) m = _)⟩
  unfold laws_heldIntS.f
  exact key (marks m n) (by rw [marks_length]; exact hn) n k 0 m (by omega) (by rw [marks_length]; omega) (by omega) rfl hm (by omega)

def tot : List (List Int) → Nat
  | [] => 0
  | e :: es => e.length + tot es
theorem tot_drop : ∀ (l : List (List Int)) (i : Nat) (h : i < l.length), tot (l.drop i) = (l[i]).length + tot (l.drop (i + 1)) := fun l i h => by rw [List.drop_eq_getElem_cons h, tot]
theorem tot_mem : ∀ (l : List (List Int)) (e : List Int), e ∈ l → e.length ≤ tot l
  | x :: xs, e, h => by
    rw [tot]
    rcases List.mem_cons.1 h with rfl | h
    · omega
    · have := tot_mem xs e h; omega
theorem szIntSS_tells (l : List (List Int)) (hn : l.length ≤ 9223372036854775807) (hm : ∀ e ∈ l, e.length ≤ 9223372036854775807) : ∃ r, Ev (fun k => laws_szIntSS.f k l 1048576) r ∧ (¬ r < 0 → l.length + tot l ≤ 1048576) := by
  unfold laws_szIntSS.f
  have e0 : wrap64 (1048576 - (l.length : Int)) = 1048576 - l.length := w64 (by omega) (by omega)
  by_cases h : wrap64 (1048576 - (l.length : Int)) < 0
  · exact ⟨-1, Ev.pos h (Ev.now _), fun h2 => absurd h2 (by omega)⟩
  have key : ∀ (d i : Nat) (left : Int), i + d = l.length → 0 ≤ left → left ≤ 1048576 → ∃ r, Ev (fun k => laws_szIntSS.l0 k l left (i : Int)) r ∧ (¬ r < 0 → (tot (l.drop i) : Int) ≤ left) := by
    intro d
    induction d with
    | zero =>
      intro i left hi h0 h1
      obtain rfl : i = l.length := by omega
      refine ⟨left, Ev.at1 fun k => by rw [laws_szIntSS.l0, if_neg (by omega)], fun _ => ?_⟩
      rw [List.drop_length, tot]; exact h0
    | succ d ih =>
      intro i left hi h0 h1
      have hlt : i < l.length := by omega
      have hx := hm _ (List.getElem_mem hlt)
      have e1 : wrap64 (left - ((l[i]).length : Int)) = left - (l[i]).length := w64 (by omega) (by omega)
      rw [tot_drop l i hlt]
      by_cases h2 : left - ((l[i]).length : Int) < 0
      · refine ⟨-1, Ev.step (fun k => by rw [laws_szIntSS.l0]) ?_, fun h3 => absurd h3 (by omega)⟩
        refine Ev.pos (by omega) (Ev.pos (by omega) (Ev.bind' (-1) (Ev.is fun k => ?_) (Ev.pos (by omega) (Ev.now _))))
        rw [rdL l i hlt, laws_szIntS.f, e1, if_pos h2]
      · obtain ⟨r, hr, hk⟩ := ih (i + 1) (left - (l[i]).length) (by omega) (by omega) (by omega)
        refine ⟨r, Ev.step (fun k => by rw [laws_szIntSS.l0]) ?_, fun h3 => by have := hk h3; omega⟩
        refine Ev.pos (by omega) (Ev.pos (by omega) (Ev.bind' (left - (l[i]).length) (Ev.is fun k => ?_) (Ev.neg h2 ?_)))
        · rw [rdL l i hlt, laws_szIntS.f, e1, if_neg h2]
        · rw [wsucc i (by omega)]; exact hr
  obtain ⟨r, hr, hk⟩ := key l.length 0 (1048576 - l.length) (by omega) (by omega) (by omega)
  refine ⟨r, Ev.neg h ?_, fun h3 => ?_⟩
  · rw [e0]; exact hr
  · have := hk h3; rw [List.drop_zero] at this; omega
theorem toIntSS_ev (l : List (List Int)) (hn : l.length ≤ 1048576) (hm : ∀ e ∈ l, e.length ≤ 1048576) : Ev (fun k => laws_toIntSS.f k l) l := by
  have key : ∀ (d i : Nat) (acc : List (List Int)), i + d = l.length → acc.length = l.length → Ev (fun k => laws_toIntSS.l0 k l acc (i : Int)) (acc.take i ++ l.drop i) := by
    intro d
    induction d with
    | zero =>
      intro i acc hi ha
      obtain rfl : i = l.length := by omega
      refine Ev.at1 fun k => ?_
      rw [laws_toIntSS.l0, if_neg (by omega), List.drop_length, ← ha, List.take_length, List.append_nil]
    | succ d ih =>
      intro i acc hi ha
      have hlt : i < l.length := by omega
      refine Ev.step (fun k => by rw [laws_toIntSS.l0]) ?_
      rw [rdL l i hlt]
      refine Ev.pos (by omega) (Ev.pos (by omega) (Ev.bind' _ (toIntS_ev _ (hm _ (List.getElem_mem hlt))) (Ev.pos (by omega) ?_)))
      rw [wsucc i (by omega), Int.toNat_natCast]
      have := ih (i + 1) (acc.set i l[i]) (by omega) (by rw [List.length_set, ha])
      rw [List.take_succ_eq_append_getElem (by rw [List.length_set]; omega), List.getElem_set_self, List.take_set_of_le (Nat.le_refl _), List.append_assoc, List.singleton_append, ← List.drop_eq_getElem_cons hlt] at this
      exact this
  unfold laws_toIntSS.f
  refine Ev.pos (by omega) (Ev.pos (by omega) ?_)
  rw [Int.toNat_natCast]
  have := key l.length 0 (List.replicate l.length []) (by omega) (by simp)
  simpa using this
theorem eqIntSS_ev (l : List (List Int)) (hn : l.length ≤ 1048576) (hm : ∀ e ∈ l, e.length ≤ 1048576) : Ev (fun k => laws_eqIntSS.f k l l) true := by
  have key : ∀ (d i : Nat), i + d = l.length → Ev (fun k => laws_eqIntSS.l0 k l l (i : Int)) true := by
    intro d
    induction d with
    | zero =>
      intro i hi
      refine Ev.at1 fun k => ?_
      rw [laws_eqIntSS.l0, if_neg (by omega)]
    | succ d ih =>
      intro i hi
      have hlt : i < l.length := by omega
      refine Ev.step (fun k => by rw [laws_eqIntSS.l0]) ?_
      rw [rdL l i hlt]
      have hx := hm _ (List.getElem_mem hlt)
      refine Ev.pos (by omega) (Ev.pos (by omega) (Ev.pos (by omega) (Ev.bind' _ (eqIntS_ev _ _ (by omega)) (Ev.pos (by simp) ?_))))
      rw [wsucc i (by omega)]
      exact ih (i + 1) (by omega)
  unfold laws_eqIntSS.f
  exact Ev.pos rfl (key l.length 0 (by omega))
theorem markIntSS_ev (l : List (List Int)) (hn : l.length ≤ 1048576) (hm : tot l ≤ 1048576) : Ev (fun k => laws_markIntSS.f k l 1) (1 + (tot l : Int)) := by
  have key : ∀ (d i : Nat) (m : Int), i + d = l.length → 0 ≤ m → m + tot (l.drop i) ≤ 4611686018427387904 → Ev (fun k => laws_markIntSS.l0 k l m (i : Int)) (m + tot (l.drop i)) := by
    intro d
    induction d with
    | zero =>
      intro i m hi h0 h1
      obtain rfl : i = l.length := by omega
      refine Ev.at1 fun k => ?_
      rw [laws_markIntSS.l0, if_neg (by omega), List.drop_length, tot]; simp
    | succ d ih =>
      intro i m hi h0 h1
      have hlt : i < l.length := by omega
      rw [tot_drop l i hlt] at h1 ⊢
      refine Ev.step (fun k => by rw [laws_markIntSS.l0]) ?_
      rw [rdL l i hlt, wsucc i (by omega), w64 (by omega) (by omega)]
      refine Ev.pos (by omega) (Ev.pos (by omega) ?_)
      have := ih (i + 1) (m + (l[i]).length) (by omega) (by omega) (by omega)
      rw [show m + (((l[i]).length + tot (l.drop (i + 1)) : Nat) : Int) = m + ((l[i]).length : Int) + (tot (l.drop (i + 1)) : Int) by omega]
      exact this
  unfold laws_markIntSS.f
  have := key l.length 0 1 (by omega) (by omega) (by rw [List.drop_zero]; omega)
  rw [List.drop_zero] at this
  exact this
theorem FnExactPlayConn : ∀ (id : Int) (evs : List (List Int)), (Lit.int .i64 id).wf = true → evs.length ≤ 9223372036854775807 → (∀ e ∈ evs, e.length ≤ 9223372036854775807) → ∃ k, laws_FnExactPlayConn.f k id evs = some true := by
  intro id evs _ hn hm
  refine Ev.rounds (r := true) ?_
  unfold laws_FnExactPlayConn.f
  obtain ⟨r0, h0, hk⟩ := szIntSS_tells evs hn hm
  refine Ev.bind' _ h0 ?_
  by_cases hneg : r0 < 0
  · exact Ev.pos hneg (Ev.now _)
  have hb := hk hneg
  have hm' : ∀ e ∈ evs, e.length ≤ 1048576 := fun e he => by have := tot_mem evs e he; omega
  have hto := toIntSS_ev evs (by omega) hm'
  have hl := playConn_len id evs
  refine Ev.neg hneg ?_
  refine Ev.bind' _ hto ?_
  refine Ev.bind' _ (sPlayConn_ev id evs) ?_
  refine Ev.bind' _ hto ?_
  refine Ev.bind' _ (iPlayConn_ev id evs) ?_
  have hq : ∀ c : Int × Int × Int × Int × Int × Bool × List Int, Ev (fun _ => laws_eqConn.f c.1 c.2.1 c.2.2.1 c.2.2.2.1 c.2.2.2.2.1 c.2.2.2.2.2.1 c.1 c.2.1 c.2.2.1 c.2.2.2.1 c.2.2.2.2.1 c.2.2.2.2.2.1) true := fun c => by
    unfold laws_eqConn.f
    exact Ev.pos rfl (Ev.pos rfl (Ev.pos rfl (Ev.pos rfl (Ev.pos rfl (Ev.neg (by simp) (Ev.now _))))))
  refine Ev.bind' _ (hq _) (Ev.pos rfl ?_)
  refine Ev.bind' _ (eqIntS_ev _ _ (by omega)) ?_
  rw [show (!decide ((playConn id evs).2.2.2.2.2.2 = (playConn id evs).2.2.2.2.2.2)) = false by simp]
  refine Ev.step (fun k => by rw [laws_FnExactPlayConn.j0]) (Ev.neg (by simp) ?_)
  refine Ev.bind' _ hto ?_
  refine Ev.bind' _ (eqIntSS_ev evs (by omega) hm') (Ev.pos rfl ?_)
  refine Ev.bind' _ (markIntSS_ev evs (by omega) (by omega)) (Ev.neg (by omega) ?_)
  refine Ev.bind' _ (hq _) (Ev.pos rfl ?_)
  refine Ev.bind' _ (eqIntS_ev _ _ (by omega)) ?_
  rw [show (!decide ((playConn id evs).2.2.2.2.2.2 = (playConn id evs).2.2.2.2.2.2)) = false by simp]
  refine Ev.step (fun k => by rw [laws_FnExactPlayConn.j1]) (Ev.neg (by simp) ?_)
  refine Ev.bind' _ (markIntS_ev _ 1 (by omega) (by omega) (by omega)) ?_
  refine Ev.bind' _ (heldIntS_ev _ 1 (by omega) (by omega) (by omega)) (Ev.neg (by omega) (Ev.pos rfl ?_))
  refine Ev.bind' _ hto ?_
  refine Ev.bind' _ (iPlayConn_ev id evs) ?_
  refine Ev.bind' _ (hq _) (Ev.pos rfl ?_)
  refine Ev.bind' _ (eqIntS_ev _ _ (by omega)) ?_
  rw [show (!decide ((playConn id evs).2.2.2.2.2.2 = (playConn id evs).2.2.2.2.2.2)) = false by simp]
  refine Ev.step (fun k => by rw [laws_FnExactPlayConn.j2]) (Ev.neg (by simp) ?_)
  exact Ev.bind' _ (heldIntS_ev _ 1 (by omega) (by omega) (by omega)) (Ev.neg (by omega) (Ev.pos rfl (Ev.now _)))

end Go.Proofs.Ythafbkpoepblgad.Pure
