/-
For all bytes: through drawn events the program's connection follows the reference's and stays ConnOk; behind closed nothing is taken; NextConnDue is the first tick at which something is due (the printed law answers true).
-/
import Derived.Test.YtpckdemamlhpdaaMFnConnsx14
namespace Go.Proofs.Ytpckdemamlhpdaa.Pure
open Go.RowKit Go.Proofs.Ytpckdemamlhpdaa.MFnConns Go.Proofs.YtpckdemamlhpdaaW.PrintWords Go.Proofs.YtpckdemamlhpdaaW.PrintLast Go.Proofs.YtpckdemamlhpdaaW.PrintMore 
set_option linter.unusedVariables false
set_option linter.unusedSimpArgs false

theorem w64 {n : Int} (h0 : -9223372036854775808 ≤ n) (h1 : n ≤ 9223372036854775807) : wrap64 n = n := by unfold wrap64; omega
theorem wsucc (i : Nat) (h : i < 9223372036854775807) : wrap64 ((i : Int) + 1) = ((i + 1 : Nat) : Int) := by rw [w64 (by omega) (by omega)]; omega
theorem rd_nat (xs : List Int) (i : Nat) (h : i < xs.length) : rd xs (i : Int) = xs[i] := by simp [rd, h]
theorem rdOf_nat {α : Type} (d : α) (xs : List α) (i : Nat) (h : i < xs.length) : rdOf d xs (i : Int) = xs[i] := by simp [rdOf, h]
theorem Ev.pos {α : Type} {c : Prop} [Decidable c] {A B : Nat → Option α} {r : α} (h : c) (e : Ev A r) : Ev (fun k => if c then A k else B k) r := Ev.congr (fun _ => if_pos h) e
theorem Ev.neg {α : Type} {c : Prop} [Decidable c] {A B : Nat → Option α} {r : α} (h : ¬ c) (e : Ev B r) : Ev (fun k => if c then A k else B k) r := Ev.congr (fun _ => if_neg h) e
theorem Ev.bind' {α β : Type} {g : Nat → Option α} {f : Nat → α → Option β} {r : β} (a : α) (h : Ev g a) (k : Ev (fun n => f n a) r) : Ev (fun n => (g n).bind (f n)) r := Ev.bind h k
theorem Ev.some' {α β : Type} {a : α} {f : Nat → α → Option β} {r : β} (k : Ev (fun n => f n a) r) : Ev (fun n => (Option.some a).bind (f n)) r := Ev.bind (Ev.now a) k
theorem Ev.is {α : Type} {g : Nat → Option α} {r : α} (h : ∀ k, g k = some r) : Ev g r := ⟨0, fun k _ => h k⟩
theorem Ev.at1 {α : Type} {g : Nat → Option α} {r : α} (h : ∀ k, g (k + 1) = some r) : Ev g r := ⟨1, fun k hk => by obtain ⟨m, rfl⟩ : ∃ m, k = m + 1 := ⟨k - 1, by omega⟩; exact h m⟩
theorem Ev.at2 {α : Type} {g : Nat → Option α} {r : α} (h : ∀ k, g (k + 2) = some r) : Ev g r := ⟨2, fun k hk => by obtain ⟨m, rfl⟩ : ∃ m, k = m + 2 := ⟨k - 2, by omega⟩; exact h m⟩
theorem Ev.at3 {α : Type} {g : Nat → Option α} {r : α} (h : ∀ k, g (k + 3) = some r) : Ev g r := ⟨3, fun k hk => by obtain ⟨m, rfl⟩ : ∃ m, k = m + 3 := ⟨k - 3, by omega⟩; exact h m⟩
/-- What a loop over a list comes to: a state, a step that goes on or answers, an end. -/
def runE {α σ ρ : Type} (step : Nat → σ → α → Except ρ σ) (fin : σ → ρ) : Nat → List α → σ → ρ
  | _, [], s => fin s
  | i, x :: xs, s => match step i s x with
    | .error r => r
    | .ok s' => runE step fin (i + 1) xs s'
/-- A loop over a list, round by round (from K rounds on). -/
theorem loop_run {α σ ρ : Type} (xs : List α) (L : Nat → σ → Int → Option ρ) (step : Nat → σ → α → Except ρ σ) (fin : σ → ρ) (K : Nat)
    (hs : ∀ k, K ≤ k → ∀ s (i : Nat) (h : i < xs.length), L (k + 1) s i = match step i s xs[i] with | .error r => some r | .ok s' => L k s' ((i + 1 : Nat) : Int))
    (he : ∀ k s, L (k + 1) s (xs.length : Int) = some (fin s)) :
    ∀ (d k : Nat) (s : σ) (i : Nat), i ≤ xs.length → xs.length - i = d → d + K < k → L k s (i : Int) = some (runE step fin i (xs.drop i) s) := by
  intro d
  induction d with
  | zero =>
    intro k s i hi hd hk
    obtain ⟨k, rfl⟩ : ∃ m, k = m + 1 := ⟨k - 1, by omega⟩
    obtain rfl : i = xs.length := by omega
    rw [he, List.drop_length, runE]
  | succ d ih =>
    intro k s i hi hd hk
    obtain ⟨k, rfl⟩ : ∃ m, k = m + 1 := ⟨k - 1, by omega⟩
    have hlt : i < xs.length := by omega
    rw [hs k (by omega) s i hlt, List.drop_eq_getElem_cons hlt, runE]
    cases step i s xs[i] with
    | error r => rfl
    | ok s' => exact ih k s' (i + 1) (by omega) (by omega) (by omega)
/-- The same, from the start. -/
theorem loop_ev {α σ ρ : Type} (xs : List α) (L : Nat → σ → Int → Option ρ) (step : Nat → σ → α → Except ρ σ) (fin : σ → ρ) (K : Nat)
    (hs : ∀ k, K ≤ k → ∀ s (i : Nat) (h : i < xs.length), L (k + 1) s i = match step i s xs[i] with | .error r => some r | .ok s' => L k s' ((i + 1 : Nat) : Int))
    (he : ∀ k s, L (k + 1) s (xs.length : Int) = some (fin s)) (s : σ) : Ev (fun k => L k s 0) (runE step fin 0 xs s) :=
  ⟨xs.length + K + 1, fun k hk => by have := loop_run xs L step fin K hs he xs.length k s 0 (by omega) (by omega) (by omega); simpa using this⟩
theorem wf_b {n : Int} (h : (Lit.int .i64 n).wf = true) : -9223372036854775808 ≤ n ∧ n ≤ 9223372036854775807 := by
  simp [Lit.wf, IntKind.min, IntKind.max, IntKind.signed, IntKind.bits] at h
  omega
theorem Ev.ite {α : Type} {c : Prop} [Decidable c] {A B : Nat → Option α} {a b : α} (h1 : c → Ev A a) (h2 : ¬ c → Ev B b) : Ev (fun k => if c then A k else B k) (if c then a else b) := by
  by_cases h : c
  · rw [if_pos h]; exact Ev.pos h (h1 h)
  · rw [if_neg h]; exact Ev.neg h (h2 h)

def connOk (a b c d e : Int) (f : Bool) : Bool := decide ((1 ≤ a ∧ a ≤ 1000000000) ∧ (0 ≤ b ∧ b ≤ 4) ∧ (0 ≤ d ∧ d ≤ 1000000000) ∧ (0 ≤ c ∧ c ≤ d) ∧ (b = 0 → c = 0) ∧ (if b = 3 then 1 ≤ e ∧ e ≤ 1000000000 else e = 0 ∧ f = false))

def tgt (s e : Int) : Int := if e = 7 then (if s = 4 then -1 else 4) else if e = 0 then (if s = 0 then 1 else -1) else if e = 1 then (if s = 0 then 4 else -1) else if e = 2 then (if s = 1 then 3 else -1) else if e = 3 then (if s = 3 then 1 else -1) else if e = 4 then (if s = 1 then 2 else -1) else if e = 5 then (if s = 2 then 1 else -1) else if e = 6 then (if s = 2 then 4 else -1) else -1
def stepped (c0 c1 c2 c3 c4 : Int) (c5 : Bool) (e now n : Int) : Int × Int × Int × Int × Int × Bool × Bool := (c0, tgt c1 e, if e = 0 then now else c2, now, if e = 2 then n else 0, false, true)
def stepConn (c0 c1 c2 c3 c4 : Int) (c5 : Bool) (e now n : Int) : Int × Int × Int × Int × Int × Bool × Bool := if connOk c0 c1 c2 c3 c4 c5 = true ∧ (c3 ≤ now ∧ now ≤ 1000000000) ∧ ¬ (tgt c1 e < 0 ∨ (e = 2 ∧ ¬ (1 ≤ n ∧ n ≤ 1000000000))) then stepped c0 c1 c2 c3 c4 c5 e now n else (c0, c1, c2, c3, c4, c5, false)
theorem conn_bounds (c0 c1 c2 c3 c4 : Int) (c5 : Bool) (h : connOk c0 c1 c2 c3 c4 c5 = true) : (1 ≤ c0 ∧ c0 ≤ 1000000000) ∧ (0 ≤ c1 ∧ c1 ≤ 4) ∧ (0 ≤ c3 ∧ c3 ≤ 1000000000) ∧ (0 ≤ c2 ∧ c2 ≤ c3) ∧ (c1 = 0 → c2 = 0) ∧ (if c1 = 3 then 1 ≤ c4 ∧ c4 ≤ 1000000000 else c4 = 0 ∧ c5 = false) := by
  unfold connOk at h
  exact of_decide_eq_true h

theorem sIn (a b c : Int) : spec_l01In.f a b c = some (decide (b ≤ a ∧ a ≤ c)) := by
  unfold spec_l01In.f; by_cases h : b ≤ a <;> simp [h]

theorem sTick (a : Int) : spec_TickOk.f a = some (decide (0 ≤ a ∧ a ≤ 1000000000)) := by unfold spec_TickOk.f; rw [sIn]; rfl

theorem sConnOk (k : Nat) (a b c d e : Int) (f : Bool) : spec_ConnOk.f (k + 2) a b c d e f = some (connOk a b c d e f) := by
  unfold spec_ConnOk.f connOk
  simp only [sTick, sIn, Option.bind_some, spec_ConnOk.j0, spec_ConnOk.j1]
  by_cases h1 : 1 ≤ a ∧ a ≤ 1000000000
  · by_cases h2 : 0 ≤ b ∧ b ≤ 4
    · by_cases h3 : 0 ≤ d ∧ d ≤ 1000000000
      · by_cases h4 : 0 ≤ c ∧ c ≤ d
        · by_cases h5 : b = 0
          · subst h5
            by_cases h6 : c = 0 <;> by_cases h7 : e = 0 <;> cases f <;> simp [h1, h3, h4, h6, h7]
          · by_cases h6 : b = 3
            · subst h6
              simp [h1, h3, h4]
            · by_cases h7 : e = 0 <;> cases f <;> simp [h1, h2, h3, h4, h5, h6, h7]
        · simp [h1, h2, h3, h4]
      · simp [h1, h2, h3]
    · simp [h1, h2]
  · simp [h1]
theorem sConnOk_ev (a b c d e : Int) (f : Bool) : Ev (fun k => spec_ConnOk.f k a b c d e f) (connOk a b c d e f) := Ev.at2 (fun k => sConnOk k a b c d e f)

theorem iIn (a b c : Int) : impl_in.f a b c = some (decide (b ≤ a ∧ a ≤ c)) := by
  unfold impl_in.f; by_cases h : b ≤ a <;> simp [h]

theorem iTick (a : Int) : impl_TickOk.f a = some (decide (0 ≤ a ∧ a ≤ 1000000000)) := by unfold impl_TickOk.f; rw [iIn]; rfl

theorem iId (a : Int) : impl_isId.f a = some (decide (1 ≤ a ∧ a ≤ 1000000000)) := by unfold impl_isId.f; rw [iIn]; rfl

theorem iConnOk (k : Nat) (a b c d e : Int) (f : Bool) : impl_ConnOk.f (k + 1) a b c d e f = some (connOk a b c d e f) := by
  unfold impl_ConnOk.f connOk
  simp only [iTick, iIn, iId, Option.bind_some, impl_ConnOk.j0]
  by_cases h1 : 1 ≤ a ∧ a ≤ 1000000000
  · by_cases h2 : 0 ≤ b ∧ b ≤ 4
    · by_cases h3 : 0 ≤ d ∧ d ≤ 1000000000
      · by_cases h4 : 0 ≤ c ∧ c ≤ 1000000000
        · by_cases h8 : c ≤ d
          · have h9 : ¬ d < c := by omega
            by_cases h5 : b = 0
            · subst h5
              by_cases h6 : c = 0 <;> by_cases h7 : e = 0 <;> cases f <;> simp [h1, h3, h4, h6, h7, h8, h9]
            · by_cases h6 : b = 3
              · subst h6
                simp [h1, h3, h4, h8, h9]
              · by_cases h7 : e = 0 <;> cases f <;> simp [h1, h2, h3, h4, h5, h6, h7, h8, h9]
          · have h9 : d < c := by omega
            simp [h1, h2, h3, h4, h8, h9]
        · have h8 : ¬ (0 ≤ c ∧ c ≤ d) := by omega
          simp [h1, h2, h3, h4, h8]
      · by_cases h4 : 0 ≤ c ∧ c ≤ 1000000000 <;> simp [h1, h2, h3, h4]
    · simp [h1, h2]
  · simp [h1]
theorem iConnOk_ev (a b c d e : Int) (f : Bool) : Ev (fun k => impl_ConnOk.f k a b c d e f) (connOk a b c d e f) := Ev.at1 (fun k => iConnOk k a b c d e f)



def newConn (a b : Int) : Int × Int × Int × Int × Int × Bool × Bool := if connOk a 0 0 b 0 false = true then (a, 0, 0, b, 0, false, true) else (0, 0, 0, 0, 0, false, false)
theorem sNewConn_ev (a b : Int) : Ev (fun k => spec_NewConn.f k a b) (newConn a b) := by
  unfold spec_NewConn.f newConn
  refine Ev.bind' _ (sConnOk_ev a 0 0 b 0 false) ?_
  by_cases h : connOk a 0 0 b 0 false = true
  · simp only [h, if_true]; exact Ev.now _
  · simp only [h, if_false]; exact Ev.now _
theorem iNewConn_ev (a b : Int) : Ev (fun k => impl_NewConn.f k a b) (newConn a b) := by
  unfold impl_NewConn.f newConn
  refine Ev.bind' _ (iConnOk_ev a 0 0 b 0 false) ?_
  by_cases h : connOk a 0 0 b 0 false = true
  · simp only [h, if_true]; exact Ev.now _
  · simp only [h, if_false]; exact Ev.now _

/-- A connection, as its six fields. -/
abbrev Cn := Int × Int × Int × Int × Int × Bool
def goStep (c : Cn) (ev : List Int) : Int × Int × Int × Int × Int × Bool × Bool := if ev.length = 3 then stepConn c.1 c.2.1 c.2.2.1 c.2.2.2.1 c.2.2.2.2.1 c.2.2.2.2.2 (rd ev 0) (rd ev 1) (rd ev 2) else (c.1, c.2.1, c.2.2.1, c.2.2.2.1, c.2.2.2.2.1, c.2.2.2.2.2, false)
def cnOf (r : Int × Int × Int × Int × Int × Bool × Bool) : Cn := (r.1, r.2.1, r.2.2.1, r.2.2.2.1, r.2.2.2.2.1, r.2.2.2.2.2.1)
def playGo : List (List Int) → Cn → List Int → Int × Int × Int × Int × Int × Bool × List Int
  | [], c, out => (c.1, c.2.1, c.2.2.1, c.2.2.2.1, c.2.2.2.2.1, c.2.2.2.2.2, out)
  | ev :: evs, c, out => playGo evs (cnOf (goStep c ev)) (out ++ [if (goStep c ev).2.2.2.2.2.2 = true then 1 else 0])
def playConn (id : Int) (evs : List (List Int)) : Int × Int × Int × Int × Int × Bool × List Int := if (newConn id 0).2.2.2.2.2.2 = true ∧ evs.length ≤ 300 then playGo evs (cnOf (newConn id 0)) [] else (0, 0, 0, 0, 0, false, [])
theorem rdL (l : List (List Int)) (i : Nat) (h : i < l.length) : rd_L1 l (i : Int) = l[i] := by simp [rd_L1, h]
theorem playGo_len : ∀ (evs : List (List Int)) (c : Cn) (out : List Int), (playGo evs c out).2.2.2.2.2.2.length = out.length + evs.length
  | [], _, _ => rfl
  | ev :: evs, c, out => by
    rw [playGo, playGo_len evs]
    simp
    omega
theorem playConn_len (id : Int) (evs : List (List Int)) : (playConn id evs).2.2.2.2.2.2.length ≤ 300 := by
  unfold playConn
  split
  · rw [playGo_len]; simp; omega
  · simp

theorem sTo (s e : Int) (k : Nat) : spec_l08To.f (k + 1) s e = some (tgt s e) := by
  unfold spec_l08To.f tgt
  simp only [Option.bind_some, spec_l08To.j0, sIn]
  by_cases h7 : e = 7
  · subst h7
    by_cases h : s = 4 <;> simp [h]
  · rw [if_neg h7, if_neg h7]
    by_cases h0 : 0 ≤ e ∧ e ≤ 6
    · have : e = 0 ∨ e = 1 ∨ e = 2 ∨ e = 3 ∨ e = 4 ∨ e = 5 ∨ e = 6 := by omega
      rcases this with rfl | rfl | rfl | rfl | rfl | rfl | rfl
      · by_cases h : s = 0 <;> simp [rd, h, eq_comm]
      · by_cases h : s = 0 <;> simp [rd, h, eq_comm]
      · by_cases h : s = 1 <;> simp [rd, h, eq_comm]
      · by_cases h : s = 3 <;> simp [rd, h, eq_comm]
      · by_cases h : s = 1 <;> simp [rd, h, eq_comm]
      · by_cases h : s = 2 <;> simp [rd, h, eq_comm]
      · by_cases h : s = 2 <;> simp [rd, h, eq_comm]
    · have a0 : ¬ e = 0 := by omega
      have a1 : ¬ e = 1 := by omega
      have a2 : ¬ e = 2 := by omega
      have a3 : ¬ e = 3 := by omega
      have a4 : ¬ e = 4 := by omega
      have a5 : ¬ e = 5 := by omega
      have a6 : ¬ e = 6 := by omega
      simp [h0, a0, a1, a2, a3, a4, a5, a6]
theorem sTo_ev (s e : Int) : Ev (fun k => spec_l08To.f k s e) (tgt s e) := Ev.at1 (fun k => sTo s e k)
theorem sStepConn_j1 (c0 c1 c2 c3 c4 : Int) (c5 : Bool) (e now n t : Int) (b : Bool) : Ev (fun k => spec_StepConn.j1 k e now n t b c0 c1 c2 c3 c4 c5) (if b = true then (c0, c1, c2, c3, c4, c5, false) else (c0, t, if e = 0 then now else c2, now, if e = 2 then n else 0, false, true)) := by
  refine Ev.step (fun k => by rw [spec_StepConn.j1]) ?_
  cases b
  · refine Ev.neg (by simp) ?_
    by_cases h : e = 0
    · subst h; exact Ev.pos rfl (Ev.neg (by omega) (Ev.now _))
    · refine Ev.neg h ?_
      by_cases h2 : e = 2
      · subst h2; exact Ev.pos rfl (Ev.now _)
      · simp only [h, h2, if_false, Bool.false_eq_true]
        exact Ev.now _
  · exact Ev.pos rfl (Ev.now _)
theorem sStepConn_ev (c0 c1 c2 c3 c4 : Int) (c5 : Bool) (e now n : Int) : Ev (fun k => spec_StepConn.f k c0 c1 c2 c3 c4 c5 e now n) (stepConn c0 c1 c2 c3 c4 c5 e now n) := by
  have hj : ∀ (b : Bool), b = true → Ev (fun k => spec_StepConn.j0 k e now n b c0 c1 c2 c3 c4 c5) (c0, c1, c2, c3, c4, c5, false) := fun b h => Ev.step (fun k => by rw [spec_StepConn.j0]) (Ev.pos h (Ev.now _))
  unfold spec_StepConn.f stepConn
  refine Ev.bind' _ (sConnOk_ev c0 c1 c2 c3 c4 c5) ?_
  by_cases h1 : connOk c0 c1 c2 c3 c4 c5 = true
  case neg => rw [if_neg (fun e => h1 e.1)]; exact Ev.neg h1 (hj _ rfl)
  refine Ev.pos h1 (Ev.bind' _ (Ev.is fun _ => sIn now c3 1000000000) ?_)
  by_cases h2 : c3 ≤ now ∧ now ≤ 1000000000
  case neg => rw [if_neg (fun e => h2 e.2.1)]; exact hj _ (by simp [h2])
  refine Ev.step (fun k => by rw [spec_StepConn.j0]) (Ev.neg (by simp [h2]) ?_)
  refine Ev.bind' _ (sTo_ev c1 e) ?_
  by_cases h3 : tgt c1 e < 0
  · rw [if_neg (fun q => q.2.2 (.inl h3))]
    exact Ev.pos h3 (sStepConn_j1 c0 c1 c2 c3 c4 c5 e now n _ true)
  refine Ev.neg h3 ?_
  by_cases h4 : e = 2
  · refine Ev.pos h4 (Ev.bind' _ (Ev.is fun _ => sIn n 1 1000000000) ?_)
    have hk := sStepConn_j1 c0 c1 c2 c3 c4 c5 e now n (tgt c1 e) (!(decide (1 ≤ n ∧ n ≤ 1000000000)))
    by_cases h5 : 1 ≤ n ∧ n ≤ 1000000000
    · rw [if_pos ⟨h1, h2, fun q => q.elim h3 (fun z => z.2 h5)⟩]
      rw [if_neg (by simp [h5])] at hk
      exact hk
    · rw [if_neg (fun q => q.2.2 (.inr ⟨h4, h5⟩))]
      rw [if_pos (by simp [h5])] at hk
      exact hk
  · rw [if_pos ⟨h1, h2, fun q => q.elim h3 (fun z => h4 z.1)⟩]
    exact Ev.neg h4 (sStepConn_j1 c0 c1 c2 c3 c4 c5 e now n (tgt c1 e) false)

theorem sPlayConn_l0 (evs : List (List Int)) (hn : evs.length ≤ 300) : ∀ (d i : Nat) (c : Cn) (out : List Int), i + d = evs.length → out.length = i → Ev (fun k => spec_PlayConn.l0 k evs out (i : Int) c.1 c.2.1 c.2.2.1 c.2.2.2.1 c.2.2.2.2.1 c.2.2.2.2.2) (playGo (evs.drop i) c out) := by
  intro d
  induction d with
  | zero =>
    intro i c out hi ho
    obtain rfl : i = evs.length := by omega
    refine Ev.step (fun k => by rw [spec_PlayConn.l0]) ?_
    rw [List.drop_length, playGo]
    exact Ev.neg (by omega) (Ev.now _)
  | succ d ih =>
    intro i c out hi ho
    refine Ev.step (fun k => by rw [spec_PlayConn.l0]) ?_
    rw [List.drop_eq_getElem_cons (by omega), playGo, rdL evs i (by omega), wsucc i (by omega)]
    refine Ev.pos (by omega) (Ev.pos (by omega) ?_)
    by_cases h3 : (evs[i]'(by omega)).length = 3
    · have hg : goStep c (evs[i]'(by omega)) = stepConn c.1 c.2.1 c.2.2.1 c.2.2.2.1 c.2.2.2.2.1 c.2.2.2.2.2 (rd (evs[i]'(by omega)) 0) (rd (evs[i]'(by omega)) 1) (rd (evs[i]'(by omega)) 2) := by unfold goStep; rw [if_pos h3]
      refine Ev.pos (by omega) (Ev.pos (by omega) (Ev.pos (by omega) (Ev.pos (by omega) (Ev.bind' _ (sStepConn_ev _ _ _ _ _ _ _ _ _) ?_))))
      rw [← hg]
      by_cases h : (goStep c (evs[i]'(by omega))).2.2.2.2.2.2 = true
      · rw [if_pos h]
        exact Ev.pos h (Ev.pos (by omega) (ih (i + 1) (cnOf (goStep c (evs[i]'(by omega)))) (out ++ [1]) (by omega) (by simp [ho])))
      · rw [if_neg h]
        exact Ev.neg h (Ev.pos (by omega) (ih (i + 1) (cnOf (goStep c (evs[i]'(by omega)))) (out ++ [0]) (by omega) (by simp [ho])))
    · have hg : goStep c (evs[i]'(by omega)) = (c.1, c.2.1, c.2.2.1, c.2.2.2.1, c.2.2.2.2.1, c.2.2.2.2.2, false) := by unfold goStep; rw [if_neg h3]
      rw [hg]
      exact Ev.neg (by omega) (Ev.pos (by omega) (ih (i + 1) c (out ++ [0]) (by omega) (by simp [ho])))
theorem sPlayConn_ev (id : Int) (evs : List (List Int)) : Ev (fun k => spec_PlayConn.f k id evs) (playConn id evs) := by
  unfold spec_PlayConn.f playConn
  have hj : ∀ (b : Bool) (a1 a2 a3 a4 a5 : Int) (a6 : Bool), b = true → Ev (fun k => spec_PlayConn.j0 k evs b a1 a2 a3 a4 a5 a6) (0, 0, 0, 0, 0, false, []) := fun b _ _ _ _ _ _ hb => by
    refine Ev.step (fun k => by rw [spec_PlayConn.j0]) ?_
    exact Ev.pos hb (Ev.now _)
  refine Ev.bind' _ (sNewConn_ev id 0) ?_
  by_cases h : (newConn id 0).2.2.2.2.2.2 = true
  · refine Ev.pos h ?_
    by_cases hn : evs.length ≤ 300
    · rw [if_pos ⟨h, hn⟩]
      refine Ev.step (fun k => by rw [spec_PlayConn.j0]) (Ev.neg (by simp; omega) ?_)
      exact sPlayConn_l0 evs hn evs.length 0 (cnOf (newConn id 0)) [] (by omega) rfl
    · rw [if_neg (fun e => hn e.2)]
      exact hj _ _ _ _ _ _ _ (by simp; omega)
  · rw [if_neg (fun e => h e.1)]
    exact Ev.neg h (hj _ _ _ _ _ _ _ rfl)

theorem iStepConn_j2 (c0 c1 c2 c3 c4 : Int) (c5 : Bool) (e now n t : Int) (b : Bool) : Ev (fun k => impl_StepConn.j2 k e now n t b c0 c1 c2 c3 c4 c5) (if b = true then (c0, c1, c2, c3, c4, c5, false) else (c0, t, if e = 0 then now else c2, now, if e = 2 then n else 0, false, true)) := by
  refine Ev.step (fun k => by rw [impl_StepConn.j2]) ?_
  cases b
  · refine Ev.neg (by simp) ?_
    by_cases h : e = 0
    · subst h; exact Ev.pos rfl (Ev.neg (by omega) (Ev.now _))
    · refine Ev.neg h ?_
      by_cases h2 : e = 2
      · subst h2; exact Ev.pos rfl (Ev.now _)
      · simp only [h, h2, if_false, Bool.false_eq_true]
        exact Ev.now _
  · exact Ev.pos rfl (Ev.now _)
theorem iStepConn_j1 (c0 c1 c2 c3 c4 : Int) (c5 : Bool) (e now n f t : Int) : Ev (fun k => impl_StepConn.j1 k e now n f t c0 c1 c2 c3 c4 c5) (if f = c1 ∧ ¬ (e = 2 ∧ ¬ (1 ≤ n ∧ n ≤ 1000000000)) then (c0, t, if e = 0 then now else c2, now, if e = 2 then n else 0, false, true) else (c0, c1, c2, c3, c4, c5, false)) := by
  refine Ev.step (fun k => by rw [impl_StepConn.j1]) ?_
  by_cases h1 : f = c1
  · refine Ev.pos h1 ?_
    by_cases h2 : e = 2
    · refine Ev.pos h2 (Ev.bind' _ (Ev.is fun _ => iId n) ?_)
      have hk := iStepConn_j2 c0 c1 c2 c3 c4 c5 e now n t (!(decide (1 ≤ n ∧ n ≤ 1000000000)))
      by_cases h5 : 1 ≤ n ∧ n ≤ 1000000000
      · rw [if_pos ⟨h1, fun q => q.2 h5⟩]
        rw [if_neg (by simp [h5])] at hk
        exact hk
      · rw [if_neg (fun q => q.2 ⟨h2, h5⟩)]
        rw [if_pos (by simp [h5])] at hk
        exact hk
    · rw [if_pos ⟨h1, fun q => h2 q.1⟩]
      exact Ev.neg h2 (iStepConn_j2 c0 c1 c2 c3 c4 c5 e now n t false)
  · rw [if_neg (fun q => h1 q.1)]
    exact Ev.neg h1 (iStepConn_j2 c0 c1 c2 c3 c4 c5 e now n t true)
/-- The program's switch: from which state an event leads, and where. -/
def fromTo (s e : Int) : Int × Int := if e = 0 then (0, 1) else if e = 1 then (0, 4) else if e = 2 then (1, 3) else if e = 3 then (3, 1) else if e = 4 then (1, 2) else if e = 5 then (2, 1) else if e = 6 then (2, 4) else if e = 7 then (if s = 4 then (-1, -1) else (s, 4)) else (-1, -1)
theorem fromTo_tgt (s e : Int) (h0 : 0 ≤ s) (h4 : s ≤ 4) : ((fromTo s e).1 = s ↔ ¬ tgt s e < 0) ∧ ((fromTo s e).1 = s → (fromTo s e).2 = tgt s e) := by
  have hs : s = 0 ∨ s = 1 ∨ s = 2 ∨ s = 3 ∨ s = 4 := by omega
  by_cases he : 0 ≤ e ∧ e ≤ 7
  · have : e = 0 ∨ e = 1 ∨ e = 2 ∨ e = 3 ∨ e = 4 ∨ e = 5 ∨ e = 6 ∨ e = 7 := by omega
    rcases this with rfl | rfl | rfl | rfl | rfl | rfl | rfl | rfl <;> rcases hs with rfl | rfl | rfl | rfl | rfl <;> simp [fromTo, tgt]
  · have a0 : ¬ e = 0 := by omega
    have a1 : ¬ e = 1 := by omega
    have a2 : ¬ e = 2 := by omega
    have a3 : ¬ e = 3 := by omega
    have a4 : ¬ e = 4 := by omega
    have a5 : ¬ e = 5 := by omega
    have a6 : ¬ e = 6 := by omega
    have a7 : ¬ e = 7 := by omega
    have hn : ¬ -1 = s := by omega
    simp [fromTo, tgt, a0, a1, a2, a3, a4, a5, a6, a7, hn]
theorem iStepConn_sw (c0 c1 c2 c3 c4 : Int) (c5 : Bool) (e now n : Int) (r : Int × Int × Int × Int × Int × Bool × Bool) (h : Ev (fun k => impl_StepConn.j1 k e now n (fromTo c1 e).1 (fromTo c1 e).2 c0 c1 c2 c3 c4 c5) r) (b : Bool) (hb : b = false) : Ev (fun k => impl_StepConn.j0 k e now n b c0 c1 c2 c3 c4 c5) r := by
  subst hb
  refine Ev.step (fun k => by rw [impl_StepConn.j0]) (Ev.neg (by simp) ?_)
  unfold fromTo at h
  by_cases h0 : e = 0
  · rw [if_pos h0] at h; exact Ev.pos h0 h
  rw [if_neg h0] at h; refine Ev.neg h0 ?_
  by_cases h1 : e = 1
  · rw [if_pos h1] at h; exact Ev.pos h1 h
  rw [if_neg h1] at h; refine Ev.neg h1 ?_
  by_cases h2 : e = 2
  · rw [if_pos h2] at h; exact Ev.pos h2 h
  rw [if_neg h2] at h; refine Ev.neg h2 ?_
  by_cases h3 : e = 3
  · rw [if_pos h3] at h; exact Ev.pos h3 h
  rw [if_neg h3] at h; refine Ev.neg h3 ?_
  by_cases h4 : e = 4
  · rw [if_pos h4] at h; exact Ev.pos h4 h
  rw [if_neg h4] at h; refine Ev.neg h4 ?_
  by_cases h5 : e = 5
  · rw [if_pos h5] at h; exact Ev.pos h5 h
  rw [if_neg h5] at h; refine Ev.neg h5 ?_
  by_cases h6 : e = 6
  · rw [if_pos h6] at h; exact Ev.pos h6 h
  rw [if_neg h6] at h; refine Ev.neg h6 ?_
  by_cases h7 : e = 7
  · rw [if_pos h7] at h
    refine Ev.pos h7 ?_
    by_cases h8 : c1 = 4
    · rw [if_pos h8] at h; exact Ev.pos h8 h
    · rw [if_neg h8] at h; exact Ev.neg h8 h
  · rw [if_neg h7] at h; exact Ev.neg h7 h
theorem iStepConn_ev (c0 c1 c2 c3 c4 : Int) (c5 : Bool) (e now n : Int) : Ev (fun k => impl_StepConn.f k c0 c1 c2 c3 c4 c5 e now n) (stepConn c0 c1 c2 c3 c4 c5 e now n) := by
  have hj : ∀ (b : Bool), b = true → Ev (fun k => impl_StepConn.j0 k e now n b c0 c1 c2 c3 c4 c5) (c0, c1, c2, c3, c4, c5, false) := fun b h => Ev.step (fun k => by rw [impl_StepConn.j0]) (Ev.pos h (Ev.now _))
  unfold impl_StepConn.f stepConn
  refine Ev.bind' _ (iConnOk_ev c0 c1 c2 c3 c4 c5) ?_
  by_cases h1 : connOk c0 c1 c2 c3 c4 c5 = true
  case neg => rw [if_neg (fun e => h1 e.1)]; exact Ev.neg h1 (hj _ rfl)
  have hb := conn_bounds c0 c1 c2 c3 c4 c5 h1
  refine Ev.pos h1 (Ev.bind' _ (Ev.is fun _ => iTick now) ?_)
  by_cases h2 : 0 ≤ now ∧ now ≤ 1000000000
  case neg =>
    rw [if_neg (fun e => h2 ⟨by omega, e.2.1.2⟩)]
    exact Ev.neg (by simpa using h2) (hj _ rfl)
  refine Ev.pos (by simpa using h2) ?_
  by_cases h3 : now < c3
  · rw [if_neg (fun e => by omega)]
    exact hj _ (by simpa using h3)
  refine iStepConn_sw c0 c1 c2 c3 c4 c5 e now n _ ?_ _ (by simpa using h3)
  have hk := iStepConn_j1 c0 c1 c2 c3 c4 c5 e now n (fromTo c1 e).1 (fromTo c1 e).2
  obtain ⟨hf, ht⟩ := fromTo_tgt c1 e hb.2.1.1 hb.2.1.2
  by_cases h4 : (fromTo c1 e).1 = c1 ∧ ¬ (e = 2 ∧ ¬ (1 ≤ n ∧ n ≤ 1000000000))
  · rw [if_pos ⟨h1, ⟨by omega, h2.2⟩, fun q => q.elim (fun z => hf.1 h4.1 z) h4.2⟩]
    rw [if_pos h4, ht h4.1] at hk
    rw [ht h4.1]
    exact hk
  · rw [if_neg (fun q => h4 ⟨hf.2 (fun z => q.2.2 (.inl z)), fun z => q.2.2 (.inr z)⟩)]
    rw [if_neg h4] at hk
    exact hk

theorem iFlag (b : Bool) : impl_flag.f b = some (if b = true then 1 else 0) := by
  unfold impl_flag.f
  split <;> rfl
theorem iPlayConn_l0 (evs : List (List Int)) (hn : evs.length ≤ 300) : ∀ (d i : Nat) (c : Cn) (out : List Int), i + d = evs.length → out.length = i → Ev (fun k => impl_PlayConn.l0 k out evs (evs.length : Int) (i : Int) c.1 c.2.1 c.2.2.1 c.2.2.2.1 c.2.2.2.2.1 c.2.2.2.2.2) (playGo (evs.drop i) c out) := by
  intro d
  induction d with
  | zero =>
    intro i c out hi ho
    obtain rfl : i = evs.length := by omega
    refine Ev.step (fun k => by rw [impl_PlayConn.l0]) ?_
    rw [List.drop_length, playGo]
    exact Ev.neg (by omega) (Ev.now _)
  | succ d ih =>
    intro i c out hi ho
    refine Ev.step (fun k => by rw [impl_PlayConn.l0]) ?_
    rw [List.drop_eq_getElem_cons (by omega), playGo, rdL evs i (by omega), wsucc i (by omega)]
    refine Ev.pos (by omega) (Ev.pos (by omega) (Ev.pos (by omega) ?_))
    by_cases h3 : (evs[i]'(by omega)).length = 3
    · have hg : goStep c (evs[i]'(by omega)) = stepConn c.1 c.2.1 c.2.2.1 c.2.2.2.1 c.2.2.2.2.1 c.2.2.2.2.2 (rd (evs[i]'(by omega)) 0) (rd (evs[i]'(by omega)) 1) (rd (evs[i]'(by omega)) 2) := by unfold goStep; rw [if_pos h3]
      refine Ev.pos (by omega) (Ev.pos (by omega) (Ev.pos (by omega) (Ev.pos (by omega) (Ev.bind' _ (iStepConn_ev _ _ _ _ _ _ _ _ _) ?_))))
      rw [← hg]
      refine Ev.bind' _ (Ev.is fun _ => iFlag _) (Ev.pos (by omega) ?_)
      exact ih (i + 1) (cnOf (goStep c (evs[i]'(by omega)))) _ (by omega) (by simp [ho])
    · have hg : goStep c (evs[i]'(by omega)) = (c.1, c.2.1, c.2.2.1, c.2.2.2.1, c.2.2.2.2.1, c.2.2.2.2.2, false) := by unfold goStep; rw [if_neg h3]
      rw [hg]
      refine Ev.neg (by omega) (Ev.bind' _ (Ev.is fun _ => iFlag _) (Ev.pos (by omega) ?_))
      exact ih (i + 1) c (out ++ [0]) (by omega) (by simp [ho])
theorem iPlayConn_ev (id : Int) (evs : List (List Int)) : Ev (fun k => impl_PlayConn.f k id evs) (playConn id evs) := by
  unfold impl_PlayConn.f playConn
  have hj : ∀ (b : Bool) (a1 a2 a3 a4 a5 : Int) (a6 : Bool), b = true → Ev (fun k => impl_PlayConn.j0 k evs b a1 a2 a3 a4 a5 a6) (0, 0, 0, 0, 0, false, []) := fun b _ _ _ _ _ _ hb => by
    refine Ev.step (fun k => by rw [impl_PlayConn.j0]) ?_
    exact Ev.pos hb (Ev.now _)
  refine Ev.bind' _ (iNewConn_ev id 0) ?_
  by_cases h : (newConn id 0).2.2.2.2.2.2 = true
  · refine Ev.pos h ?_
    by_cases hn : evs.length ≤ 300
    · rw [if_pos ⟨h, hn⟩]
      refine Ev.step (fun k => by rw [impl_PlayConn.j0]) (Ev.neg (by simp; omega) ?_)
      exact iPlayConn_l0 evs hn evs.length 0 (cnOf (newConn id 0)) [] (by omega) rfl
    · rw [if_neg (fun e => hn e.2)]
      exact hj _ _ _ _ _ _ _ (by simp; omega)
  · rw [if_neg (fun e => h e.1)]
    exact Ev.neg h (hj _ _ _ _ _ _ _ rfl)

theorem and255 (n : Int) : bits .and .i64 n 255 = n % 256 := by
  have h255 : (BitVec.ofInt 64 255).toNat = 2 ^ 8 - 1 := by decide
  have key : (BitVec.ofInt 64 n &&& BitVec.ofInt 64 255).toNat = (n % ((2 ^ 64 : Nat) : Int)).toNat % 2 ^ 8 := by
    rw [BitVec.toNat_and, BitVec.toNat_ofInt, h255, Nat.and_two_pow_sub_one_eq_mod]
  show IntKind.i64.wrap ((BitVec.ofInt 64 n &&& BitVec.ofInt 64 255).toNat : Nat) = n % 256
  rw [key, IntKind.wrap_i64]
  omega
/-- A place in the bytes. -/
def inCode (l : List Int) (i : Int) : Prop := 0 ≤ i ∧ i ≤ (l.length : Int)
theorem sByte (l : List Int) (hl : l.length ≤ 140737488351232) (i s : Int) (h : inCode l i) : ∃ b i' s', spec_l01Byte.f l i s = some (b, i', s') ∧ (0 ≤ b ∧ b ≤ 255) ∧ inCode l i' := by
  unfold inCode at *
  unfold spec_l01Byte.f
  by_cases hi : i < (l.length : Int)
  · rw [if_pos hi, if_pos h.1]
    refine ⟨_, _, _, rfl, ?_, ?_⟩
    · rw [and255]; omega
    · rw [w64 (by omega) (by omega)]; omega
  · rw [if_neg hi]
    refine ⟨_, _, _, rfl, ?_, h⟩
    rw [and255]; omega
theorem sBelow (l : List Int) (hl : l.length ≤ 140737488351232) (i s n : Int) (h : inCode l i) : ∃ b i' s', spec_l01Below.f l i s n = some (b, i', s') ∧ 0 ≤ b ∧ (0 < n → b < n) ∧ inCode l i' := by
  unfold spec_l01Below.f
  by_cases h0 : n ≤ 0
  · rw [if_pos h0]; exact ⟨0, i, s, rfl, by omega, fun e => by omega, h⟩
  rw [if_neg h0]
  by_cases h1 : n ≤ 256
  · rw [if_pos h1]
    obtain ⟨b, i1, s1, e, hb, hi⟩ := sByte l hl i s h
    rw [e, Option.bind_some, if_neg (by omega)]
    exact ⟨_, _, _, rfl, Int.tmod_nonneg _ hb.1, fun hn => Int.tmod_lt_of_pos _ hn, hi⟩
  · rw [if_neg h1]
    obtain ⟨b1, i1, s1, e1, hb1, hi1⟩ := sByte l hl i s h
    obtain ⟨b2, i2, s2, e2, hb2, hi2⟩ := sByte l hl i1 s1 hi1
    obtain ⟨b3, i3, s3, e3, hb3, hi3⟩ := sByte l hl i2 s2 hi2
    rw [e1, Option.bind_some, e2, Option.bind_some, e3, Option.bind_some, if_neg (by omega)]
    refine ⟨_, _, _, rfl, Int.tmod_nonneg _ ?_, fun hn => Int.tmod_lt_of_pos _ hn, hi3⟩
    dsimp only
    rw [w64 (n := b1 * 65536) (by omega) (by omega), w64 (n := b2 * 256) (by omega) (by omega), w64 (n := b1 * 65536 + b2 * 256) (by omega) (by omega), w64 (by omega) (by omega)]
    omega
theorem sNew (l : List Int) (hl : l.length ≤ 140737488351232) : ∃ s, Ev (fun k => spec_l01New.f k l) (l, 0, s) := by
  have key : ∀ (d i : Nat) (s : Int), i + d = 4000 → ∃ s', Ev (fun k => spec_l01New.l0 k l s (i : Int)) (l, 0, s') := by
    intro d
    induction d with
    | zero =>
      intro i s hi
      refine ⟨s, Ev.step (fun k => by rw [spec_l01New.l0]) ?_⟩
      by_cases h : (i : Int) < (l.length : Int)
      · exact Ev.pos h (Ev.neg (by omega) (Ev.now _))
      · exact Ev.neg h (Ev.now _)
    | succ d ih =>
      intro i s hi
      by_cases h : (i : Int) < (l.length : Int)
      · obtain ⟨s', e⟩ := ih (i + 1) (Go.bits .and .i64 (wrap64 ((wrap64 ((wrap64 (s * 149)) + (wrap64 (rd l (i : Int))))) + 11)) 1073741823) (by omega)
        refine ⟨s', Ev.step (fun k => by rw [spec_l01New.l0]) ?_⟩
        rw [wsucc i (by omega)]
        exact Ev.pos h (Ev.pos (by omega) (Ev.pos (by omega) e))
      · exact ⟨s, Ev.step (fun k => by rw [spec_l01New.l0]) (Ev.neg h (Ev.now _))⟩
  unfold spec_l01New.f
  exact key 4000 0 _ (by omega)
theorem sSize (l : List Int) (hl : l.length ≤ 140737488351232) (a : Int) (ha : 2 ≤ a) : ∃ t, spec_l01Size.f l a = some t ∧ 2 ≤ t ∧ t ≤ a := by
  unfold spec_l01Size.f
  rw [w64 (n := (l.length : Int) / 16) (by omega) (by omega), w64 (by omega) (by omega)]
  by_cases h : 2 + (l.length : Int) / 16 > a
  · rw [if_pos h]; exact ⟨a, rfl, ha, by omega⟩
  · rw [if_neg h]; exact ⟨_, rfl, by omega, by omega⟩

theorem sOnce (l : List Int) (hl : l.length ≤ 140737488351232) (i s n : Int) (h : inCode l i) : ∃ b i' s', spec_l01Once.f l i s n = some (b, i', s') ∧ inCode l i' := by
  unfold spec_l01Once.f
  obtain ⟨b, i1, s1, e, _, _, hi⟩ := sBelow l hl i s n h
  rw [e]
  exact ⟨_, _, _, rfl, hi⟩

theorem sPick (l : List Int) (hl : l.length ≤ 140737488351232) (i s : Int) (xs : List Int) (h : inCode l i) (hx : 0 < xs.length) : ∃ v i' s', spec_l01PickInt.f l i s xs = some (v, i', s') ∧ inCode l i' := by
  unfold spec_l01PickInt.f
  obtain ⟨b, i1, s1, e, h0, h1, hi⟩ := sBelow l hl i s (xs.length : Int) h
  rw [e, Option.bind_some, if_pos h0, if_pos (h1 (by omega))]
  exact ⟨_, _, _, rfl, hi⟩

theorem sDrawConn_l1 (l : List Int) (hl : l.length ≤ 140737488351232) (evs : List (List Int)) (n x7 x8 x9 : Int)
    (H : ∀ x8' x10 p s, inCode l p → ∃ r, Ev (fun k => spec_DrawPlayConn.j3 k evs n x7 x8' x9 x10 l p s) r) : ∀ (d j : Nat) (x10 p s : Int), j + d = 7 → inCode l p → ∃ r, Ev (fun k => spec_DrawPlayConn.l1 k evs n x7 x8 x9 x10 (j : Int) l p s) r := by
  intro d
  induction d with
  | zero =>
    intro j x10 p s hj hp
    by_cases h : tgt x8 x10 ≥ 0
    · obtain ⟨r, hr⟩ := H (tgt x8 x10) x10 p s hp
      refine ⟨r, Ev.step (fun k => by rw [spec_DrawPlayConn.l1]) ?_⟩
      exact Ev.neg (by omega) (Ev.bind' _ (sTo_ev _ _) (Ev.pos h (Ev.bind' _ (sTo_ev _ _) hr)))
    · obtain ⟨r, hr⟩ := H x8 x10 p s hp
      refine ⟨r, Ev.step (fun k => by rw [spec_DrawPlayConn.l1]) ?_⟩
      exact Ev.neg (by omega) (Ev.bind' _ (sTo_ev _ _) (Ev.neg h hr))
  | succ d ih =>
    intro j x10 p s hj hp
    have hw := wsucc j (by omega)
    by_cases h : tgt x8 (j : Int) ≥ 0
    · by_cases h4 : tgt x8 (j : Int) = 4
      · obtain ⟨r, hr⟩ := ih (j + 1) x10 p s (by omega) hp
        rw [← hw] at hr
        refine ⟨r, Ev.step (fun k => by rw [spec_DrawPlayConn.l1]) ?_⟩
        exact Ev.pos (by omega) (Ev.bind' _ (sTo_ev _ _) (Ev.pos h (Ev.bind' _ (sTo_ev _ _) (Ev.pos h4 hr))))
      · obtain ⟨o, p1, s1, e1, hp1⟩ := sOnce l hl p s 2 hp
        by_cases ho : o = true
        · obtain ⟨r, hr⟩ := ih (j + 1) (j : Int) p1 s1 (by omega) hp1
          rw [← hw] at hr
          refine ⟨r, Ev.step (fun k => by rw [spec_DrawPlayConn.l1]) ?_⟩
          exact Ev.pos (by omega) (Ev.bind' _ (sTo_ev _ _) (Ev.pos h (Ev.bind' _ (sTo_ev _ _) (Ev.neg h4 (Ev.bind' _ (Ev.is fun _ => e1) (Ev.pos ho hr))))))
        · obtain ⟨r, hr⟩ := ih (j + 1) x10 p1 s1 (by omega) hp1
          rw [← hw] at hr
          refine ⟨r, Ev.step (fun k => by rw [spec_DrawPlayConn.l1]) ?_⟩
          exact Ev.pos (by omega) (Ev.bind' _ (sTo_ev _ _) (Ev.pos h (Ev.bind' _ (sTo_ev _ _) (Ev.neg h4 (Ev.bind' _ (Ev.is fun _ => e1) (Ev.neg ho hr))))))
    · obtain ⟨r, hr⟩ := ih (j + 1) x10 p s (by omega) hp
      rw [← hw] at hr
      refine ⟨r, Ev.step (fun k => by rw [spec_DrawPlayConn.l1]) ?_⟩
      exact Ev.pos (by omega) (Ev.bind' _ (sTo_ev _ _) (Ev.neg h hr))
theorem sDrawConn_l0 (l : List Int) (hl : l.length ≤ 140737488351232) : ∀ (d i : Nat) (evs : List (List Int)) (n x7 x8 p s : Int), (i : Int) + d = n → n ≤ 400 → evs.length = i → inCode l p → ∃ r, Ev (fun k => spec_DrawPlayConn.l0 k evs n x7 x8 (i : Int) l p s) r := by
  intro d
  induction d with
  | zero =>
    intro i evs n x7 x8 p s hi hn he hp
    obtain ⟨b, p1, s1, e1, _, _, hp1⟩ := sBelow l hl p s 90 hp
    obtain ⟨v, p2, s2, e2, _⟩ := sPick l hl p1 s1 [1, 7, wrap64 (1 + b), 0, 1000000001] hp1 (by simp)
    refine ⟨(v, evs), Ev.step (fun k => by rw [spec_DrawPlayConn.l0]) ?_⟩
    exact Ev.neg (by omega) (Ev.bind' _ (Ev.is fun _ => e1) (Ev.bind' _ (Ev.is fun _ => e2) (Ev.now _)))
  | succ d ih =>
    intro i evs n x7 x8 p s hi hn he hp
    obtain ⟨b, p1, s1, e1, _, _, hp1⟩ := sBelow l hl p s 5 hp
    obtain ⟨c, p2, s2, e2, _, _, hp2⟩ := sBelow l hl p1 s1 9 hp1
    have H : ∀ x8' x10 p s, inCode l p → ∃ r, Ev (fun k => spec_DrawPlayConn.j3 k evs n (wrap64 (x7 + b)) x8' (i : Int) x10 l p s) r := by
      intro x8' x10 p s hp
      obtain ⟨v, p3, s3, e3, _, _, hp3⟩ := sBelow l hl p s 20 hp
      obtain ⟨o, p4, s4, e4, hp4⟩ := sOnce l hl p3 s3 40 hp3
      have hlast : rd_L1 (evs ++ [[x10, wrap64 (x7 + b), wrap64 (1 + v)]]) (i : Int) = [x10, wrap64 (x7 + b), wrap64 (1 + v)] := by
        rw [rdL _ i (by simp; omega), List.getElem_append_right (by omega)]
        simp [he]
      by_cases ho : o = true
      · obtain ⟨r, hr⟩ := ih (i + 1) ((evs ++ [[x10, wrap64 (x7 + b), wrap64 (1 + v)]]).set i ([x10, wrap64 (x7 + b), wrap64 (1 + v)].take 2)) n (wrap64 (x7 + b)) x8' p4 s4 (by omega) hn (by simp [he]) hp4
        rw [← wsucc i (by omega)] at hr
        refine ⟨r, Ev.step (fun k => by rw [spec_DrawPlayConn.j3]) ?_⟩
        refine Ev.bind' _ (Ev.is fun _ => e3) (Ev.pos (by omega) (Ev.some' (Ev.bind' _ (Ev.is fun _ => e4) (Ev.pos ho ?_))))
        rw [hlast]
        exact Ev.pos (by omega) (Ev.pos (by simp; omega) (Ev.pos (by simp) hr))
      · obtain ⟨r, hr⟩ := ih (i + 1) (evs ++ [[x10, wrap64 (x7 + b), wrap64 (1 + v)]]) n (wrap64 (x7 + b)) x8' p4 s4 (by omega) hn (by simp [he]) hp4
        rw [← wsucc i (by omega)] at hr
        refine ⟨r, Ev.step (fun k => by rw [spec_DrawPlayConn.j3]) ?_⟩
        exact Ev.bind' _ (Ev.is fun _ => e3) (Ev.pos (by omega) (Ev.some' (Ev.bind' _ (Ev.is fun _ => e4) (Ev.neg ho hr))))
    obtain ⟨r, hr⟩ := sDrawConn_l1 l hl evs n (wrap64 (x7 + b)) x8 (i : Int) H 7 0 (wrap64 (c - 1)) p2 s2 rfl hp2
    refine ⟨r, Ev.step (fun k => by rw [spec_DrawPlayConn.l0]) ?_⟩
    exact Ev.pos (by omega) (Ev.bind' _ (Ev.is fun _ => e1) (Ev.bind' _ (Ev.is fun _ => e2) hr))
theorem sDrawConn (l : List Int) (hl : l.length ≤ 140737488351232) : ∃ r, Ev (fun k => spec_DrawPlayConn.f k l) r := by
  obtain ⟨s0, e0⟩ := sNew l hl
  obtain ⟨t, et, ht, ht'⟩ := sSize l hl 30 (by omega)
  have h0 : inCode l 0 := ⟨by omega, by omega⟩
  obtain ⟨n, p1, s1, e1, hn0, hn1, hp1⟩ := sBelow l hl 0 s0 t h0
  obtain ⟨o, p2, s2, e2, hp2⟩ := sOnce l hl p1 s1 40 hp1
  by_cases h : o = true
  · obtain ⟨m, p3, s3, e3, hm0, hm1, hp3⟩ := sBelow l hl p2 s2 2 hp2
    have hm2 := hm1 (by omega)
    obtain ⟨r, hr⟩ := sDrawConn_l0 l hl (300 + m).toNat 0 [] (300 + m) 0 0 p3 s3 (by omega) (by omega) rfl hp3
    refine ⟨r, ?_⟩
    unfold spec_DrawPlayConn.f
    refine Ev.bind' _ e0 (Ev.some' (Ev.bind' _ (Ev.is fun _ => et) (Ev.bind' _ (Ev.is fun _ => e1) (Ev.bind' _ (Ev.is fun _ => e2) (Ev.pos h (Ev.bind' _ (Ev.is fun _ => e3) ?_))))))
    refine Ev.step (fun k => by rw [spec_DrawPlayConn.j0]) ?_
    rw [w64 (by omega) (by omega)]
    exact hr
  · have hn2 := hn1 (by omega)
    obtain ⟨r, hr⟩ := sDrawConn_l0 l hl n.toNat 0 [] n 0 0 p2 s2 (by omega) (by omega) rfl hp2
    refine ⟨r, ?_⟩
    unfold spec_DrawPlayConn.f
    refine Ev.bind' _ e0 (Ev.some' (Ev.bind' _ (Ev.is fun _ => et) (Ev.bind' _ (Ev.is fun _ => e1) (Ev.bind' _ (Ev.is fun _ => e2) (Ev.neg h ?_)))))
    refine Ev.step (fun k => by rw [spec_DrawPlayConn.j0]) ?_
    exact hr

theorem lawBig (l : List Int) : laws_big.f l = some (decide ((l.length : Int) > 1048576)) := rfl

theorem same_ev (l : List Int) (hl : l.length ≤ 1048577) : Ev (fun k => laws_same.f k l l) true := by
  have key : ∀ (d i : Nat), i + d = l.length → Ev (fun k => laws_same.l0 k l l (i : Int)) true := by
    intro d
    induction d with
    | zero =>
      intro i hi
      refine Ev.step (fun k => by rw [laws_same.l0]) ?_
      exact Ev.neg (by omega) (Ev.now _)
    | succ d ih =>
      intro i hi
      refine Ev.step (fun k => by rw [laws_same.l0]) ?_
      rw [wsucc i (by omega)]
      exact Ev.pos (by omega) (Ev.pos (by omega) (Ev.pos (by omega) (Ev.pos rfl (ih (i + 1) (by omega)))))
  unfold laws_same.f
  exact Ev.pos rfl (key l.length 0 (by omega))

def configOk (a0 a1 a2 a3 a4 a5 a6 a7 a8 a9 a10 a11 a12 a13 : Int) : Bool := decide ((1 ≤ a1 ∧ a1 ≤ 12) ∧ (0 ≤ a0 ∧ a0 ≤ a1) ∧ (0 ≤ a2 ∧ a2 ≤ 1000000000) ∧ (a2 ≠ 0) ∧ (0 ≤ a3 ∧ a3 ≤ 1000000000) ∧ (0 ≤ a4 ∧ a4 ≤ 1000000000) ∧ (0 ≤ a5 ∧ a5 ≤ 1000000000) ∧ (0 ≤ a6 ∧ a6 ≤ 1000000000) ∧ (0 ≤ a13 ∧ a13 ≤ 1000000000) ∧ (a13 ≠ 0) ∧
  (1 ≤ a8 ∧ a8 ≤ 1000000) ∧ (1 ≤ a7 ∧ a7 ≤ a8) ∧ (0 ≤ a9 ∧ a9 ≤ 100) ∧ (1 ≤ a10 ∧ a10 ≤ 1000000) ∧ (1 ≤ a11 ∧ a11 ≤ 20) ∧ (1 ≤ a12 ∧ a12 ≤ 1000000))

def addTick (t d : Int) : Int := if (0 ≤ t ∧ t ≤ 1000000000) ∧ (-1000000000 ≤ d ∧ d ≤ 1000000000) then (if t + d > 1000000000 then 1000000000 else if t + d < 0 then 0 else t + d) else -1

/-- The tick at which something begins; -1 where it never does. -/
def beg (t d : Int) : Int := if d = 0 then -1 else addTick t d
def kindsOf (c1 : Int) (c5 : Bool) : List Int := if c1 = 1 then [1, 2, 3] else if c1 = 3 ∧ c5 = false then [4] else []
def ticksOf (a3 a4 a5 a6 c1 c2 c3 : Int) (c5 : Bool) : List Int := if c1 = 1 then [beg c2 a3, beg c3 a4, beg c3 a5] else if c1 = 3 ∧ c5 = false then [beg c3 a6] else []
def bothOk (a0 a1 a2 a3 a4 a5 a6 a7 a8 a9 a10 a11 a12 a13 : Int) (c0 c1 c2 c3 c4 : Int) (c5 : Bool) : Bool := configOk a0 a1 a2 a3 a4 a5 a6 a7 a8 a9 a10 a11 a12 a13 && connOk c0 c1 c2 c3 c4 c5
theorem bothOk_parts (a0 a1 a2 a3 a4 a5 a6 a7 a8 a9 a10 a11 a12 a13 : Int) (c0 c1 c2 c3 c4 : Int) (c5 : Bool) (h : bothOk a0 a1 a2 a3 a4 a5 a6 a7 a8 a9 a10 a11 a12 a13 c0 c1 c2 c3 c4 c5 = true) : (0 ≤ a3 ∧ a3 ≤ 1000000000) ∧ (0 ≤ a4 ∧ a4 ≤ 1000000000) ∧ (0 ≤ a5 ∧ a5 ≤ 1000000000) ∧ (0 ≤ a6 ∧ a6 ≤ 1000000000) ∧ (0 ≤ c2 ∧ c2 ≤ 1000000000) ∧ (0 ≤ c3 ∧ c3 ≤ 1000000000) := by
  unfold bothOk configOk connOk at h
  simp only [Bool.and_eq_true, decide_eq_true_eq] at h
  obtain ⟨⟨_, _, _, _, h3, h4, h5, h6, _⟩, ⟨_, _, h7, h8, _⟩⟩ := h
  exact ⟨h3, h4, h5, h6, by omega, h7⟩

def dueIn (t now : Int) : Bool := decide ((0 ≤ now ∧ now ≤ 1000000000) ∧ 0 ≤ t ∧ t ≤ now)
def firstDue (now : Int) : List Int → List Int → Int
  | x :: xs, t :: ts => if dueIn t now = true then x else firstDue now xs ts
  | _, _ => 0
def connDue (a0 a1 a2 a3 a4 a5 a6 a7 a8 a9 a10 a11 a12 a13 : Int) (c0 c1 c2 c3 c4 : Int) (c5 : Bool) (now : Int) : Int := if bothOk a0 a1 a2 a3 a4 a5 a6 a7 a8 a9 a10 a11 a12 a13 c0 c1 c2 c3 c4 c5 = true then firstDue now (kindsOf c1 c5) (ticksOf a3 a4 a5 a6 c1 c2 c3 c5) else 0

theorem iConfigOk_j1 (k : Nat) (x5 : Bool) (a0 a1 a2 a3 a4 a5 a6 a7 a8 a9 a10 a11 a12 a13 : Int) : impl_ConfigOk.j1 (k + 1) x5 a0 a1 a2 a3 a4 a5 a6 a7 a8 a9 a10 a11 a12 a13 = some (x5 && decide ((1 ≤ a8 ∧ a8 ≤ 1000000) ∧ (1 ≤ a7 ∧ a7 ≤ a8) ∧ (0 ≤ a9 ∧ a9 ≤ 100) ∧ (1 ≤ a10 ∧ a10 ≤ 1000000) ∧ (1 ≤ a11 ∧ a11 ≤ 20) ∧ (1 ≤ a12 ∧ a12 ≤ 1000000))) := by
  simp only [impl_ConfigOk.j1, iIn, Option.bind_some]
  by_cases g2 : 1 ≤ a7 ∧ a7 ≤ a8
  case neg => cases x5 <;> simp [g2]
  by_cases g1 : a8 ≤ 1000000
  case neg => cases x5 <;> simp [g1, g2]
  have g0 : 1 ≤ a8 := by omega
  cases x5
  case false => simp [g1, g2]
  by_cases g3 : 0 ≤ a9 ∧ a9 ≤ 100
  case neg => simp [g0, g1, g2, g3]
  by_cases g4 : 1 ≤ a10 ∧ a10 ≤ 1000000
  case neg => simp [g0, g1, g2, g3, g4]
  by_cases g5 : 1 ≤ a12 ∧ a12 ≤ 1000000
  case neg => simp [g0, g1, g2, g3, g4, g5]
  simp [g0, g1, g2, g3, g4, g5]
theorem iConfigOk (k : Nat) (a0 a1 a2 a3 a4 a5 a6 a7 a8 a9 a10 a11 a12 a13 : Int) : impl_ConfigOk.f (k + 8) a0 a1 a2 a3 a4 a5 a6 a7 a8 a9 a10 a11 a12 a13 = some (configOk a0 a1 a2 a3 a4 a5 a6 a7 a8 a9 a10 a11 a12 a13) := by
  unfold impl_ConfigOk.f configOk
  simp only [Option.bind_some, List.length_cons, List.length_nil]
  by_cases h3 : 0 ≤ a2 ∧ a2 ≤ 1000000000
  case neg => simp [impl_ConfigOk.l0, iTick, rd, h3]
  by_cases h5 : 0 ≤ a3 ∧ a3 ≤ 1000000000
  case neg => simp [impl_ConfigOk.l0, iTick, rd, h3, h5, wrap64]
  by_cases h6 : 0 ≤ a4 ∧ a4 ≤ 1000000000
  case neg => simp [impl_ConfigOk.l0, iTick, rd, h3, h5, h6, wrap64]
  by_cases h7 : 0 ≤ a5 ∧ a5 ≤ 1000000000
  case neg => simp [impl_ConfigOk.l0, iTick, rd, h3, h5, h6, h7, wrap64]
  by_cases h8 : 0 ≤ a6 ∧ a6 ≤ 1000000000
  case neg => simp [impl_ConfigOk.l0, iTick, rd, h3, h5, h6, h7, h8, wrap64]
  by_cases h9 : 0 ≤ a13 ∧ a13 ≤ 1000000000
  case neg => simp [impl_ConfigOk.l0, iTick, rd, h3, h5, h6, h7, h8, h9, wrap64]
  by_cases h1 : 1 ≤ a1 ∧ a1 ≤ 12
  case neg => simp [impl_ConfigOk.l0, iTick, iIn, rd, h3, h5, h6, h7, h8, h9, h1, wrap64, iConfigOk_j1]
  by_cases h2 : 0 ≤ a0 ∧ a0 ≤ a1
  case neg => simp [impl_ConfigOk.l0, iTick, iIn, rd, h3, h5, h6, h7, h8, h9, h1, h2, wrap64, iConfigOk_j1]
  by_cases h4 : a2 = 0
  case pos => subst h4; simp [impl_ConfigOk.l0, iTick, iIn, rd, h5, h6, h7, h8, h9, h1, h2, wrap64, iConfigOk_j1]
  have h4' : 1 ≤ a2 := by omega
  by_cases h10 : a13 = 0
  case pos => subst h10; simp [impl_ConfigOk.l0, iTick, iIn, rd, h3, h5, h6, h7, h8, h1, h2, h4', wrap64, iConfigOk_j1]
  have h10' : 1 ≤ a13 := by omega
  simp [impl_ConfigOk.l0, iTick, iIn, rd, h3, h4, h5, h6, h7, h8, h9, h1, h2, h4', h10, h10', wrap64, iConfigOk_j1]
theorem iConfigOk_ev (a0 a1 a2 a3 a4 a5 a6 a7 a8 a9 a10 a11 a12 a13 : Int) : Ev (fun k => impl_ConfigOk.f k a0 a1 a2 a3 a4 a5 a6 a7 a8 a9 a10 a11 a12 a13) (configOk a0 a1 a2 a3 a4 a5 a6 a7 a8 a9 a10 a11 a12 a13) := ⟨8, fun k hk => by obtain ⟨m, rfl⟩ : ∃ m, k = m + 8 := ⟨k - 8, by omega⟩; exact iConfigOk m a0 a1 a2 a3 a4 a5 a6 a7 a8 a9 a10 a11 a12 a13⟩

theorem iAddTick (t d : Int) : impl_AddTick.f t d = some (addTick t d) := by
  unfold impl_AddTick.f addTick
  simp only [iTick, iIn, Option.bind_some]
  by_cases h1 : 0 ≤ t ∧ t ≤ 1000000000
  · by_cases h2 : -1000000000 ≤ d ∧ d ≤ 1000000000
    · rw [w64 (by omega) (by omega)]
      simp only [h1, h2, and_self, decide_true, if_true]
      unfold mx mn
      congr 1
      repeat' split
      all_goals omega
    · simp [h1, h2]
  · simp [h1]

theorem iBeg (t d : Int) : impl_Conn_dues_1.f t d = some (beg t d) := by
  unfold impl_Conn_dues_1.f beg
  by_cases h : d = 0
  · rw [if_pos h, if_pos h]
  · rw [if_neg h, if_neg h, iAddTick]; rfl
theorem iDues_ev (a0 a1 a2 a3 a4 a5 a6 a7 a8 a9 a10 a11 a12 a13 : Int) (c0 c1 c2 c3 c4 : Int) (c5 : Bool) : Ev (fun k => impl_Conn_dues.f k c0 c1 c2 c3 c4 c5 a0 a1 a2 a3 a4 a5 a6 a7 a8 a9 a10 a11 a12 a13) (if bothOk a0 a1 a2 a3 a4 a5 a6 a7 a8 a9 a10 a11 a12 a13 c0 c1 c2 c3 c4 c5 = true then (kindsOf c1 c5, ticksOf a3 a4 a5 a6 c1 c2 c3 c5) else ([], [])) := by
  unfold impl_Conn_dues.f bothOk
  refine Ev.bind' _ (iConfigOk_ev a0 a1 a2 a3 a4 a5 a6 a7 a8 a9 a10 a11 a12 a13) ?_
  have hj : ∀ b : Bool, b = true → Ev (fun k => impl_Conn_dues.j0 k b c0 c1 c2 c3 c4 c5 a0 a1 a2 a3 a4 a5 a6 a7 a8 a9 a10 a11 a12 a13) ([], []) := fun b hb => by
    refine Ev.step (fun k => by rw [impl_Conn_dues.j0]) ?_
    exact Ev.pos hb (Ev.now _)
  by_cases h : configOk a0 a1 a2 a3 a4 a5 a6 a7 a8 a9 a10 a11 a12 a13 = true
  case neg => rw [if_neg (by simp [h])]; exact Ev.neg h (hj _ rfl)
  refine Ev.pos h (Ev.bind' _ (iConnOk_ev c0 c1 c2 c3 c4 c5) ?_)
  by_cases h2 : connOk c0 c1 c2 c3 c4 c5 = true
  case neg => rw [if_neg (by simp [h2])]; exact hj _ (by simpa using h2)
  rw [if_pos (by simp [h, h2])]
  refine Ev.step (fun k => by rw [impl_Conn_dues.j0]) (Ev.neg (by simp [h2]) ?_)
  unfold kindsOf ticksOf
  by_cases e1 : c1 = 1
  · have e : ((if c1 = 1 then [1, 2, 3] else if c1 = 3 ∧ c5 = false then [4] else [] : List Int), (if c1 = 1 then [beg c2 a3, beg c3 a4, beg c3 a5] else if c1 = 3 ∧ c5 = false then [beg c3 a6] else [] : List Int)) = ([1, 2, 3], [beg c2 a3, beg c3 a4, beg c3 a5]) := by rw [if_pos e1, if_pos e1]
    rw [e]
    exact Ev.pos e1 (Ev.bind' _ (Ev.is fun _ => iBeg _ _) (Ev.bind' _ (Ev.is fun _ => iBeg _ _) (Ev.bind' _ (Ev.is fun _ => iBeg _ _) (Ev.now _))))
  · refine Ev.neg e1 ?_
    by_cases e3 : c1 = 3
    · refine Ev.pos e3 ?_
      cases c5 with
      | true =>
        have e : ((if c1 = 1 then [1, 2, 3] else if c1 = 3 ∧ true = false then [4] else [] : List Int), (if c1 = 1 then [beg c2 a3, beg c3 a4, beg c3 a5] else if c1 = 3 ∧ true = false then [beg c3 a6] else [] : List Int)) = ([], []) := by rw [if_neg e1, if_neg e1]; simp
        rw [e]
        exact Ev.pos rfl (Ev.now _)
      | false =>
        have e : ((if c1 = 1 then [1, 2, 3] else if c1 = 3 ∧ false = false then [4] else [] : List Int), (if c1 = 1 then [beg c2 a3, beg c3 a4, beg c3 a5] else if c1 = 3 ∧ false = false then [beg c3 a6] else [] : List Int)) = ([4], [beg c3 a6]) := by rw [if_neg e1, if_neg e1, if_pos ⟨e3, rfl⟩, if_pos ⟨e3, rfl⟩]
        rw [e]
        exact Ev.neg (by simp) (Ev.bind' _ (Ev.is fun _ => iBeg _ _) (Ev.now _))
    · have e : ((if c1 = 1 then [1, 2, 3] else if c1 = 3 ∧ c5 = false then [4] else [] : List Int), (if c1 = 1 then [beg c2 a3, beg c3 a4, beg c3 a5] else if c1 = 3 ∧ c5 = false then [beg c3 a6] else [] : List Int)) = ([], []) := by rw [if_neg e1, if_neg e1, if_neg (fun x => e3 x.1), if_neg (fun x => e3 x.1)]
      rw [e]
      exact Ev.neg e3 (Ev.now _)

theorem iFirst_l0 (now : Int) (ks ts : List Int) (hn : ks.length ≤ 1000) (hl : ts.length = ks.length) : ∀ (d i : Nat), i + d = ks.length → Ev (fun k => impl_ConnDue.l0 k now ts ks (ks.length : Int) (i : Int)) (firstDue now (ks.drop i) (ts.drop i)) := by
  intro d
  induction d with
  | zero =>
    intro i hi
    obtain rfl : i = ks.length := by omega
    refine Ev.step (fun k => by rw [impl_ConnDue.l0]) ?_
    rw [List.drop_length, firstDue]
    · exact Ev.neg (by omega) (Ev.now _)
    · intro x xs t ts' h; cases h
  | succ d ih =>
    intro i hi
    refine Ev.step (fun k => by rw [impl_ConnDue.l0]) ?_
    rw [List.drop_eq_getElem_cons (by omega), List.drop_eq_getElem_cons (show i < ts.length by omega), firstDue, rd_nat ks i (by omega), rd_nat ts i (by omega), wsucc i (by omega)]
    refine Ev.pos (by omega) (Ev.pos (by omega) (Ev.pos (by omega) (Ev.bind' _ (Ev.is fun _ => iTick now) ?_)))
    unfold dueIn
    by_cases h1 : 0 ≤ now ∧ now ≤ 1000000000
    · refine Ev.pos (by simp [h1]) (Ev.pos (by omega) ?_)
      by_cases h2 : (ts[i]'(by omega)) ≥ 0
      · refine Ev.pos h2 ?_
        by_cases h3 : (ts[i]'(by omega)) ≤ now
        · rw [if_pos (by simp [h1, h3]; omega)]; exact Ev.pos h3 (Ev.now _)
        · rw [if_neg (by simp [h3])]; exact Ev.neg h3 (ih (i + 1) (by omega))
      · rw [if_neg (by simp; intro _ _ h; omega)]; exact Ev.neg h2 (ih (i + 1) (by omega))
    · rw [if_neg (by simp; intro a b; omega)]; exact Ev.neg (by simpa using h1) (ih (i + 1) (by omega))
theorem kinds_ticks (a3 a4 a5 a6 c1 c2 c3 : Int) (c5 : Bool) : (ticksOf a3 a4 a5 a6 c1 c2 c3 c5).length = (kindsOf c1 c5).length ∧ (kindsOf c1 c5).length ≤ 3 := by
  unfold ticksOf kindsOf
  by_cases h1 : c1 = 1
  · rw [if_pos h1, if_pos h1]; simp
  · rw [if_neg h1, if_neg h1]
    by_cases h2 : c1 = 3 ∧ c5 = false
    · rw [if_pos h2, if_pos h2]; simp
    · rw [if_neg h2, if_neg h2]; simp
theorem iConnDue_ev (a0 a1 a2 a3 a4 a5 a6 a7 a8 a9 a10 a11 a12 a13 : Int) (c0 c1 c2 c3 c4 : Int) (c5 : Bool) (now : Int) : Ev (fun k => impl_ConnDue.f k a0 a1 a2 a3 a4 a5 a6 a7 a8 a9 a10 a11 a12 a13 c0 c1 c2 c3 c4 c5 now) (connDue a0 a1 a2 a3 a4 a5 a6 a7 a8 a9 a10 a11 a12 a13 c0 c1 c2 c3 c4 c5 now) := by
  unfold impl_ConnDue.f connDue
  refine Ev.bind' _ (iDues_ev a0 a1 a2 a3 a4 a5 a6 a7 a8 a9 a10 a11 a12 a13 c0 c1 c2 c3 c4 c5) ?_
  by_cases h : bothOk a0 a1 a2 a3 a4 a5 a6 a7 a8 a9 a10 a11 a12 a13 c0 c1 c2 c3 c4 c5 = true
  · rw [if_pos h, if_pos h]
    have := kinds_ticks a3 a4 a5 a6 c1 c2 c3 c5
    exact iFirst_l0 now _ _ (by omega) this.1 (kindsOf c1 c5).length 0 (by omega)
  · rw [if_neg h, if_neg h]
    exact iFirst_l0 now [] [] (by simp) rfl 0 0 rfl

def soonStep (_ : Nat) (s : Int) (x : Int) : Except Int Int := .ok (if (0 ≤ x ∧ x ≤ 1000000000) ∧ (s < 0 ∨ x < s) then x else s)
def soonest (l : List Int) : Int := if (l.length : Int) > 300 then -1 else runE soonStep id 0 l (-1)

def nextConnDue (a0 a1 a2 a3 a4 a5 a6 a7 a8 a9 a10 a11 a12 a13 : Int) (c0 c1 c2 c3 c4 : Int) (c5 : Bool) : Int := if bothOk a0 a1 a2 a3 a4 a5 a6 a7 a8 a9 a10 a11 a12 a13 c0 c1 c2 c3 c4 c5 = true then soonest (ticksOf a3 a4 a5 a6 c1 c2 c3 c5) else -1

theorem iSoonest_ev (l : List Int) : Ev (fun k => impl_SoonestOf.f k l) (soonest l) := by
  unfold impl_SoonestOf.f soonest
  by_cases h : (l.length : Int) > 300
  · rw [if_pos h]; exact Ev.pos h (Ev.now _)
  · rw [if_neg h]
    refine Ev.neg h (loop_ev l (fun k s i => impl_SoonestOf.l0 k s l (l.length : Int) i) soonStep id 0 (fun k _ s i hi => ?_) (fun k s => ?_) (-1))
    · simp only [impl_SoonestOf.l0, iTick, Option.bind_some, soonStep]
      rw [if_pos (by omega), if_pos (by omega), if_pos (by omega), wsucc i (by omega), rd_nat l i hi]
      by_cases h1 : 0 ≤ l[i] ∧ l[i] ≤ 1000000000 <;> by_cases h2 : s < 0 <;> by_cases h3 : l[i] < s <;> simp [h1, h2, h3]
    · simp [impl_SoonestOf.l0]

theorem iNextConnDue_ev (a0 a1 a2 a3 a4 a5 a6 a7 a8 a9 a10 a11 a12 a13 : Int) (c0 c1 c2 c3 c4 : Int) (c5 : Bool) : Ev (fun k => impl_NextConnDue.f k a0 a1 a2 a3 a4 a5 a6 a7 a8 a9 a10 a11 a12 a13 c0 c1 c2 c3 c4 c5) (nextConnDue a0 a1 a2 a3 a4 a5 a6 a7 a8 a9 a10 a11 a12 a13 c0 c1 c2 c3 c4 c5) := by
  unfold impl_NextConnDue.f nextConnDue
  refine Ev.bind' _ (iDues_ev a0 a1 a2 a3 a4 a5 a6 a7 a8 a9 a10 a11 a12 a13 c0 c1 c2 c3 c4 c5) ?_
  by_cases h : bothOk a0 a1 a2 a3 a4 a5 a6 a7 a8 a9 a10 a11 a12 a13 c0 c1 c2 c3 c4 c5 = true
  · rw [if_pos h, if_pos h]
    exact Ev.bind' _ (iSoonest_ev _) (Ev.now _)
  · rw [if_neg h, if_neg h]
    exact Ev.bind' _ (iSoonest_ev []) (Ev.now _)

def inv (c : Cn) : Prop := connOk c.1 c.2.1 c.2.2.1 c.2.2.2.1 c.2.2.2.2.1 c.2.2.2.2.2 = true ∧ c.2.2.2.2.2 = false
theorem tgt_range (s e : Int) (h : ¬ tgt s e < 0) : 1 ≤ tgt s e ∧ tgt s e ≤ 4 ∧ (tgt s e = 3 ↔ e = 2) := by
  unfold tgt at *
  repeat' split at h
  all_goals first | omega | (repeat' split) <;> omega
theorem inv_step (c : Cn) (h : inv c) (ev : List Int) : inv (cnOf (goStep c ev)) := by
  unfold goStep
  split
  · unfold stepConn
    split
    · rename_i hc
      obtain ⟨h1, h2, h3⟩ := hc
      rw [not_or] at h3
      have hb := conn_bounds _ _ _ _ _ _ h1
      have ht := tgt_range _ _ h3.1
      unfold stepped
      refine ⟨?_, rfl⟩
      unfold connOk cnOf
      dsimp only
      rw [decide_eq_true_eq]
      refine ⟨hb.1, by omega, by omega, ?_, by omega, ?_⟩
      · split <;> omega
      · by_cases e2 : rd ev 0 = 2
        · rw [if_pos (ht.2.2.2 e2), if_pos e2]
          have := h3.2
          omega
        · rw [if_neg (fun x => e2 (ht.2.2.1 x)), if_neg e2]
          exact ⟨rfl, rfl⟩
    · exact h
  · exact h
theorem inv_go : ∀ (evs : List (List Int)) (c : Cn) (out : List Int), inv c → inv (let r := playGo evs c out; (r.1, r.2.1, r.2.2.1, r.2.2.2.1, r.2.2.2.2.1, r.2.2.2.2.2.1))
  | [], c, out, h => h
  | ev :: evs, c, out, h => by
    rw [playGo]
    exact inv_go evs _ _ (inv_step c h ev)
theorem inv_play (id : Int) (evs : List (List Int)) (r : Int × Int × Int × Int × Int × Bool × List Int) (e : r = playConn id evs) (h : ¬ r.1 = 0) : inv (r.1, r.2.1, r.2.2.1, r.2.2.2.1, r.2.2.2.2.1, r.2.2.2.2.2.1) := by
  unfold playConn at e
  split at e
  · rename_i hc
    subst e
    refine inv_go evs _ [] ?_
    unfold newConn at hc ⊢
    split
    · rename_i ho
      exact ⟨ho, rfl⟩
    · rename_i ho
      rw [if_neg ho] at hc
      exact absurd hc.1 (by simp)
  · subst e
    exact absurd rfl h
theorem soon_min : ∀ (l : List Int) (i : Nat) (s : Int), 0 ≤ s → (∀ x ∈ l, 0 ≤ x ∧ x ≤ 1000000000) → runE soonStep id i l s ≤ s ∧ (∀ x ∈ l, runE soonStep id i l s ≤ x) ∧ (runE soonStep id i l s = s ∨ runE soonStep id i l s ∈ l)
  | [], i, s, _, _ => ⟨Int.le_refl _, by simp, .inl rfl⟩
  | x :: l, i, s, hs, hv => by
    have hx := hv x (by simp)
    have hl : ∀ y ∈ l, 0 ≤ y ∧ y ≤ 1000000000 := fun y hy => hv y (List.mem_cons_of_mem _ hy)
    rw [runE]
    simp only [soonStep]
    by_cases h : (0 ≤ x ∧ x ≤ 1000000000) ∧ (s < 0 ∨ x < s)
    · rw [if_pos h]
      obtain ⟨h1, h2, h3⟩ := soon_min l (i + 1) x hx.1 hl
      refine ⟨by omega, fun y hy => ?_, ?_⟩
      · rcases List.mem_cons.1 hy with rfl | hy
        · exact h1
        · exact h2 y hy
      · rcases h3 with e | e
        · rw [e]; exact .inr (by simp)
        · exact .inr (List.mem_cons_of_mem _ e)
    · rw [if_neg h]
      obtain ⟨h1, h2, h3⟩ := soon_min l (i + 1) s hs hl
      refine ⟨h1, fun y hy => ?_, ?_⟩
      · rcases List.mem_cons.1 hy with rfl | hy
        · omega
        · exact h2 y hy
      · rcases h3 with e | e
        · exact .inl e
        · exact .inr (List.mem_cons_of_mem _ e)
theorem soonest_min (x : Int) (l : List Int) (hn : l.length ≤ 100) (hv : ∀ y ∈ x :: l, 0 ≤ y ∧ y ≤ 1000000000) : soonest (x :: l) ∈ x :: l ∧ ∀ y ∈ x :: l, soonest (x :: l) ≤ y := by
  have hx := hv x (by simp)
  have hl : ∀ y ∈ l, 0 ≤ y ∧ y ≤ 1000000000 := fun y hy => hv y (List.mem_cons_of_mem _ hy)
  have e : soonest (x :: l) = runE soonStep id (0 + 1) l x := by
    unfold soonest
    rw [if_neg (by simp; omega), runE]
    simp only [soonStep]
    rw [if_pos ⟨hx, .inl (by omega)⟩]
  rw [e]
  obtain ⟨h1, h2, h3⟩ := soon_min l (0 + 1) x hx.1 hl
  refine ⟨?_, fun y hy => ?_⟩
  · rcases h3 with e | e
    · rw [e]; simp
    · exact List.mem_cons_of_mem _ e
  · rcases List.mem_cons.1 hy with rfl | hy
    · exact h1
    · exact h2 y hy
theorem first_ne (now : Int) : ∀ (ks ts : List Int), ts.length = ks.length → (∀ x ∈ ks, x ≠ 0) → ∀ t ∈ ts, dueIn t now = true → firstDue now ks ts ≠ 0
  | [], ts, hl, _, t, ht, _ => by
    have : ts = [] := List.eq_nil_of_length_eq_zero hl
    subst this
    simp at ht
  | k :: ks, [], hl, _, t, ht, _ => by simp at ht
  | k :: ks, u :: ts, hl, hk, t, ht, hd => by
    rw [firstDue]
    by_cases h : dueIn u now = true
    · rw [if_pos h]; exact hk k (by simp)
    · rw [if_neg h]
      rcases List.mem_cons.1 ht with rfl | ht
      · exact absurd hd h
      · exact first_ne now ks ts (by simpa using hl) (fun x hx => hk x (List.mem_cons_of_mem _ hx)) t ht hd
theorem first_zero (now : Int) : ∀ (ks ts : List Int), (∀ t ∈ ts, ¬ dueIn t now = true) → firstDue now ks ts = 0
  | [], ts, _ => by rw [firstDue]; intro x xs t ts' h; cases h
  | k :: ks, [], _ => by rw [firstDue]; intro x xs t ts' _ h; cases h
  | k :: ks, u :: ts, h => by
    rw [firstDue, if_neg (h u (by simp))]
    exact first_zero now ks ts (fun t ht => h t (List.mem_cons_of_mem _ ht))
theorem kinds_ne (c1 : Int) (c5 : Bool) : ∀ x ∈ kindsOf c1 c5, x ≠ 0 := by
  unfold kindsOf
  intro x hx
  split at hx
  · simp at hx; omega
  · split at hx
    · simp at hx; omega
    · simp at hx
theorem beg_valid (t d : Int) (ht : 0 ≤ t ∧ t ≤ 1000000000) (hd : 0 < d ∧ d ≤ 1000) : 0 ≤ beg t d ∧ beg t d ≤ 1000000000 := by
  unfold beg addTick
  rw [if_neg (by omega), if_pos ⟨ht, by omega⟩]
  repeat' split
  all_goals omega
theorem conns_j3 (c0 c1 c2 c3 c4 : Int) (c5 : Bool) (h : connOk c0 c1 c2 c3 c4 c5 = true) (h5 : c5 = false) : Ev (fun k => laws_FnConns.j3 k c0 c1 c2 c3 c4 c5) true := by
  have hb := conn_bounds _ _ _ _ _ _ h
  have hboth : bothOk 1 4 30 1000 100 40 200 2 32 50 60 5 20 50 c0 c1 c2 c3 c4 c5 = true := by
    unfold bothOk
    rw [h, Bool.and_true]
    decide
  refine Ev.step (fun k => by rw [laws_FnConns.j3]) ?_
  refine Ev.bind' _ (Ev.is fun _ => rfl) ?_
  refine Ev.bind' _ (iNextConnDue_ev 1 4 30 1000 100 40 200 2 32 50 60 5 20 50 c0 c1 c2 c3 c4 c5) ?_
  have en : nextConnDue 1 4 30 1000 100 40 200 2 32 50 60 5 20 50 c0 c1 c2 c3 c4 c5 = soonest (ticksOf 1000 100 40 200 c1 c2 c3 c5) := by unfold nextConnDue; rw [if_pos hboth]
  have ed : ∀ now, connDue 1 4 30 1000 100 40 200 2 32 50 60 5 20 50 c0 c1 c2 c3 c4 c5 now = firstDue now (kindsOf c1 c5) (ticksOf 1000 100 40 200 c1 c2 c3 c5) := fun now => by unfold connDue; rw [if_pos hboth]
  have hkt := kinds_ticks 1000 100 40 200 c1 c2 c3 c5
  rw [en]
  by_cases hq : c1 = 1 ∨ c1 = 3
  · have hex : ∃ x l, ticksOf 1000 100 40 200 c1 c2 c3 c5 = x :: l ∧ l.length ≤ 100 ∧ ∀ y ∈ x :: l, 0 ≤ y ∧ y ≤ 1000000000 := by
      unfold ticksOf
      rcases hq with e | e
      · rw [if_pos e]
        refine ⟨_, _, rfl, by simp, fun y hy => ?_⟩
        simp only [List.mem_cons, List.not_mem_nil, or_false] at hy
        rcases hy with rfl | rfl | rfl
        · exact beg_valid _ _ (by omega) (by omega)
        · exact beg_valid _ _ (by omega) (by omega)
        · exact beg_valid _ _ (by omega) (by omega)
      · rw [if_neg (by omega), if_pos ⟨e, h5⟩]
        refine ⟨_, _, rfl, by simp, fun y hy => ?_⟩
        simp only [List.mem_cons, List.not_mem_nil, or_false] at hy
        rw [hy]
        exact beg_valid _ _ (by omega) (by omega)
    obtain ⟨x, l, el, hn, hv⟩ := hex
    obtain ⟨hm, hmin⟩ := soonest_min x l hn hv
    rw [← el] at hm hmin hv
    generalize soonest (ticksOf 1000 100 40 200 c1 c2 c3 c5) = m at hm hmin ⊢
    have hr := hv m hm
    have hd : dueIn m m = true := by unfold dueIn; rw [decide_eq_true_eq]; omega
    refine Ev.neg (by omega) (Ev.bind' _ (iConnDue_ev 1 4 30 1000 100 40 200 2 32 50 60 5 20 50 c0 c1 c2 c3 c4 c5 m) ?_)
    rw [ed]
    refine Ev.neg (first_ne m _ _ hkt.1 (kinds_ne c1 c5) m hm hd) ?_
    by_cases m0 : m = 0
    · exact Ev.pos m0 (Ev.now _)
    by_cases m1 : m = 1000000000
    · exact Ev.neg m0 (Ev.pos m1 (Ev.now _))
    refine Ev.neg m0 (Ev.neg m1 (Ev.bind' _ (iConnDue_ev 1 4 30 1000 100 40 200 2 32 50 60 5 20 50 c0 c1 c2 c3 c4 c5 (wrap64 (m - 1))) ?_))
    rw [ed, w64 (by omega) (by omega), first_zero]
    · exact Ev.now _
    · intro t ht
      have := hmin t ht
      unfold dueIn
      rw [decide_eq_true_eq]
      omega
  · have et : ticksOf 1000 100 40 200 c1 c2 c3 c5 = [] := by unfold ticksOf; rw [if_neg (by omega), if_neg (fun e => hq (.inr e.1))]
    rw [et]
    refine Ev.pos (by decide) (Ev.neg (by omega) (Ev.is fun _ => ?_))
    have : c1 ≠ 3 := fun e => hq (.inr e)
    simp [this]
theorem conns_l0 (c0 c1 c2 c3 c4 : Int) (c5 : Bool) (h4 : c1 = 4) (hk : Ev (fun k => laws_FnConns.j3 k c0 c1 c2 c3 c4 c5) true) : ∀ (d i : Nat), i + d = 8 → Ev (fun k => laws_FnConns.l0 k (i : Int) c0 c1 c2 c3 c4 c5) true := by
  intro d
  induction d with
  | zero =>
    intro i hi
    refine Ev.step (fun k => by rw [laws_FnConns.l0]) ?_
    exact Ev.neg (by omega) hk
  | succ d ih =>
    intro i hi
    refine Ev.step (fun k => by rw [laws_FnConns.l0]) ?_
    rw [wsucc i (by omega)]
    refine Ev.pos (by omega) (Ev.bind' _ (iStepConn_ev c0 c1 c2 c3 c4 c5 (i : Int) c3 1) (Ev.neg ?_ (ih (i + 1) (by omega))))
    have ht : tgt c1 (i : Int) < 0 := by
      unfold tgt
      rw [h4]
      repeat' split
      all_goals omega
    unfold stepConn
    rw [if_neg (fun e => e.2.2 (.inl ht))]
    simp
theorem conns_j0 (x : Int) (c : Cn) (h : ¬ x = 0 → inv c) (a1 a2 a3 a4 : Int) (a5 : Bool) : Ev (fun k => laws_FnConns.j0 k false x a1 a2 a3 a4 a5 c.1 c.2.1 c.2.2.1 c.2.2.2.1 c.2.2.2.2.1 c.2.2.2.2.2) true := by
  refine Ev.step (fun k => by rw [laws_FnConns.j0]) (Ev.neg (by simp) ?_)
  by_cases hx : x = 0
  · exact Ev.pos hx (Ev.now _)
  obtain ⟨h1, h2⟩ := h hx
  have hb := conn_bounds _ _ _ _ _ _ h1
  refine Ev.neg hx (Ev.bind' _ (sConnOk_ev _ _ _ _ _ _) (Ev.pos h1 ?_))
  refine Ev.step (fun k => by rw [laws_FnConns.j1]) (Ev.neg ?_ ?_)
  · by_cases e : c.2.1 = 3
    · have := hb.2.2.2.2.2
      rw [if_pos e] at this
      have e4 : c.2.2.2.2.1 > 0 := by omega
      simp [e, e4]
    · have := hb.2.2.2.2.2
      rw [if_neg e] at this
      simp [e, this.1]
  · have hj := conns_j3 _ _ _ _ _ _ h1 h2
    by_cases e : c.2.1 = 4
    · exact Ev.pos e (conns_l0 _ _ _ _ _ _ e hj 8 0 rfl)
    · exact Ev.neg e hj
theorem FnConns : laws_FnConns.Pure := by
  intro code _ hl hw
  refine Ev.rounds (r := true) ?_
  unfold laws_FnConns.f
  refine Ev.bind' _ (Ev.is fun _ => lawBig code) ?_
  by_cases hb : (code.length : Int) > 1048576
  · exact Ev.pos (by simpa using hb) (Ev.now _)
  refine Ev.neg (by simpa using hb) ?_
  obtain ⟨r, hr⟩ := sDrawConn code (by omega)
  refine Ev.bind' _ hr (Ev.bind' _ (sPlayConn_ev r.1 r.2) (Ev.bind' _ (iPlayConn_ev r.1 r.2) (Ev.neg (by simp) ?_)))
  have hpl := playConn_len r.1 r.2
  refine Ev.bind' _ (same_ev _ (by omega)) ?_
  have hi := inv_play r.1 r.2 (playConn r.1 r.2) rfl
  exact conns_j0 _ ((playConn r.1 r.2).1, (playConn r.1 r.2).2.1, (playConn r.1 r.2).2.2.1, (playConn r.1 r.2).2.2.2.1, (playConn r.1 r.2).2.2.2.2.1, (playConn r.1 r.2).2.2.2.2.2.1) hi _ _ _ _ _

end Go.Proofs.Ytpckdemamlhpdaa.Pure
