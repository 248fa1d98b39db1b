/-
For every configuration and connection the program's NextConnDue and the reference's NextConnDue answer alike (the printed law answers true). The fields are any 64-bit numbers.
-/
import Derived.Test.YtpckdemamlhpdaaMFnExactNextConnDuex9
namespace Go.Proofs.Ytpckdemamlhpdaa.Pure
open Go.RowKit Go.Proofs.Ytpckdemamlhpdaa.MFnExactNextConnDue Go.Proofs.YtpckdemamlhpdaaW.PrintWords Go.Proofs.YtpckdemamlhpdaaW.PrintLast Go.Proofs.YtpckdemamlhpdaaW.PrintMore 
set_option linter.unusedVariables false
set_option linter.unusedSimpArgs false

theorem w64 {n : Int} (h0 : -9223372036854775808 ≤ n) (h1 : n ≤ 9223372036854775807) : wrap64 n = n := by unfold wrap64; omega
theorem wsucc (i : Nat) (h : i < 9223372036854775807) : wrap64 ((i : Int) + 1) = ((i + 1 : Nat) : Int) := by rw [w64 (by omega) (by omega)]; omega
theorem rd_nat (xs : List Int) (i : Nat) (h : i < xs.length) : rd xs (i : Int) = xs[i] := by simp [rd, h]
theorem rdOf_nat {α : Type} (d : α) (xs : List α) (i : Nat) (h : i < xs.length) : rdOf d xs (i : Int) = xs[i] := by simp [rdOf, h]
theorem Ev.pos {α : Type} {c : Prop} [Decidable c] {A B : Nat → Option α} {r : α} (h : c) (e : Ev A r) : Ev (fun k => if c then A k else B k) r := Ev.congr (fun _ => if_pos h) e
theorem Ev.neg {α : Type} {c : Prop} [Decidable c] {A B : Nat → Option α} {r : α} (h : ¬ c) (e : Ev B r) : Ev (fun k => if c then A k else B k) r := Ev.congr (fun _ => if_neg h) e
theorem Ev.bind' {α β : Type} {g : Nat → Option α} {f : Nat → α → Option β} {r : β} (a : α) (h : Ev g a) (k : Ev (fun n => f n a) r) : Ev (fun n => (g n).bind (f n)) r := Ev.bind h k
theorem Ev.some' {α β : Type} {a : α} {f : Nat → α → Option β} {r : β} (k : Ev (fun n => f n a) r) : Ev (fun n => (Option.some a).bind (f n)) r := Ev.bind (Ev.now a) k
theorem Ev.is {α : Type} {g : Nat → Option α} {r : α} (h : ∀ k, g k = some r) : Ev g r := ⟨0, fun k _ => h k⟩
theorem Ev.at1 {α : Type} {g : Nat → Option α} {r : α} (h : ∀ k, g (k + 1) = some r) : Ev g r := ⟨1, fun k hk => by obtain ⟨m, rfl⟩ : ∃ m, k = m + 1 := ⟨k - 1, by omega⟩; exact h m⟩
theorem Ev.at2 {α : Type} {g : Nat → Option α} {r : α} (h : ∀ k, g (k + 2) = some r) : Ev g r := ⟨2, fun k hk => by obtain ⟨m, rfl⟩ : ∃ m, k = m + 2 := ⟨k - 2, by omega⟩; exact h m⟩
theorem Ev.at3 {α : Type} {g : Nat → Option α} {r : α} (h : ∀ k, g (k + 3) = some r) : Ev g r := ⟨3, fun k hk => by obtain ⟨m, rfl⟩ : ∃ m, k = m + 3 := ⟨k - 3, by omega⟩; exact h m⟩
/-- What a loop over a list comes to: a state, a step that goes on or answers, an end. -/
def runE {α σ ρ : Type} (step : Nat → σ → α → Except ρ σ) (fin : σ → ρ) : Nat → List α → σ → ρ
  | _, [], s => fin s
  | i, x :: xs, s => match step i s x with
    | .error r => r
    | .ok s' => runE step fin (i + 1) xs s'
/-- A loop over a list, round by round (from K rounds on). -/
theorem loop_run {α σ ρ : Type} (xs : List α) (L : Nat → σ → Int → Option ρ) (step : Nat → σ → α → Except ρ σ) (fin : σ → ρ) (K : Nat)
    (hs : ∀ k, K ≤ k → ∀ s (i : Nat) (h : i < xs.length), L (k + 1) s i = match step i s xs[i] with | .error r => some r | .ok s' => L k s' ((i + 1 : Nat) : Int))
    (he : ∀ k s, L (k + 1) s (xs.length : Int) = some (fin s)) :
    ∀ (d k : Nat) (s : σ) (i : Nat), i ≤ xs.length → xs.length - i = d → d + K < k → L k s (i : Int) = some (runE step fin i (xs.drop i) s) := by
  intro d
  induction d with
  | zero =>
    intro k s i hi hd hk
    obtain ⟨k, rfl⟩ : ∃ m, k = m + 1 := ⟨k - 1, by omega⟩
    obtain rfl : i = xs.length := by omega
    rw [he, List.drop_length, runE]
  | succ d ih =>
    intro k s i hi hd hk
    obtain ⟨k, rfl⟩ : ∃ m, k = m + 1 := ⟨k - 1, by omega⟩
    have hlt : i < xs.length := by omega
    rw [hs k (by omega) s i hlt, List.drop_eq_getElem_cons hlt, runE]
    cases step i s xs[i] with
    | error r => rfl
    | ok s' => exact ih k s' (i + 1) (by omega) (by omega) (by omega)
/-- The same, from the start. -/
theorem loop_ev {α σ ρ : Type} (xs : List α) (L : Nat → σ → Int → Option ρ) (step : Nat → σ → α → Except ρ σ) (fin : σ → ρ) (K : Nat)
    (hs : ∀ k, K ≤ k → ∀ s (i : Nat) (h : i < xs.length), L (k + 1) s i = match step i s xs[i] with | .error r => some r | .ok s' => L k s' ((i + 1 : Nat) : Int))
    (he : ∀ k s, L (k + 1) s (xs.length : Int) = some (fin s)) (s : σ) : Ev (fun k => L k s 0) (runE step fin 0 xs s) :=
  ⟨xs.length + K + 1, fun k hk => by have := loop_run xs L step fin K hs he xs.length k s 0 (by omega) (by omega) (by omega); simpa using this⟩
theorem wf_b {n : Int} (h : (Lit.int .i64 n).wf = true) : -9223372036854775808 ≤ n ∧ n ≤ 9223372036854775807 := by
  simp [Lit.wf, IntKind.min, IntKind.max, IntKind.signed, IntKind.bits] at h
  omega
theorem Ev.ite {α : Type} {c : Prop} [Decidable c] {A B : Nat → Option α} {a b : α} (h1 : c → Ev A a) (h2 : ¬ c → Ev B b) : Ev (fun k => if c then A k else B k) (if c then a else b) := by
  by_cases h : c
  · rw [if_pos h]; exact Ev.pos h (h1 h)
  · rw [if_neg h]; exact Ev.neg h (h2 h)

def configOk (a0 a1 a2 a3 a4 a5 a6 a7 a8 a9 a10 a11 a12 a13 : Int) : Bool := decide ((1 ≤ a1 ∧ a1 ≤ 12) ∧ (0 ≤ a0 ∧ a0 ≤ a1) ∧ (0 ≤ a2 ∧ a2 ≤ 1000000000) ∧ (a2 ≠ 0) ∧ (0 ≤ a3 ∧ a3 ≤ 1000000000) ∧ (0 ≤ a4 ∧ a4 ≤ 1000000000) ∧ (0 ≤ a5 ∧ a5 ≤ 1000000000) ∧ (0 ≤ a6 ∧ a6 ≤ 1000000000) ∧ (0 ≤ a13 ∧ a13 ≤ 1000000000) ∧ (a13 ≠ 0) ∧
  (1 ≤ a8 ∧ a8 ≤ 1000000) ∧ (1 ≤ a7 ∧ a7 ≤ a8) ∧ (0 ≤ a9 ∧ a9 ≤ 100) ∧ (1 ≤ a10 ∧ a10 ≤ 1000000) ∧ (1 ≤ a11 ∧ a11 ≤ 20) ∧ (1 ≤ a12 ∧ a12 ≤ 1000000))

def connOk (a b c d e : Int) (f : Bool) : Bool := decide ((1 ≤ a ∧ a ≤ 1000000000) ∧ (0 ≤ b ∧ b ≤ 4) ∧ (0 ≤ d ∧ d ≤ 1000000000) ∧ (0 ≤ c ∧ c ≤ d) ∧ (b = 0 → c = 0) ∧ (if b = 3 then 1 ≤ e ∧ e ≤ 1000000000 else e = 0 ∧ f = false))

def addTick (t d : Int) : Int := if (0 ≤ t ∧ t ≤ 1000000000) ∧ (-1000000000 ≤ d ∧ d ≤ 1000000000) then (if t + d > 1000000000 then 1000000000 else if t + d < 0 then 0 else t + d) else -1

/-- The tick at which something begins; -1 where it never does. -/
def beg (t d : Int) : Int := if d = 0 then -1 else addTick t d
def kindsOf (c1 : Int) (c5 : Bool) : List Int := if c1 = 1 then [1, 2, 3] else if c1 = 3 ∧ c5 = false then [4] else []
def ticksOf (a3 a4 a5 a6 c1 c2 c3 : Int) (c5 : Bool) : List Int := if c1 = 1 then [beg c2 a3, beg c3 a4, beg c3 a5] else if c1 = 3 ∧ c5 = false then [beg c3 a6] else []
def bothOk (a0 a1 a2 a3 a4 a5 a6 a7 a8 a9 a10 a11 a12 a13 : Int) (c0 c1 c2 c3 c4 : Int) (c5 : Bool) : Bool := configOk a0 a1 a2 a3 a4 a5 a6 a7 a8 a9 a10 a11 a12 a13 && connOk c0 c1 c2 c3 c4 c5
theorem bothOk_parts (a0 a1 a2 a3 a4 a5 a6 a7 a8 a9 a10 a11 a12 a13 : Int) (c0 c1 c2 c3 c4 : Int) (c5 : Bool) (h : bothOk a0 a1 a2 a3 a4 a5 a6 a7 a8 a9 a10 a11 a12 a13 c0 c1 c2 c3 c4 c5 = true) : (0 ≤ a3 ∧ a3 ≤ 1000000000) ∧ (0 ≤ a4 ∧ a4 ≤ 1000000000) ∧ (0 ≤ a5 ∧ a5 ≤ 1000000000) ∧ (0 ≤ a6 ∧ a6 ≤ 1000000000) ∧ (0 ≤ c2 ∧ c2 ≤ 1000000000) ∧ (0 ≤ c3 ∧ c3 ≤ 1000000000) := by
  unfold bothOk configOk connOk at h
  simp only [Bool.and_eq_true, decide_eq_true_eq] at h
  obtain ⟨⟨_, _, _, _, h3, h4, h5, h6, _⟩, ⟨_, _, h7, h8, _⟩⟩ := h
  exact ⟨h3, h4, h5, h6, by omega, h7⟩

def soonStep (_ : Nat) (s : Int) (x : Int) : Except Int Int := .ok (if (0 ≤ x ∧ x ≤ 1000000000) ∧ (s < 0 ∨ x < s) then x else s)
def soonest (l : List Int) : Int := if (l.length : Int) > 300 then -1 else runE soonStep id 0 l (-1)

def nextConnDue (a0 a1 a2 a3 a4 a5 a6 a7 a8 a9 a10 a11 a12 a13 : Int) (c0 c1 c2 c3 c4 : Int) (c5 : Bool) : Int := if bothOk a0 a1 a2 a3 a4 a5 a6 a7 a8 a9 a10 a11 a12 a13 c0 c1 c2 c3 c4 c5 = true then soonest (ticksOf a3 a4 a5 a6 c1 c2 c3 c5) else -1

theorem sIn (a b c : Int) : spec_l01In.f a b c = some (decide (b ≤ a ∧ a ≤ c)) := by
  unfold spec_l01In.f; by_cases h : b ≤ a <;> simp [h]

theorem sTick (a : Int) : spec_TickOk.f a = some (decide (0 ≤ a ∧ a ≤ 1000000000)) := by unfold spec_TickOk.f; rw [sIn]; rfl

theorem sSoonest_ev (l : List Int) : Ev (fun k => spec_SoonestOf.f k l) (soonest l) := by
  unfold spec_SoonestOf.f soonest
  by_cases h : (l.length : Int) > 300
  · rw [if_pos h]; exact Ev.pos h (Ev.now _)
  · rw [if_neg h]
    refine Ev.neg h (loop_ev l (fun k s i => spec_SoonestOf.l0 k l s i) soonStep id 0 (fun k _ s i hi => ?_) (fun k s => ?_) (-1))
    · simp only [spec_SoonestOf.l0, sTick, Option.bind_some, soonStep]
      rw [if_pos (by omega), if_pos (by omega), wsucc i (by omega), rd_nat l i hi]
      by_cases h1 : 0 ≤ l[i] ∧ l[i] ≤ 1000000000 <;> by_cases h2 : s < 0 <;> by_cases h3 : l[i] < s <;> simp [h1, h2, h3]
    · simp [spec_SoonestOf.l0]

theorem sConfigOk (k : Nat) (a0 a1 a2 a3 a4 a5 a6 a7 a8 a9 a10 a11 a12 a13 : Int) : spec_ConfigOk.f (k + 2) a0 a1 a2 a3 a4 a5 a6 a7 a8 a9 a10 a11 a12 a13 = some (configOk a0 a1 a2 a3 a4 a5 a6 a7 a8 a9 a10 a11 a12 a13) := by
  unfold spec_ConfigOk.f configOk
  simp only [sTick, sIn, Option.bind_some]
  by_cases h1 : 1 ≤ a1 ∧ a1 ≤ 12
  case neg => simp [h1, spec_ConfigOk.j0]
  by_cases h2 : 0 ≤ a0 ∧ a0 ≤ a1
  case neg => simp [h1, h2, spec_ConfigOk.j0]
  simp only [h1, h2, and_self, decide_true, if_true, Bool.not_true, spec_ConfigOk.j0, sTick, Option.bind_some, Bool.false_eq_true, if_false, true_and]
  clear h1 h2
  by_cases h3 : 0 ≤ a2 ∧ a2 ≤ 1000000000
  case neg => simp [h3, spec_ConfigOk.j1]
  by_cases h4 : a2 = 0
  case pos => subst h4; simp [spec_ConfigOk.j1]
  by_cases h5 : 0 ≤ a3 ∧ a3 ≤ 1000000000
  case neg => simp [h3, h4, h5, spec_ConfigOk.j1]
  by_cases h6 : 0 ≤ a4 ∧ a4 ≤ 1000000000
  case neg => simp [h3, h4, h5, h6, spec_ConfigOk.j1]
  by_cases h7 : 0 ≤ a5 ∧ a5 ≤ 1000000000
  case neg => simp [h3, h4, h5, h6, h7, spec_ConfigOk.j1]
  by_cases h8 : 0 ≤ a6 ∧ a6 ≤ 1000000000
  case neg => simp [h3, h4, h5, h6, h7, h8, spec_ConfigOk.j1]
  by_cases h9 : 0 ≤ a13 ∧ a13 ≤ 1000000000
  case neg => simp [h3, h4, h5, h6, h7, h8, h9, spec_ConfigOk.j1]
  by_cases h10 : a13 = 0
  case pos => subst h10; simp [h3, h4, h5, h6, h7, h8, spec_ConfigOk.j1]
  simp only [h3, h4, h5, h6, h7, h8, h9, h10, and_self, decide_true, if_true, if_false, beq_eq_false_iff_ne.mpr h10, Bool.false_eq_true, spec_ConfigOk.j1, sIn, Option.bind_some, ne_eq, not_false_eq_true, true_and]
  by_cases g1 : 1 ≤ a8 ∧ a8 ≤ 1000000
  case neg => simp [g1]
  by_cases g2 : 1 ≤ a7 ∧ a7 ≤ a8
  case neg => simp [g1, g2]
  by_cases g3 : 0 ≤ a9 ∧ a9 ≤ 100
  case neg => simp [g1, g2, g3]
  by_cases g4 : 1 ≤ a10 ∧ a10 ≤ 1000000
  case neg => simp [g1, g2, g3, g4]
  by_cases g5 : 1 ≤ a11 ∧ a11 ≤ 20
  case neg => simp [g1, g2, g3, g4, g5]
  simp [g1, g2, g3, g4, g5]
theorem sConfigOk_ev (a0 a1 a2 a3 a4 a5 a6 a7 a8 a9 a10 a11 a12 a13 : Int) : Ev (fun k => spec_ConfigOk.f k a0 a1 a2 a3 a4 a5 a6 a7 a8 a9 a10 a11 a12 a13) (configOk a0 a1 a2 a3 a4 a5 a6 a7 a8 a9 a10 a11 a12 a13) := Ev.at2 (fun k => sConfigOk k a0 a1 a2 a3 a4 a5 a6 a7 a8 a9 a10 a11 a12 a13)

theorem sConnOk (k : Nat) (a b c d e : Int) (f : Bool) : spec_ConnOk.f (k + 2) a b c d e f = some (connOk a b c d e f) := by
  unfold spec_ConnOk.f connOk
  simp only [sTick, sIn, Option.bind_some, spec_ConnOk.j0, spec_ConnOk.j1]
  by_cases h1 : 1 ≤ a ∧ a ≤ 1000000000
  · by_cases h2 : 0 ≤ b ∧ b ≤ 4
    · by_cases h3 : 0 ≤ d ∧ d ≤ 1000000000
      · by_cases h4 : 0 ≤ c ∧ c ≤ d
        · by_cases h5 : b = 0
          · subst h5
            by_cases h6 : c = 0 <;> by_cases h7 : e = 0 <;> cases f <;> simp [h1, h3, h4, h6, h7]
          · by_cases h6 : b = 3
            · subst h6
              simp [h1, h3, h4]
            · by_cases h7 : e = 0 <;> cases f <;> simp [h1, h2, h3, h4, h5, h6, h7]
        · simp [h1, h2, h3, h4]
      · simp [h1, h2, h3]
    · simp [h1, h2]
  · simp [h1]
theorem sConnOk_ev (a b c d e : Int) (f : Bool) : Ev (fun k => spec_ConnOk.f k a b c d e f) (connOk a b c d e f) := Ev.at2 (fun k => sConnOk k a b c d e f)

theorem sAddTick (k : Nat) (t d : Int) : spec_AddTick.f (k + 1) t d = some (addTick t d) := by
  unfold spec_AddTick.f addTick
  simp only [sTick, sIn, Option.bind_some, spec_AddTick.j0]
  by_cases h1 : 0 ≤ t ∧ t ≤ 1000000000
  · by_cases h2 : -1000000000 ≤ d ∧ d ≤ 1000000000
    · rw [w64 (by omega) (by omega)]
      simp only [h1, h2, and_self, decide_true, if_true, Bool.not_true, Bool.false_eq_true, if_false]
      repeat' split
      all_goals first | rfl | omega
    · simp [h1, h2]
  · simp [h1]
theorem sAddTick_ev (t d : Int) : Ev (fun k => spec_AddTick.f k t d) (addTick t d) := Ev.at1 (fun k => sAddTick k t d)

/-- A tick that may be left out: nothing where it never begins. -/
def tickIf (t d : Int) : List Int := if d > 0 then [addTick t d] else []
theorem soon_beg : ∀ (xs ys : List Int), (∀ i s, runE soonStep id i xs s = runE soonStep id 0 ys s) → xs.length ≤ 300 → ys.length ≤ 300 → soonest xs = soonest ys := by
  intro xs ys h h1 h2
  unfold soonest
  rw [if_neg (by omega), if_neg (by omega)]
  exact h 0 _
theorem run_any : ∀ (xs : List Int) (i j : Nat) (s : Int), runE soonStep id i xs s = runE soonStep id j xs s
  | [], _, _, _ => rfl
  | x :: xs, i, j, s => by
    rw [runE, runE]
    simp only [soonStep]
    exact run_any xs _ _ _
theorem run_tickIf (t d : Int) (hd : 0 ≤ d) (r : List Int) (i : Nat) (s : Int) : runE soonStep id i (beg t d :: r) s = runE soonStep id 0 (tickIf t d ++ r) s := by
  unfold tickIf beg
  by_cases h : d = 0
  · rw [if_pos h, if_neg (by omega), List.nil_append, runE]
    simp only [soonStep]
    rw [if_neg (by omega)]
    exact run_any r _ _ s
  · rw [if_neg h, if_pos (by omega), List.singleton_append, runE, runE]
    simp only [soonStep]
    exact run_any r _ _ _
theorem tickIf_len (t d : Int) : (tickIf t d).length ≤ 1 := by
  unfold tickIf
  split <;> simp
theorem run_app : ∀ (p xs ys : List Int), (∀ i s, runE soonStep id i xs s = runE soonStep id 0 ys s) → ∀ i s, runE soonStep id i (p ++ xs) s = runE soonStep id 0 (p ++ ys) s
  | [], xs, ys, h, i, s => h i s
  | x :: p, xs, ys, h, i, s => by
    rw [List.cons_append, List.cons_append, runE, runE]
    simp only [soonStep]
    exact (run_app p xs ys h (i + 1) _).trans (run_any _ _ _ _)
theorem soon_held (t d : Int) (hd : 0 ≤ d) : soonest [beg t d] = soonest (tickIf t d) := by
  have := tickIf_len t d
  refine soon_beg _ _ (fun i s => ?_) (by simp) (by omega)
  have := run_tickIf t d hd [] i s
  rwa [List.append_nil] at this
theorem soon_idle (t1 d1 t2 d2 t3 d3 : Int) (h1 : 0 ≤ d1) (h2 : 0 ≤ d2) (h3 : 0 ≤ d3) : soonest [beg t1 d1, beg t2 d2, beg t3 d3] = soonest (tickIf t1 d1 ++ (tickIf t2 d2 ++ tickIf t3 d3)) := by
  have l1 := tickIf_len t1 d1
  have l2 := tickIf_len t2 d2
  have l3 := tickIf_len t3 d3
  refine soon_beg _ _ (fun i s => ?_) (by simp) (by simp only [List.length_append]; omega)
  rw [run_tickIf t1 d1 h1]
  refine run_app (tickIf t1 d1) _ _ (fun i s => ?_) 0 s
  rw [run_tickIf t2 d2 h2]
  refine run_app (tickIf t2 d2) _ _ (fun i s => ?_) 0 s
  have := run_tickIf t3 d3 h3 [] i s
  rwa [List.append_nil] at this
theorem sNextConnDue_ev (a0 a1 a2 a3 a4 a5 a6 a7 a8 a9 a10 a11 a12 a13 : Int) (c0 c1 c2 c3 c4 : Int) (c5 : Bool) : Ev (fun k => spec_NextConnDue.f k a0 a1 a2 a3 a4 a5 a6 a7 a8 a9 a10 a11 a12 a13 c0 c1 c2 c3 c4 c5) (nextConnDue a0 a1 a2 a3 a4 a5 a6 a7 a8 a9 a10 a11 a12 a13 c0 c1 c2 c3 c4 c5) := by
  unfold spec_NextConnDue.f nextConnDue
  have hj : ∀ b : Bool, b = true → Ev (fun k => spec_NextConnDue.j0 k b a0 a1 a2 a3 a4 a5 a6 a7 a8 a9 a10 a11 a12 a13 c0 c1 c2 c3 c4 c5) (-1) := fun b hb => by
    refine Ev.step (fun k => by rw [spec_NextConnDue.j0]) ?_
    exact Ev.pos hb (Ev.now _)
  refine Ev.bind' _ (sConfigOk_ev a0 a1 a2 a3 a4 a5 a6 a7 a8 a9 a10 a11 a12 a13) ?_
  by_cases h : bothOk a0 a1 a2 a3 a4 a5 a6 a7 a8 a9 a10 a11 a12 a13 c0 c1 c2 c3 c4 c5 = true
  case neg =>
    rw [if_neg h]
    unfold bothOk at h
    by_cases h1 : configOk a0 a1 a2 a3 a4 a5 a6 a7 a8 a9 a10 a11 a12 a13 = true
    · refine Ev.pos h1 (Ev.bind' _ (sConnOk_ev c0 c1 c2 c3 c4 c5) (hj _ ?_))
      rw [h1] at h
      simpa using h
    · exact Ev.neg h1 (hj _ rfl)
  rw [if_pos h]
  obtain ⟨g3, g4, g5, g6, gc2, gc3⟩ := bothOk_parts a0 a1 a2 a3 a4 a5 a6 a7 a8 a9 a10 a11 a12 a13 c0 c1 c2 c3 c4 c5 h
  unfold bothOk at h
  rw [Bool.and_eq_true] at h
  have hj3 : ∀ (l : List Int) (b : Bool) (r : Int), l.length ≤ 10 → r = soonest (l ++ if b = true then [addTick c3 a6] else []) → Ev (fun k => spec_NextConnDue.j3 k l b a0 a1 a2 a3 a4 a5 a6 a7 a8 a9 a10 a11 a12 a13 c0 c1 c2 c3 c4 c5) r := fun l b r hl hr => by
    subst hr
    refine Ev.step (fun k => by rw [spec_NextConnDue.j3]) ?_
    cases b with
    | true => exact Ev.pos rfl (Ev.bind' _ (sAddTick_ev _ _) (Ev.pos (by omega) (Ev.bind' _ (sSoonest_ev _) (Ev.now _))))
    | false => rw [if_neg (by simp), List.append_nil]; exact Ev.neg (by simp) (Ev.bind' _ (sSoonest_ev _) (Ev.now _))
  refine Ev.pos h.1 (Ev.bind' _ (sConnOk_ev c0 c1 c2 c3 c4 c5) (Ev.step (fun k => by rw [spec_NextConnDue.j0]) (Ev.neg (by simp [h.2]) (Ev.some' ?_))))
  unfold ticksOf
  by_cases e1 : c1 = 1
  · rw [if_pos e1, soon_idle _ _ _ _ _ _ g3.1 g4.1 g5.1]
    have hj2 : ∀ (l : List Int), l.length ≤ 5 → Ev (fun k => spec_NextConnDue.j2 k l a0 a1 a2 a3 a4 a5 a6 a7 a8 a9 a10 a11 a12 a13 c0 c1 c2 c3 c4 c5) (soonest l) := fun l hl => by
      refine Ev.step (fun k => by rw [spec_NextConnDue.j2]) ?_
      exact Ev.neg (by omega) (hj3 l false _ (by omega) (by simp))
    have hj1 : ∀ (l : List Int), l.length ≤ 2 → Ev (fun k => spec_NextConnDue.j1 k l a0 a1 a2 a3 a4 a5 a6 a7 a8 a9 a10 a11 a12 a13 c0 c1 c2 c3 c4 c5) (soonest (l ++ (tickIf c3 a4 ++ tickIf c3 a5))) := fun l hl => by
      refine Ev.step (fun k => by rw [spec_NextConnDue.j1]) ?_
      unfold tickIf
      by_cases q4 : a4 > 0
      · rw [if_pos q4]
        refine Ev.pos q4 (Ev.bind' _ (sAddTick_ev _ _) (Ev.pos (by omega) (Ev.some' ?_)))
        by_cases q5 : a5 > 0
        · rw [if_pos q5]
          refine Ev.pos q5 (Ev.bind' _ (sAddTick_ev _ _) (Ev.pos (by simp; omega) ?_))
          rw [← List.append_assoc]
          exact hj2 _ (by simp; omega)
        · rw [if_neg q5, List.append_nil]
          exact Ev.neg q5 (hj2 _ (by simp; omega))
      · rw [if_neg q4, List.nil_append]
        refine Ev.neg q4 ?_
        by_cases q5 : a5 > 0
        · rw [if_pos q5]
          exact Ev.pos q5 (Ev.bind' _ (sAddTick_ev _ _) (Ev.pos (by omega) (hj2 _ (by simp; omega))))
        · rw [if_neg q5, List.append_nil]
          exact Ev.neg q5 (hj2 _ (by omega))
    refine Ev.pos e1 ?_
    by_cases q3 : a3 > 0
    · have et : tickIf c2 a3 = [addTick c2 a3] := by unfold tickIf; rw [if_pos q3]
      rw [et]
      exact Ev.pos q3 (Ev.bind' _ (sAddTick_ev _ _) (Ev.pos (by simp) (hj1 _ (by simp))))
    · have et : tickIf c2 a3 = [] := by unfold tickIf; rw [if_neg q3]
      rw [et]
      exact Ev.neg q3 (hj1 _ (by simp))
  · rw [if_neg e1]
    refine Ev.neg e1 (Ev.step (fun k => by rw [spec_NextConnDue.j2]) ?_)
    by_cases e3 : c1 = 3
    · refine Ev.pos e3 ?_
      cases c5 with
      | true => rw [if_neg (by simp)]; exact Ev.pos rfl (hj3 [] false _ (by simp) (by simp))
      | false =>
        rw [if_pos ⟨e3, rfl⟩, soon_held _ _ g6.1]
        refine Ev.neg (by simp) (hj3 [] _ _ (by simp) ?_)
        unfold tickIf
        by_cases q : a6 > 0 <;> simp [q]
    · rw [if_neg (fun x => e3 x.1)]
      exact Ev.neg e3 (hj3 [] false _ (by simp) (by simp))

theorem iIn (a b c : Int) : impl_in.f a b c = some (decide (b ≤ a ∧ a ≤ c)) := by
  unfold impl_in.f; by_cases h : b ≤ a <;> simp [h]

theorem iTick (a : Int) : impl_TickOk.f a = some (decide (0 ≤ a ∧ a ≤ 1000000000)) := by unfold impl_TickOk.f; rw [iIn]; rfl

theorem iConfigOk_j1 (k : Nat) (x5 : Bool) (a0 a1 a2 a3 a4 a5 a6 a7 a8 a9 a10 a11 a12 a13 : Int) : impl_ConfigOk.j1 (k + 1) x5 a0 a1 a2 a3 a4 a5 a6 a7 a8 a9 a10 a11 a12 a13 = some (x5 && decide ((1 ≤ a8 ∧ a8 ≤ 1000000) ∧ (1 ≤ a7 ∧ a7 ≤ a8) ∧ (0 ≤ a9 ∧ a9 ≤ 100) ∧ (1 ≤ a10 ∧ a10 ≤ 1000000) ∧ (1 ≤ a11 ∧ a11 ≤ 20) ∧ (1 ≤ a12 ∧ a12 ≤ 1000000))) := by
  simp only [impl_ConfigOk.j1, iIn, Option.bind_some]
  by_cases g2 : 1 ≤ a7 ∧ a7 ≤ a8
  case neg => cases x5 <;> simp [g2]
  by_cases g1 : a8 ≤ 1000000
  case neg => cases x5 <;> simp [g1, g2]
  have g0 : 1 ≤ a8 := by omega
  cases x5
  case false => simp [g1, g2]
  by_cases g3 : 0 ≤ a9 ∧ a9 ≤ 100
  case neg => simp [g0, g1, g2, g3]
  by_cases g4 : 1 ≤ a10 ∧ a10 ≤ 1000000
  case neg => simp [g0, g1, g2, g3, g4]
  by_cases g5 : 1 ≤ a12 ∧ a12 ≤ 1000000
  case neg => simp [g0, g1, g2, g3, g4, g5]
  simp [g0, g1, g2, g3, g4, g5]
theorem iConfigOk (k : Nat) (a0 a1 a2 a3 a4 a5 a6 a7 a8 a9 a10 a11 a12 a13 : Int) : impl_ConfigOk.f (k + 8) a0 a1 a2 a3 a4 a5 a6 a7 a8 a9 a10 a11 a12 a13 = some (configOk a0 a1 a2 a3 a4 a5 a6 a7 a8 a9 a10 a11 a12 a13) := by
  unfold impl_ConfigOk.f configOk
  simp only [Option.bind_some, List.length_cons, List.length_nil]
  by_cases h3 : 0 ≤ a2 ∧ a2 ≤ 1000000000
  case neg => simp [impl_ConfigOk.l0, iTick, rd, h3]
  by_cases h5 : 0 ≤ a3 ∧ a3 ≤ 1000000000
  case neg => simp [impl_ConfigOk.l0, iTick, rd, h3, h5, wrap64]
  by_cases h6 : 0 ≤ a4 ∧ a4 ≤ 1000000000
  case neg => simp [impl_ConfigOk.l0, iTick, rd, h3, h5, h6, wrap64]
  by_cases h7 : 0 ≤ a5 ∧ a5 ≤ 1000000000
  case neg => simp [impl_ConfigOk.l0, iTick, rd, h3, h5, h6, h7, wrap64]
  by_cases h8 : 0 ≤ a6 ∧ a6 ≤ 1000000000
  case neg => simp [impl_ConfigOk.l0, iTick, rd, h3, h5, h6, h7, h8, wrap64]
  by_cases h9 : 0 ≤ a13 ∧ a13 ≤ 1000000000
  case neg => simp [impl_ConfigOk.l0, iTick, rd, h3, h5, h6, h7, h8, h9, wrap64]
  by_cases h1 : 1 ≤ a1 ∧ a1 ≤ 12
  case neg => simp [impl_ConfigOk.l0, iTick, iIn, rd, h3, h5, h6, h7, h8, h9, h1, wrap64, iConfigOk_j1]
  by_cases h2 : 0 ≤ a0 ∧ a0 ≤ a1
  case neg => simp [impl_ConfigOk.l0, iTick, iIn, rd, h3, h5, h6, h7, h8, h9, h1, h2, wrap64, iConfigOk_j1]
  by_cases h4 : a2 = 0
  case pos => subst h4; simp [impl_ConfigOk.l0, iTick, iIn, rd, h5, h6, h7, h8, h9, h1, h2, wrap64, iConfigOk_j1]
  have h4' : 1 ≤ a2 := by omega
  by_cases h10 : a13 = 0
  case pos => subst h10; simp [impl_ConfigOk.l0, iTick, iIn, rd, h3, h5, h6, h7, h8, h1, h2, h4', wrap64, iConfigOk_j1]
  have h10' : 1 ≤ a13 := by omega
  simp [impl_ConfigOk.l0, iTick, iIn, rd, h3, h4, h5, h6, h7, h8, h9, h1, h2, h4', h10, h10', wrap64, iConfigOk_j1]
theorem iConfigOk_ev (a0 a1 a2 a3 a4 a5 a6 a7 a8 a9 a10 a11 a12 a13 : Int) : Ev (fun k => impl_ConfigOk.f k a0 a1 a2 a3 a4 a5 a6 a7 a8 a9 a10 a11 a12 a13) (configOk a0 a1 a2 a3 a4 a5 a6 a7 a8 a9 a10 a11 a12 a13) := ⟨8, fun k hk => by obtain ⟨m, rfl⟩ : ∃ m, k = m + 8 := ⟨k - 8, by omega⟩; exact iConfigOk m a0 a1 a2 a3 a4 a5 a6 a7 a8 a9 a10 a11 a12 a13⟩

theorem iId (a : Int) : impl_isId.f a = some (decide (1 ≤ a ∧ a ≤ 1000000000)) := by unfold impl_isId.f; rw [iIn]; rfl

theorem iConnOk (k : Nat) (a b c d e : Int) (f : Bool) : impl_ConnOk.f (k + 1) a b c d e f = some (connOk a b c d e f) := by
  unfold impl_ConnOk.f connOk
  simp only [iTick, iIn, iId, Option.bind_some, impl_ConnOk.j0]
  by_cases h1 : 1 ≤ a ∧ a ≤ 1000000000
  · by_cases h2 : 0 ≤ b ∧ b ≤ 4
    · by_cases h3 : 0 ≤ d ∧ d ≤ 1000000000
      · by_cases h4 : 0 ≤ c ∧ c ≤ 1000000000
        · by_cases h8 : c ≤ d
          · have h9 : ¬ d < c := by omega
            by_cases h5 : b = 0
            · subst h5
              by_cases h6 : c = 0 <;> by_cases h7 : e = 0 <;> cases f <;> simp [h1, h3, h4, h6, h7, h8, h9]
            · by_cases h6 : b = 3
              · subst h6
                simp [h1, h3, h4, h8, h9]
              · by_cases h7 : e = 0 <;> cases f <;> simp [h1, h2, h3, h4, h5, h6, h7, h8, h9]
          · have h9 : d < c := by omega
            simp [h1, h2, h3, h4, h8, h9]
        · have h8 : ¬ (0 ≤ c ∧ c ≤ d) := by omega
          simp [h1, h2, h3, h4, h8]
      · by_cases h4 : 0 ≤ c ∧ c ≤ 1000000000 <;> simp [h1, h2, h3, h4]
    · simp [h1, h2]
  · simp [h1]
theorem iConnOk_ev (a b c d e : Int) (f : Bool) : Ev (fun k => impl_ConnOk.f k a b c d e f) (connOk a b c d e f) := Ev.at1 (fun k => iConnOk k a b c d e f)

theorem iAddTick (t d : Int) : impl_AddTick.f t d = some (addTick t d) := by
  unfold impl_AddTick.f addTick
  simp only [iTick, iIn, Option.bind_some]
  by_cases h1 : 0 ≤ t ∧ t ≤ 1000000000
  · by_cases h2 : -1000000000 ≤ d ∧ d ≤ 1000000000
    · rw [w64 (by omega) (by omega)]
      simp only [h1, h2, and_self, decide_true, if_true]
      unfold mx mn
      congr 1
      repeat' split
      all_goals omega
    · simp [h1, h2]
  · simp [h1]

theorem iBeg (t d : Int) : impl_Conn_dues_1.f t d = some (beg t d) := by
  unfold impl_Conn_dues_1.f beg
  by_cases h : d = 0
  · rw [if_pos h, if_pos h]
  · rw [if_neg h, if_neg h, iAddTick]; rfl
theorem iDues_ev (a0 a1 a2 a3 a4 a5 a6 a7 a8 a9 a10 a11 a12 a13 : Int) (c0 c1 c2 c3 c4 : Int) (c5 : Bool) : Ev (fun k => impl_Conn_dues.f k c0 c1 c2 c3 c4 c5 a0 a1 a2 a3 a4 a5 a6 a7 a8 a9 a10 a11 a12 a13) (if bothOk a0 a1 a2 a3 a4 a5 a6 a7 a8 a9 a10 a11 a12 a13 c0 c1 c2 c3 c4 c5 = true then (kindsOf c1 c5, ticksOf a3 a4 a5 a6 c1 c2 c3 c5) else ([], [])) := by
  unfold impl_Conn_dues.f bothOk
  refine Ev.bind' _ (iConfigOk_ev a0 a1 a2 a3 a4 a5 a6 a7 a8 a9 a10 a11 a12 a13) ?_
  have hj : ∀ b : Bool, b = true → Ev (fun k => impl_Conn_dues.j0 k b c0 c1 c2 c3 c4 c5 a0 a1 a2 a3 a4 a5 a6 a7 a8 a9 a10 a11 a12 a13) ([], []) := fun b hb => by
    refine Ev.step (fun k => by rw [impl_Conn_dues.j0]) ?_
    exact Ev.pos hb (Ev.now _)
  by_cases h : configOk a0 a1 a2 a3 a4 a5 a6 a7 a8 a9 a10 a11 a12 a13 = true
  case neg => rw [if_neg (by simp [h])]; exact Ev.neg h (hj _ rfl)
  refine Ev.pos h (Ev.bind' _ (iConnOk_ev c0 c1 c2 c3 c4 c5) ?_)
  by_cases h2 : connOk c0 c1 c2 c3 c4 c5 = true
  case neg => rw [if_neg (by simp [h2])]; exact hj _ (by simpa using h2)
  rw [if_pos (by simp [h, h2])]
  refine Ev.step (fun k => by rw [impl_Conn_dues.j0]) (Ev.neg (by simp [h2]) ?_)
  unfold kindsOf ticksOf
  by_cases e1 : c1 = 1
  · have e : ((if c1 = 1 then [1, 2, 3] else if c1 = 3 ∧ c5 = false then [4] else [] : List Int), (if c1 = 1 then [beg c2 a3, beg c3 a4, beg c3 a5] else if c1 = 3 ∧ c5 = false then [beg c3 a6] else [] : List Int)) = ([1, 2, 3], [beg c2 a3, beg c3 a4, beg c3 a5]) := by rw [if_pos e1, if_pos e1]
    rw [e]
    exact Ev.pos e1 (Ev.bind' _ (Ev.is fun _ => iBeg _ _) (Ev.bind' _ (Ev.is fun _ => iBeg _ _) (Ev.bind' _ (Ev.is fun _ => iBeg _ _) (Ev.now _))))
  · refine Ev.neg e1 ?_
    by_cases e3 : c1 = 3
    · refine Ev.pos e3 ?_
      cases c5 with
      | true =>
        have e : ((if c1 = 1 then [1, 2, 3] else if c1 = 3 ∧ true = false then [4] else [] : List Int), (if c1 = 1 then [beg c2 a3, beg c3 a4, beg c3 a5] else if c1 = 3 ∧ true = false then [beg c3 a6] else [] : List Int)) = ([], []) := by rw [if_neg e1, if_neg e1]; simp
        rw [e]
        exact Ev.pos rfl (Ev.now _)
      | false =>
        have e : ((if c1 = 1 then [1, 2, 3] else if c1 = 3 ∧ false = false then [4] else [] : List Int), (if c1 = 1 then [beg c2 a3, beg c3 a4, beg c3 a5] else if c1 = 3 ∧ false = false then [beg c3 a6] else [] : List Int)) = ([4], [beg c3 a6]) := by rw [if_neg e1, if_neg e1, if_pos ⟨e3, rfl⟩, if_pos ⟨e3, rfl⟩]
        rw [e]
        exact Ev.neg (by simp) (Ev.bind' _ (Ev.is fun _ => iBeg _ _) (Ev.now _))
    · have e : ((if c1 = 1 then [1, 2, 3] else if c1 = 3 ∧ c5 = false then [4] else [] : List Int), (if c1 = 1 then [beg c2 a3, beg c3 a4, beg c3 a5] else if c1 = 3 ∧ c5 = false then [beg c3 a6] else [] : List Int)) = ([], []) := by rw [if_neg e1, if_neg e1, if_neg (fun x => e3 x.1), if_neg (fun x => e3 x.1)]
      rw [e]
      exact Ev.neg e3 (Ev.now _)

theorem iSoonest_ev (l : List Int) : Ev (fun k => impl_SoonestOf.f k l) (soonest l) := by
  unfold impl_SoonestOf.f soonest
  by_cases h : (l.length : Int) > 300
  · rw [if_pos h]; exact Ev.pos h (Ev.now _)
  · rw [if_neg h]
    refine Ev.neg h (loop_ev l (fun k s i => impl_SoonestOf.l0 k s l (l.length : Int) i) soonStep id 0 (fun k _ s i hi => ?_) (fun k s => ?_) (-1))
    · simp only [impl_SoonestOf.l0, iTick, Option.bind_some, soonStep]
      rw [if_pos (by omega), if_pos (by omega), if_pos (by omega), wsucc i (by omega), rd_nat l i hi]
      by_cases h1 : 0 ≤ l[i] ∧ l[i] ≤ 1000000000 <;> by_cases h2 : s < 0 <;> by_cases h3 : l[i] < s <;> simp [h1, h2, h3]
    · simp [impl_SoonestOf.l0]

theorem iNextConnDue_ev (a0 a1 a2 a3 a4 a5 a6 a7 a8 a9 a10 a11 a12 a13 : Int) (c0 c1 c2 c3 c4 : Int) (c5 : Bool) : Ev (fun k => impl_NextConnDue.f k a0 a1 a2 a3 a4 a5 a6 a7 a8 a9 a10 a11 a12 a13 c0 c1 c2 c3 c4 c5) (nextConnDue a0 a1 a2 a3 a4 a5 a6 a7 a8 a9 a10 a11 a12 a13 c0 c1 c2 c3 c4 c5) := by
  unfold impl_NextConnDue.f nextConnDue
  refine Ev.bind' _ (iDues_ev a0 a1 a2 a3 a4 a5 a6 a7 a8 a9 a10 a11 a12 a13 c0 c1 c2 c3 c4 c5) ?_
  by_cases h : bothOk a0 a1 a2 a3 a4 a5 a6 a7 a8 a9 a10 a11 a12 a13 c0 c1 c2 c3 c4 c5 = true
  · rw [if_pos h, if_pos h]
    exact Ev.bind' _ (iSoonest_ev _) (Ev.now _)
  · rw [if_neg h, if_neg h]
    exact Ev.bind' _ (iSoonest_ev []) (Ev.now _)

theorem FnExactNextConnDue : ∀ (a0 a1 a2 a3 a4 a5 a6 a7 a8 a9 a10 a11 a12 a13 : Int) (c0 c1 c2 c3 c4 : Int) (c5 : Bool), (Lit.int .i64 a0).wf = true → (Lit.int .i64 a1).wf = true → (Lit.int .i64 a2).wf = true → (Lit.int .i64 a3).wf = true → (Lit.int .i64 a4).wf = true → (Lit.int .i64 a5).wf = true → (Lit.int .i64 a6).wf = true → (Lit.int .i64 a7).wf = true → (Lit.int .i64 a8).wf = true → (Lit.int .i64 a9).wf = true → (Lit.int .i64 a10).wf = true → (Lit.int .i64 a11).wf = true → (Lit.int .i64 a12).wf = true → (Lit.int .i64 a13).wf = true →  (Lit.int .i64 c0).wf = true → (Lit.int .i64 c1).wf = true → (Lit.int .i64 c2).wf = true → (Lit.int .i64 c3).wf = true → (Lit.int .i64 c4).wf = true →  ∃ k, laws_FnExactNextConnDue.f k a0 a1 a2 a3 a4 a5 a6 a7 a8 a9 a10 a11 a12 a13 c0 c1 c2 c3 c4 c5 = some true := by
  intro a0 a1 a2 a3 a4 a5 a6 a7 a8 a9 a10 a11 a12 a13 c0 c1 c2 c3 c4 c5 _ _ _ _ _ _ _ _ _ _ _ _ _ _ _ _ _ _ _
  refine Ev.rounds (r := true) ?_
  unfold laws_FnExactNextConnDue.f laws_toConfig.f laws_toConn.f
  refine Ev.some' (Ev.some' ?_)
  refine Ev.bind' _ (sNextConnDue_ev a0 a1 a2 a3 a4 a5 a6 a7 a8 a9 a10 a11 a12 a13 c0 c1 c2 c3 c4 c5) ?_
  refine Ev.some' (Ev.some' ?_)
  exact Ev.bind' _ (iNextConnDue_ev a0 a1 a2 a3 a4 a5 a6 a7 a8 a9 a10 a11 a12 a13 c0 c1 c2 c3 c4 c5) (Ev.pos rfl (Ev.now _))

end Go.Proofs.Ytpckdemamlhpdaa.Pure
