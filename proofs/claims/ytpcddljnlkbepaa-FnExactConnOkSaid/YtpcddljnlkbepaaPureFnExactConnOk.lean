/-
For every connection the program's ConnOk and the reference's ConnOk answer alike (the printed law answers true). The fields are any 64-bit numbers and any bool.
-/
import Derived.Test.YtpcddljnlkbepaaPFnExactConnOkx2
namespace Go.Proofs.Ytpcddljnlkbepaa.Pure
open Go.RowKit Go.Proofs.Ytpcddljnlkbepaa.PFnExactConnOk Go.Proofs.YtpcddljnlkbepaaW.PrintWords Go.Proofs.YtpcddljnlkbepaaW.PrintLast Go.Proofs.YtpcddljnlkbepaaW.PrintMore 
set_option linter.unusedVariables false
set_option linter.unusedSimpArgs false

theorem w64 {n : Int} (h0 : -9223372036854775808 ≤ n) (h1 : n ≤ 9223372036854775807) : wrap64 n = n := by unfold wrap64; omega
theorem wsucc (i : Nat) (h : i < 9223372036854775807) : wrap64 ((i : Int) + 1) = ((i + 1 : Nat) : Int) := by rw [w64 (by omega) (by omega)]; omega
theorem rd_nat (xs : List Int) (i : Nat) (h : i < xs.length) : rd xs (i : Int) = xs[i] := by simp [rd, h]
theorem rdOf_nat {α : Type} (d : α) (xs : List α) (i : Nat) (h : i < xs.length) : rdOf d xs (i : Int) = xs[i] := by simp [rdOf, h]
theorem Ev.pos {α : Type} {c : Prop} [Decidable c] {A B : Nat → Option α} {r : α} (h : c) (e : Ev A r) : Ev (fun k => if c then A k else B k) r := Ev.congr (fun _ => if_pos h) e
theorem Ev.neg {α : Type} {c : Prop} [Decidable c] {A B : Nat → Option α} {r : α} (h : ¬ c) (e : Ev B r) : Ev (fun k => if c then A k else B k) r := Ev.congr (fun _ => if_neg h) e
theorem Ev.bind' {α β : Type} {g : Nat → Option α} {f : Nat → α → Option β} {r : β} (a : α) (h : Ev g a) (k : Ev (fun n => f n a) r) : Ev (fun n => (g n).bind (f n)) r := Ev.bind h k
theorem Ev.some' {α β : Type} {a : α} {f : Nat → α → Option β} {r : β} (k : Ev (fun n => f n a) r) : Ev (fun n => (Option.some a).bind (f n)) r := Ev.bind (Ev.now a) k
theorem Ev.is {α : Type} {g : Nat → Option α} {r : α} (h : ∀ k, g k = some r) : Ev g r := ⟨0, fun k _ => h k⟩
theorem Ev.at1 {α : Type} {g : Nat → Option α} {r : α} (h : ∀ k, g (k + 1) = some r) : Ev g r := ⟨1, fun k hk => by obtain ⟨m, rfl⟩ : ∃ m, k = m + 1 := ⟨k - 1, by omega⟩; exact h m⟩
theorem Ev.at2 {α : Type} {g : Nat → Option α} {r : α} (h : ∀ k, g (k + 2) = some r) : Ev g r := ⟨2, fun k hk => by obtain ⟨m, rfl⟩ : ∃ m, k = m + 2 := ⟨k - 2, by omega⟩; exact h m⟩
theorem Ev.at3 {α : Type} {g : Nat → Option α} {r : α} (h : ∀ k, g (k + 3) = some r) : Ev g r := ⟨3, fun k hk => by obtain ⟨m, rfl⟩ : ∃ m, k = m + 3 := ⟨k - 3, by omega⟩; exact h m⟩
/-- What a loop over a list comes to: a state, a step that goes on or answers, an end. -/
def runE {α σ ρ : Type} (step : Nat → σ → α → Except ρ σ) (fin : σ → ρ) : Nat → List α → σ → ρ
  | _, [], s => fin s
  | i, x :: xs, s => match step i s x with
    | .error r => r
    | .ok s' => runE step fin (i + 1) xs s'
/-- A loop over a list, round by round (from K rounds on). -/
theorem loop_run {α σ ρ : Type} (xs : List α) (L : Nat → σ → Int → Option ρ) (step : Nat → σ → α → Except ρ σ) (fin : σ → ρ) (K : Nat)
    (hs : ∀ k, K ≤ k → ∀ s (i : Nat) (h : i < xs.length), L (k + 1) s i = match step i s xs[i] with | .error r => some r | .ok s' => L k s' ((i + 1 : Nat) : Int))
    (he : ∀ k s, L (k + 1) s (xs.length : Int) = some (fin s)) :
    ∀ (d k : Nat) (s : σ) (i : Nat), i ≤ xs.length → xs.length - i = d → d + K < k → L k s (i : Int) = some (runE step fin i (xs.drop i) s) := by
  intro d
  induction d with
  | zero =>
    intro k s i hi hd hk
    obtain ⟨k, rfl⟩ : ∃ m, k = m + 1 := ⟨k - 1, by omega⟩
    obtain rfl : i = xs.length := by omega
    rw [he, List.drop_length, runE]
  | succ d ih =>
    intro k s i hi hd hk
    obtain ⟨k, rfl⟩ : ∃ m, k = m + 1 := ⟨k - 1, by omega⟩
    have hlt : i < xs.length := by omega
    rw [hs k (by omega) s i hlt, List.drop_eq_getElem_cons hlt, runE]
    cases step i s xs[i] with
    | error r => rfl
    | ok s' => exact ih k s' (i + 1) (by omega) (by omega) (by omega)
/-- The same, from the start. -/
theorem loop_ev {α σ ρ : Type} (xs : List α) (L : Nat → σ → Int → Option ρ) (step : Nat → σ → α → Except ρ σ) (fin : σ → ρ) (K : Nat)
    (hs : ∀ k, K ≤ k → ∀ s (i : Nat) (h : i < xs.length), L (k + 1) s i = match step i s xs[i] with | .error r => some r | .ok s' => L k s' ((i + 1 : Nat) : Int))
    (he : ∀ k s, L (k + 1) s (xs.length : Int) = some (fin s)) (s : σ) : Ev (fun k => L k s 0) (runE step fin 0 xs s) :=
  ⟨xs.length + K + 1, fun k hk => by have := loop_run xs L step fin K hs he xs.length k s 0 (by omega) (by omega) (by omega); simpa using this⟩
theorem wf_b {n : Int} (h : (Lit.int .i64 n).wf = true) : -9223372036854775808 ≤ n ∧ n ≤ 9223372036854775807 := by
  simp [Lit.wf, IntKind.min, IntKind.max, IntKind.signed, IntKind.bits] at h
  omega

def connOk (a b c d e : Int) (f : Bool) : Bool := decide ((1 ≤ a ∧ a ≤ 1000000000) ∧ (0 ≤ b ∧ b ≤ 4) ∧ (0 ≤ d ∧ d ≤ 1000000000) ∧ (0 ≤ c ∧ c ≤ d) ∧ (b = 0 → c = 0) ∧ (if b = 3 then 1 ≤ e ∧ e ≤ 1000000000 else e = 0 ∧ f = false))

theorem sIn (a b c : Int) : spec_l01In.f a b c = some (decide (b ≤ a ∧ a ≤ c)) := by
  unfold spec_l01In.f; by_cases h : b ≤ a <;> simp [h]

theorem sTick (a : Int) : spec_TickOk.f a = some (decide (0 ≤ a ∧ a ≤ 1000000000)) := by unfold spec_TickOk.f; rw [sIn]; rfl

theorem sConnOk (k : Nat) (a b c d e : Int) (f : Bool) : spec_ConnOk.f (k + 2) a b c d e f = some (connOk a b c d e f) := by
  unfold spec_ConnOk.f connOk
  simp only [sTick, sIn, Option.bind_some, spec_ConnOk.j0, spec_ConnOk.j1]
  by_cases h1 : 1 ≤ a ∧ a ≤ 1000000000
  · by_cases h2 : 0 ≤ b ∧ b ≤ 4
    · by_cases h3 : 0 ≤ d ∧ d ≤ 1000000000
      · by_cases h4 : 0 ≤ c ∧ c ≤ d
        · by_cases h5 : b = 0
          · subst h5
            by_cases h6 : c = 0 <;> by_cases h7 : e = 0 <;> cases f <;> simp [h1, h3, h4, h6, h7]
          · by_cases h6 : b = 3
            · subst h6
              simp [h1, h3, h4]
            · by_cases h7 : e = 0 <;> cases f <;> simp [h1, h2, h3, h4, h5, h6, h7]
        · simp [h1, h2, h3, h4]
      · simp [h1, h2, h3]
    · simp [h1, h2]
  · simp [h1]
theorem sConnOk_ev (a b c d e : Int) (f : Bool) : Ev (fun k => spec_ConnOk.f k a b c d e f) (connOk a b c d e f) := Ev.at2 (fun k => sConnOk k a b c d e f)

theorem iIn (a b c : Int) : impl_in.f a b c = some (decide (b ≤ a ∧ a ≤ c)) := by
  unfold impl_in.f; by_cases h : b ≤ a <;> simp [h]

theorem iTick (a : Int) : impl_TickOk.f a = some (decide (0 ≤ a ∧ a ≤ 1000000000)) := by unfold impl_TickOk.f; rw [iIn]; rfl

theorem iId (a : Int) : impl_isId.f a = some (decide (1 ≤ a ∧ a ≤ 1000000000)) := by unfold impl_isId.f; rw [iIn]; rfl

theorem iConnOk (k : Nat) (a b c d e : Int) (f : Bool) : impl_ConnOk.f (k + 1) a b c d e f = some (connOk a b c d e f) := by
  unfold impl_ConnOk.f connOk
  simp only [iTick, iIn, iId, Option.bind_some, impl_ConnOk.j0]
  by_cases h1 : 1 ≤ a ∧ a ≤ 1000000000
  · by_cases h2 : 0 ≤ b ∧ b ≤ 4
    · by_cases h3 : 0 ≤ d ∧ d ≤ 1000000000
      · by_cases h4 : 0 ≤ c ∧ c ≤ 1000000000
        · by_cases h8 : c ≤ d
          · have h9 : ¬ d < c := by omega
            by_cases h5 : b = 0
            · subst h5
              by_cases h6 : c = 0 <;> by_cases h7 : e = 0 <;> cases f <;> simp [h1, h3, h4, h6, h7, h8, h9]
            · by_cases h6 : b = 3
              · subst h6
                simp [h1, h3, h4, h8, h9]
              · by_cases h7 : e = 0 <;> cases f <;> simp [h1, h2, h3, h4, h5, h6, h7, h8, h9]
          · have h9 : d < c := by omega
            simp [h1, h2, h3, h4, h8, h9]
        · have h8 : ¬ (0 ≤ c ∧ c ≤ d) := by omega
          simp [h1, h2, h3, h4, h8]
      · by_cases h4 : 0 ≤ c ∧ c ≤ 1000000000 <;> simp [h1, h2, h3, h4]
    · simp [h1, h2]
  · simp [h1]
theorem iConnOk_ev (a b c d e : Int) (f : Bool) : Ev (fun k => impl_ConnOk.f k a b c d e f) (connOk a b c d e f) := Ev.at1 (fun k => iConnOk k a b c d e f)



theorem FnExactConnOk : ∀ (c0 c1 c2 c3 c4 : Int) (c5 : Bool), (Lit.int .i64 c0).wf = true → (Lit.int .i64 c1).wf = true → (Lit.int .i64 c2).wf = true → (Lit.int .i64 c3).wf = true → (Lit.int .i64 c4).wf = true →  ∃ k, laws_FnExactConnOk.f k c0 c1 c2 c3 c4 c5 = some true := by
  intro c0 c1 c2 c3 c4 c5 _ _ _ _ _
  refine Ev.rounds (r := true) ?_
  unfold laws_FnExactConnOk.f laws_toConn.f
  refine Ev.some' ?_
  refine Ev.bind' _ (sConnOk_ev c0 c1 c2 c3 c4 c5) ?_
  refine Ev.some' ?_
  refine Ev.bind' _ (iConnOk_ev c0 c1 c2 c3 c4 c5) ?_
  exact Ev.neg (by simp) (Ev.now _)

end Go.Proofs.Ytpcddljnlkbepaa.Pure
