/-
For every configuration the program's ConfigOk and the reference's ConfigOk answer alike (the printed law answers true). The fields are any 64-bit numbers.
-/
import Derived.Test.YtpcddljnlkbepaaPFnExactConfigOkx5
namespace Go.Proofs.Ytpcddljnlkbepaa.Pure
open Go.RowKit Go.Proofs.Ytpcddljnlkbepaa.PFnExactConfigOk Go.Proofs.YtpcddljnlkbepaaW.PrintWords Go.Proofs.YtpcddljnlkbepaaW.PrintLast Go.Proofs.YtpcddljnlkbepaaW.PrintMore 
set_option linter.unusedVariables false
set_option linter.unusedSimpArgs false

theorem w64 {n : Int} (h0 : -9223372036854775808 ≤ n) (h1 : n ≤ 9223372036854775807) : wrap64 n = n := by unfold wrap64; omega
theorem wsucc (i : Nat) (h : i < 9223372036854775807) : wrap64 ((i : Int) + 1) = ((i + 1 : Nat) : Int) := by rw [w64 (by omega) (by omega)]; omega
theorem rd_nat (xs : List Int) (i : Nat) (h : i < xs.length) : rd xs (i : Int) = xs[i] := by simp [rd, h]
theorem rdOf_nat {α : Type} (d : α) (xs : List α) (i : Nat) (h : i < xs.length) : rdOf d xs (i : Int) = xs[i] := by simp [rdOf, h]
theorem Ev.pos {α : Type} {c : Prop} [Decidable c] {A B : Nat → Option α} {r : α} (h : c) (e : Ev A r) : Ev (fun k => if c then A k else B k) r := Ev.congr (fun _ => if_pos h) e
theorem Ev.neg {α : Type} {c : Prop} [Decidable c] {A B : Nat → Option α} {r : α} (h : ¬ c) (e : Ev B r) : Ev (fun k => if c then A k else B k) r := Ev.congr (fun _ => if_neg h) e
theorem Ev.bind' {α β : Type} {g : Nat → Option α} {f : Nat → α → Option β} {r : β} (a : α) (h : Ev g a) (k : Ev (fun n => f n a) r) : Ev (fun n => (g n).bind (f n)) r := Ev.bind h k
theorem Ev.some' {α β : Type} {a : α} {f : Nat → α → Option β} {r : β} (k : Ev (fun n => f n a) r) : Ev (fun n => (Option.some a).bind (f n)) r := Ev.bind (Ev.now a) k
theorem Ev.is {α : Type} {g : Nat → Option α} {r : α} (h : ∀ k, g k = some r) : Ev g r := ⟨0, fun k _ => h k⟩
theorem Ev.at1 {α : Type} {g : Nat → Option α} {r : α} (h : ∀ k, g (k + 1) = some r) : Ev g r := ⟨1, fun k hk => by obtain ⟨m, rfl⟩ : ∃ m, k = m + 1 := ⟨k - 1, by omega⟩; exact h m⟩
theorem Ev.at2 {α : Type} {g : Nat → Option α} {r : α} (h : ∀ k, g (k + 2) = some r) : Ev g r := ⟨2, fun k hk => by obtain ⟨m, rfl⟩ : ∃ m, k = m + 2 := ⟨k - 2, by omega⟩; exact h m⟩
theorem Ev.at3 {α : Type} {g : Nat → Option α} {r : α} (h : ∀ k, g (k + 3) = some r) : Ev g r := ⟨3, fun k hk => by obtain ⟨m, rfl⟩ : ∃ m, k = m + 3 := ⟨k - 3, by omega⟩; exact h m⟩
/-- What a loop over a list comes to: a state, a step that goes on or answers, an end. -/
def runE {α σ ρ : Type} (step : Nat → σ → α → Except ρ σ) (fin : σ → ρ) : Nat → List α → σ → ρ
  | _, [], s => fin s
  | i, x :: xs, s => match step i s x with
    | .error r => r
    | .ok s' => runE step fin (i + 1) xs s'
/-- A loop over a list, round by round (from K rounds on). -/
theorem loop_run {α σ ρ : Type} (xs : List α) (L : Nat → σ → Int → Option ρ) (step : Nat → σ → α → Except ρ σ) (fin : σ → ρ) (K : Nat)
    (hs : ∀ k, K ≤ k → ∀ s (i : Nat) (h : i < xs.length), L (k + 1) s i = match step i s xs[i] with | .error r => some r | .ok s' => L k s' ((i + 1 : Nat) : Int))
    (he : ∀ k s, L (k + 1) s (xs.length : Int) = some (fin s)) :
    ∀ (d k : Nat) (s : σ) (i : Nat), i ≤ xs.length → xs.length - i = d → d + K < k → L k s (i : Int) = some (runE step fin i (xs.drop i) s) := by
  intro d
  induction d with
  | zero =>
    intro k s i hi hd hk
    obtain ⟨k, rfl⟩ : ∃ m, k = m + 1 := ⟨k - 1, by omega⟩
    obtain rfl : i = xs.length := by omega
    rw [he, List.drop_length, runE]
  | succ d ih =>
    intro k s i hi hd hk
    obtain ⟨k, rfl⟩ : ∃ m, k = m + 1 := ⟨k - 1, by omega⟩
    have hlt : i < xs.length := by omega
    rw [hs k (by omega) s i hlt, List.drop_eq_getElem_cons hlt, runE]
    cases step i s xs[i] with
    | error r => rfl
    | ok s' => exact ih k s' (i + 1) (by omega) (by omega) (by omega)
/-- The same, from the start. -/
theorem loop_ev {α σ ρ : Type} (xs : List α) (L : Nat → σ → Int → Option ρ) (step : Nat → σ → α → Except ρ σ) (fin : σ → ρ) (K : Nat)
    (hs : ∀ k, K ≤ k → ∀ s (i : Nat) (h : i < xs.length), L (k + 1) s i = match step i s xs[i] with | .error r => some r | .ok s' => L k s' ((i + 1 : Nat) : Int))
    (he : ∀ k s, L (k + 1) s (xs.length : Int) = some (fin s)) (s : σ) : Ev (fun k => L k s 0) (runE step fin 0 xs s) :=
  ⟨xs.length + K + 1, fun k hk => by have := loop_run xs L step fin K hs he xs.length k s 0 (by omega) (by omega) (by omega); simpa using this⟩
theorem wf_b {n : Int} (h : (Lit.int .i64 n).wf = true) : -9223372036854775808 ≤ n ∧ n ≤ 9223372036854775807 := by
  simp [Lit.wf, IntKind.min, IntKind.max, IntKind.signed, IntKind.bits] at h
  omega

def configOk (a0 a1 a2 a3 a4 a5 a6 a7 a8 a9 a10 a11 a12 a13 : Int) : Bool := decide ((1 ≤ a1 ∧ a1 ≤ 12) ∧ (0 ≤ a0 ∧ a0 ≤ a1) ∧ (0 ≤ a2 ∧ a2 ≤ 1000000000) ∧ (a2 ≠ 0) ∧ (0 ≤ a3 ∧ a3 ≤ 1000000000) ∧ (0 ≤ a4 ∧ a4 ≤ 1000000000) ∧ (0 ≤ a5 ∧ a5 ≤ 1000000000) ∧ (0 ≤ a6 ∧ a6 ≤ 1000000000) ∧ (0 ≤ a13 ∧ a13 ≤ 1000000000) ∧ (a13 ≠ 0) ∧
  (1 ≤ a8 ∧ a8 ≤ 1000000) ∧ (1 ≤ a7 ∧ a7 ≤ a8) ∧ (0 ≤ a9 ∧ a9 ≤ 100) ∧ (1 ≤ a10 ∧ a10 ≤ 1000000) ∧ (1 ≤ a11 ∧ a11 ≤ 20) ∧ (1 ≤ a12 ∧ a12 ≤ 1000000))

theorem sIn (a b c : Int) : spec_l01In.f a b c = some (decide (b ≤ a ∧ a ≤ c)) := by
  unfold spec_l01In.f; by_cases h : b ≤ a <;> simp [h]

theorem sTick (a : Int) : spec_TickOk.f a = some (decide (0 ≤ a ∧ a ≤ 1000000000)) := by unfold spec_TickOk.f; rw [sIn]; rfl

theorem sConfigOk (k : Nat) (a0 a1 a2 a3 a4 a5 a6 a7 a8 a9 a10 a11 a12 a13 : Int) : spec_ConfigOk.f (k + 2) a0 a1 a2 a3 a4 a5 a6 a7 a8 a9 a10 a11 a12 a13 = some (configOk a0 a1 a2 a3 a4 a5 a6 a7 a8 a9 a10 a11 a12 a13) := by
  unfold spec_ConfigOk.f configOk
  simp only [sTick, sIn, Option.bind_some]
  by_cases h1 : 1 ≤ a1 ∧ a1 ≤ 12
  case neg => simp [h1, spec_ConfigOk.j0]
  by_cases h2 : 0 ≤ a0 ∧ a0 ≤ a1
  case neg => simp [h1, h2, spec_ConfigOk.j0]
  simp only [h1, h2, and_self, decide_true, if_true, Bool.not_true, spec_ConfigOk.j0, sTick, Option.bind_some, Bool.false_eq_true, if_false, true_and]
  clear h1 h2
  by_cases h3 : 0 ≤ a2 ∧ a2 ≤ 1000000000
  case neg => simp [h3, spec_ConfigOk.j1]
  by_cases h4 : a2 = 0
  case pos => subst h4; simp [spec_ConfigOk.j1]
  by_cases h5 : 0 ≤ a3 ∧ a3 ≤ 1000000000
  case neg => simp [h3, h4, h5, spec_ConfigOk.j1]
  by_cases h6 : 0 ≤ a4 ∧ a4 ≤ 1000000000
  case neg => simp [h3, h4, h5, h6, spec_ConfigOk.j1]
  by_cases h7 : 0 ≤ a5 ∧ a5 ≤ 1000000000
  case neg => simp [h3, h4, h5, h6, h7, spec_ConfigOk.j1]
  by_cases h8 : 0 ≤ a6 ∧ a6 ≤ 1000000000
  case neg => simp [h3, h4, h5, h6, h7, h8, spec_ConfigOk.j1]
  by_cases h9 : 0 ≤ a13 ∧ a13 ≤ 1000000000
  case neg => simp [h3, h4, h5, h6, h7, h8, h9, spec_ConfigOk.j1]
  by_cases h10 : a13 = 0
  case pos => subst h10; simp [h3, h4, h5, h6, h7, h8, spec_ConfigOk.j1]
  simp only [h3, h4, h5, h6, h7, h8, h9, h10, and_self, decide_true, if_true, if_false, beq_eq_false_iff_ne.mpr h10, Bool.false_eq_true, spec_ConfigOk.j1, sIn, Option.bind_some, ne_eq, not_false_eq_true, true_and]
  by_cases g1 : 1 ≤ a8 ∧ a8 ≤ 1000000
  case neg => simp [g1]
  by_cases g2 : 1 ≤ a7 ∧ a7 ≤ a8
  case neg => simp [g1, g2]
  by_cases g3 : 0 ≤ a9 ∧ a9 ≤ 100
  case neg => simp [g1, g2, g3]
  by_cases g4 : 1 ≤ a10 ∧ a10 ≤ 1000000
  case neg => simp [g1, g2, g3, g4]
  by_cases g5 : 1 ≤ a11 ∧ a11 ≤ 20
  case neg => simp [g1, g2, g3, g4, g5]
  simp [g1, g2, g3, g4, g5]
theorem sConfigOk_ev (a0 a1 a2 a3 a4 a5 a6 a7 a8 a9 a10 a11 a12 a13 : Int) : Ev (fun k => spec_ConfigOk.f k a0 a1 a2 a3 a4 a5 a6 a7 a8 a9 a10 a11 a12 a13) (configOk a0 a1 a2 a3 a4 a5 a6 a7 a8 a9 a10 a11 a12 a13) := Ev.at2 (fun k => sConfigOk k a0 a1 a2 a3 a4 a5 a6 a7 a8 a9 a10 a11 a12 a13)

theorem iIn (a b c : Int) : impl_in.f a b c = some (decide (b ≤ a ∧ a ≤ c)) := by
  unfold impl_in.f; by_cases h : b ≤ a <;> simp [h]

theorem iTick (a : Int) : impl_TickOk.f a = some (decide (0 ≤ a ∧ a ≤ 1000000000)) := by unfold impl_TickOk.f; rw [iIn]; rfl

theorem iConfigOk_j1 (k : Nat) (x5 : Bool) (a0 a1 a2 a3 a4 a5 a6 a7 a8 a9 a10 a11 a12 a13 : Int) : impl_ConfigOk.j1 (k + 1) x5 a0 a1 a2 a3 a4 a5 a6 a7 a8 a9 a10 a11 a12 a13 = some (x5 && decide ((1 ≤ a8 ∧ a8 ≤ 1000000) ∧ (1 ≤ a7 ∧ a7 ≤ a8) ∧ (0 ≤ a9 ∧ a9 ≤ 100) ∧ (1 ≤ a10 ∧ a10 ≤ 1000000) ∧ (1 ≤ a11 ∧ a11 ≤ 20) ∧ (1 ≤ a12 ∧ a12 ≤ 1000000))) := by
  simp only [impl_ConfigOk.j1, iIn, Option.bind_some]
  by_cases g2 : 1 ≤ a7 ∧ a7 ≤ a8
  case neg => cases x5 <;> simp [g2]
  by_cases g1 : a8 ≤ 1000000
  case neg => cases x5 <;> simp [g1, g2]
  have g0 : 1 ≤ a8 := by omega
  cases x5
  case false => simp [g1, g2]
  by_cases g3 : 0 ≤ a9 ∧ a9 ≤ 100
  case neg => simp [g0, g1, g2, g3]
  by_cases g4 : 1 ≤ a10 ∧ a10 ≤ 1000000
  case neg => simp [g0, g1, g2, g3, g4]
  by_cases g5 : 1 ≤ a12 ∧ a12 ≤ 1000000
  case neg => simp [g0, g1, g2, g3, g4, g5]
  simp [g0, g1, g2, g3, g4, g5]
theorem iConfigOk (k : Nat) (a0 a1 a2 a3 a4 a5 a6 a7 a8 a9 a10 a11 a12 a13 : Int) : impl_ConfigOk.f (k + 8) a0 a1 a2 a3 a4 a5 a6 a7 a8 a9 a10 a11 a12 a13 = some (configOk a0 a1 a2 a3 a4 a5 a6 a7 a8 a9 a10 a11 a12 a13) := by
  unfold impl_ConfigOk.f configOk
  simp only [Option.bind_some, List.length_cons, List.length_nil]
  by_cases h3 : 0 ≤ a2 ∧ a2 ≤ 1000000000
  case neg => simp [impl_ConfigOk.l0, iTick, rd, h3]
  by_cases h5 : 0 ≤ a3 ∧ a3 ≤ 1000000000
  case neg => simp [impl_ConfigOk.l0, iTick, rd, h3, h5, wrap64]
  by_cases h6 : 0 ≤ a4 ∧ a4 ≤ 1000000000
  case neg => simp [impl_ConfigOk.l0, iTick, rd, h3, h5, h6, wrap64]
  by_cases h7 : 0 ≤ a5 ∧ a5 ≤ 1000000000
  case neg => simp [impl_ConfigOk.l0, iTick, rd, h3, h5, h6, h7, wrap64]
  by_cases h8 : 0 ≤ a6 ∧ a6 ≤ 1000000000
  case neg => simp [impl_ConfigOk.l0, iTick, rd, h3, h5, h6, h7, h8, wrap64]
  by_cases h9 : 0 ≤ a13 ∧ a13 ≤ 1000000000
  case neg => simp [impl_ConfigOk.l0, iTick, rd, h3, h5, h6, h7, h8, h9, wrap64]
  by_cases h1 : 1 ≤ a1 ∧ a1 ≤ 12
  case neg => simp [impl_ConfigOk.l0, iTick, iIn, rd, h3, h5, h6, h7, h8, h9, h1, wrap64, iConfigOk_j1]
  by_cases h2 : 0 ≤ a0 ∧ a0 ≤ a1
  case neg => simp [impl_ConfigOk.l0, iTick, iIn, rd, h3, h5, h6, h7, h8, h9, h1, h2, wrap64, iConfigOk_j1]
  by_cases h4 : a2 = 0
  case pos => subst h4; simp [impl_ConfigOk.l0, iTick, iIn, rd, h5, h6, h7, h8, h9, h1, h2, wrap64, iConfigOk_j1]
  have h4' : 1 ≤ a2 := by omega
  by_cases h10 : a13 = 0
  case pos => subst h10; simp [impl_ConfigOk.l0, iTick, iIn, rd, h3, h5, h6, h7, h8, h1, h2, h4', wrap64, iConfigOk_j1]
  have h10' : 1 ≤ a13 := by omega
  simp [impl_ConfigOk.l0, iTick, iIn, rd, h3, h4, h5, h6, h7, h8, h9, h1, h2, h4', h10, h10', wrap64, iConfigOk_j1]
theorem iConfigOk_ev (a0 a1 a2 a3 a4 a5 a6 a7 a8 a9 a10 a11 a12 a13 : Int) : Ev (fun k => impl_ConfigOk.f k a0 a1 a2 a3 a4 a5 a6 a7 a8 a9 a10 a11 a12 a13) (configOk a0 a1 a2 a3 a4 a5 a6 a7 a8 a9 a10 a11 a12 a13) := ⟨8, fun k hk => by obtain ⟨m, rfl⟩ : ∃ m, k = m + 8 := ⟨k - 8, by omega⟩; exact iConfigOk m a0 a1 a2 a3 a4 a5 a6 a7 a8 a9 a10 a11 a12 a13⟩



theorem FnExactConfigOk : ∀ (a0 a1 a2 a3 a4 a5 a6 a7 a8 a9 a10 a11 a12 a13 : Int), (Lit.int .i64 a0).wf = true → (Lit.int .i64 a1).wf = true → (Lit.int .i64 a2).wf = true → (Lit.int .i64 a3).wf = true → (Lit.int .i64 a4).wf = true → (Lit.int .i64 a5).wf = true → (Lit.int .i64 a6).wf = true → (Lit.int .i64 a7).wf = true → (Lit.int .i64 a8).wf = true → (Lit.int .i64 a9).wf = true → (Lit.int .i64 a10).wf = true → (Lit.int .i64 a11).wf = true → (Lit.int .i64 a12).wf = true → (Lit.int .i64 a13).wf = true →  ∃ k, laws_FnExactConfigOk.f k a0 a1 a2 a3 a4 a5 a6 a7 a8 a9 a10 a11 a12 a13 = some true := by
  intro a0 a1 a2 a3 a4 a5 a6 a7 a8 a9 a10 a11 a12 a13 _ _ _ _ _ _ _ _ _ _ _ _ _ _
  refine Ev.rounds (r := true) ?_
  unfold laws_FnExactConfigOk.f laws_toConfig.f
  refine Ev.some' ?_
  refine Ev.bind' _ (sConfigOk_ev a0 a1 a2 a3 a4 a5 a6 a7 a8 a9 a10 a11 a12 a13) ?_
  refine Ev.some' ?_
  refine Ev.bind' _ (iConfigOk_ev a0 a1 a2 a3 a4 a5 a6 a7 a8 a9 a10 a11 a12 a13) ?_
  exact Ev.neg (by simp) (Ev.now _)

end Go.Proofs.Ytpcddljnlkbepaa.Pure
