/-
For every list of whole numbers the program's SoonestOf and the reference's SoonestOf answer alike and the list is left as it was (the printed law answers true). The list is any that fits a row's bounds.
-/
import Derived.Test.YtpcddljnlkbepaaPFnExactSoonestOfx1
namespace Go.Proofs.Ytpcddljnlkbepaa.Pure
open Go.RowKit Go.Proofs.Ytpcddljnlkbepaa.PFnExactSoonestOf Go.Proofs.YtpcddljnlkbepaaW.PrintWords Go.Proofs.YtpcddljnlkbepaaW.PrintLast Go.Proofs.YtpcddljnlkbepaaW.PrintMore 
set_option linter.unusedVariables false
set_option linter.unusedSimpArgs false

theorem w64 {n : Int} (h0 : -9223372036854775808 ≤ n) (h1 : n ≤ 9223372036854775807) : wrap64 n = n := by unfold wrap64; omega
theorem wsucc (i : Nat) (h : i < 9223372036854775807) : wrap64 ((i : Int) + 1) = ((i + 1 : Nat) : Int) := by rw [w64 (by omega) (by omega)]; omega
theorem rd_nat (xs : List Int) (i : Nat) (h : i < xs.length) : rd xs (i : Int) = xs[i] := by simp [rd, h]
theorem rdOf_nat {α : Type} (d : α) (xs : List α) (i : Nat) (h : i < xs.length) : rdOf d xs (i : Int) = xs[i] := by simp [rdOf, h]
theorem Ev.pos {α : Type} {c : Prop} [Decidable c] {A B : Nat → Option α} {r : α} (h : c) (e : Ev A r) : Ev (fun k => if c then A k else B k) r := Ev.congr (fun _ => if_pos h) e
theorem Ev.neg {α : Type} {c : Prop} [Decidable c] {A B : Nat → Option α} {r : α} (h : ¬ c) (e : Ev B r) : Ev (fun k => if c then A k else B k) r := Ev.congr (fun _ => if_neg h) e
theorem Ev.bind' {α β : Type} {g : Nat → Option α} {f : Nat → α → Option β} {r : β} (a : α) (h : Ev g a) (k : Ev (fun n => f n a) r) : Ev (fun n => (g n).bind (f n)) r := Ev.bind h k
theorem Ev.some' {α β : Type} {a : α} {f : Nat → α → Option β} {r : β} (k : Ev (fun n => f n a) r) : Ev (fun n => (Option.some a).bind (f n)) r := Ev.bind (Ev.now a) k
theorem Ev.is {α : Type} {g : Nat → Option α} {r : α} (h : ∀ k, g k = some r) : Ev g r := ⟨0, fun k _ => h k⟩
theorem Ev.at1 {α : Type} {g : Nat → Option α} {r : α} (h : ∀ k, g (k + 1) = some r) : Ev g r := ⟨1, fun k hk => by obtain ⟨m, rfl⟩ : ∃ m, k = m + 1 := ⟨k - 1, by omega⟩; exact h m⟩
theorem Ev.at2 {α : Type} {g : Nat → Option α} {r : α} (h : ∀ k, g (k + 2) = some r) : Ev g r := ⟨2, fun k hk => by obtain ⟨m, rfl⟩ : ∃ m, k = m + 2 := ⟨k - 2, by omega⟩; exact h m⟩
theorem Ev.at3 {α : Type} {g : Nat → Option α} {r : α} (h : ∀ k, g (k + 3) = some r) : Ev g r := ⟨3, fun k hk => by obtain ⟨m, rfl⟩ : ∃ m, k = m + 3 := ⟨k - 3, by omega⟩; exact h m⟩
/-- What a loop over a list comes to: a state, a step that goes on or answers, an end. -/
def runE {α σ ρ : Type} (step : Nat → σ → α → Except ρ σ) (fin : σ → ρ) : Nat → List α → σ → ρ
  | _, [], s => fin s
  | i, x :: xs, s => match step i s x with
    | .error r => r
    | .ok s' => runE step fin (i + 1) xs s'
/-- A loop over a list, round by round (from K rounds on). -/
theorem loop_run {α σ ρ : Type} (xs : List α) (L : Nat → σ → Int → Option ρ) (step : Nat → σ → α → Except ρ σ) (fin : σ → ρ) (K : Nat)
    (hs : ∀ k, K ≤ k → ∀ s (i : Nat) (h : i < xs.length), L (k + 1) s i = match step i s xs[i] with | .error r => some r | .ok s' => L k s' ((i + 1 : Nat) : Int))
    (he : ∀ k s, L (k + 1) s (xs.length : Int) = some (fin s)) :
    ∀ (d k : Nat) (s : σ) (i : Nat), i ≤ xs.length → xs.length - i = d → d + K < k → L k s (i : Int) = some (runE step fin i (xs.drop i) s) := by
  intro d
  induction d with
  | zero =>
    intro k s i hi hd hk
    obtain ⟨k, rfl⟩ : ∃ m, k = m + 1 := ⟨k - 1, by omega⟩
    obtain rfl : i = xs.length := by omega
    rw [he, List.drop_length, runE]
  | succ d ih =>
    intro k s i hi hd hk
    obtain ⟨k, rfl⟩ : ∃ m, k = m + 1 := ⟨k - 1, by omega⟩
    have hlt : i < xs.length := by omega
    rw [hs k (by omega) s i hlt, List.drop_eq_getElem_cons hlt, runE]
    cases step i s xs[i] with
    | error r => rfl
    | ok s' => exact ih k s' (i + 1) (by omega) (by omega) (by omega)
/-- The same, from the start. -/
theorem loop_ev {α σ ρ : Type} (xs : List α) (L : Nat → σ → Int → Option ρ) (step : Nat → σ → α → Except ρ σ) (fin : σ → ρ) (K : Nat)
    (hs : ∀ k, K ≤ k → ∀ s (i : Nat) (h : i < xs.length), L (k + 1) s i = match step i s xs[i] with | .error r => some r | .ok s' => L k s' ((i + 1 : Nat) : Int))
    (he : ∀ k s, L (k + 1) s (xs.length : Int) = some (fin s)) (s : σ) : Ev (fun k => L k s 0) (runE step fin 0 xs s) :=
  ⟨xs.length + K + 1, fun k hk => by have := loop_run xs L step fin K hs he xs.length k s 0 (by omega) (by omega) (by omega); simpa using this⟩
theorem wf_b {n : Int} (h : (Lit.int .i64 n).wf = true) : -9223372036854775808 ≤ n ∧ n ≤ 9223372036854775807 := by
  simp [Lit.wf, IntKind.min, IntKind.max, IntKind.signed, IntKind.bits] at h
  omega

def soonStep (_ : Nat) (s : Int) (x : Int) : Except Int Int := .ok (if (0 ≤ x ∧ x ≤ 1000000000) ∧ (s < 0 ∨ x < s) then x else s)
def soonest (l : List Int) : Int := if (l.length : Int) > 300 then -1 else runE soonStep id 0 l (-1)

theorem sIn (a b c : Int) : spec_l01In.f a b c = some (decide (b ≤ a ∧ a ≤ c)) := by
  unfold spec_l01In.f; by_cases h : b ≤ a <;> simp [h]

theorem sTick (a : Int) : spec_TickOk.f a = some (decide (0 ≤ a ∧ a ≤ 1000000000)) := by unfold spec_TickOk.f; rw [sIn]; rfl

theorem sSoonest_ev (l : List Int) : Ev (fun k => spec_SoonestOf.f k l) (soonest l) := by
  unfold spec_SoonestOf.f soonest
  by_cases h : (l.length : Int) > 300
  · rw [if_pos h]; exact Ev.pos h (Ev.now _)
  · rw [if_neg h]
    refine Ev.neg h (loop_ev l (fun k s i => spec_SoonestOf.l0 k l s i) soonStep id 0 (fun k _ s i hi => ?_) (fun k s => ?_) (-1))
    · simp only [spec_SoonestOf.l0, sTick, Option.bind_some, soonStep]
      rw [if_pos (by omega), if_pos (by omega), wsucc i (by omega), rd_nat l i hi]
      by_cases h1 : 0 ≤ l[i] ∧ l[i] ≤ 1000000000 <;> by_cases h2 : s < 0 <;> by_cases h3 : l[i] < s <;> simp [h1, h2, h3]
    · simp [spec_SoonestOf.l0]

theorem iIn (a b c : Int) : impl_in.f a b c = some (decide (b ≤ a ∧ a ≤ c)) := by
  unfold impl_in.f; by_cases h : b ≤ a <;> simp [h]

theorem iTick (a : Int) : impl_TickOk.f a = some (decide (0 ≤ a ∧ a ≤ 1000000000)) := by unfold impl_TickOk.f; rw [iIn]; rfl

theorem iSoonest_ev (l : List Int) : Ev (fun k => impl_SoonestOf.f k l) (soonest l) := by
  unfold impl_SoonestOf.f soonest
  by_cases h : (l.length : Int) > 300
  · rw [if_pos h]; exact Ev.pos h (Ev.now _)
  · rw [if_neg h]
    refine Ev.neg h (loop_ev l (fun k s i => impl_SoonestOf.l0 k s l (l.length : Int) i) soonStep id 0 (fun k _ s i hi => ?_) (fun k s => ?_) (-1))
    · simp only [impl_SoonestOf.l0, iTick, Option.bind_some, soonStep]
      rw [if_pos (by omega), if_pos (by omega), if_pos (by omega), wsucc i (by omega), rd_nat l i hi]
      by_cases h1 : 0 ≤ l[i] ∧ l[i] ≤ 1000000000 <;> by_cases h2 : s < 0 <;> by_cases h3 : l[i] < s <;> simp [h1, h2, h3]
    · simp [impl_SoonestOf.l0]



theorem toIntS_ev (l : List Int) (hl : l.length ≤ 1048576) : Ev (fun k => laws_toIntS.f k l) l := by
  have key : ∀ (d k : Nat) (i : Nat) (acc : List Int), i ≤ l.length → l.length - i = d → d < k → acc.length = l.length → laws_toIntS.l0 k l acc (i : Int) = some (acc.take i ++ l.drop i) := by
    intro d
    induction d with
    | zero =>
      intro k i acc hi hd hk ha
      obtain ⟨k, rfl⟩ : ∃ m, k = m + 1 := ⟨k - 1, by omega⟩
      obtain rfl : i = l.length := by omega
      simp only [laws_toIntS.l0]
      rw [if_neg (by omega), List.drop_length, ← ha, List.take_length, List.append_nil]
    | succ d ih =>
      intro k i acc hi hd hk ha
      obtain ⟨k, rfl⟩ : ∃ m, k = m + 1 := ⟨k - 1, by omega⟩
      simp only [laws_toIntS.l0]
      rw [if_pos (by omega), if_pos (by omega), if_pos (by omega), wsucc i (by omega), rd_nat l i (by omega), Int.toNat_natCast, ih k (i + 1) _ (by omega) (by omega) (by omega) (by rw [List.length_set, ha])]
      congr 1
      rw [List.take_succ_eq_append_getElem (by rw [List.length_set]; omega), List.getElem_set_self, List.take_set_of_le (Nat.le_refl _), List.append_assoc, List.singleton_append, ← List.drop_eq_getElem_cons (by omega)]
  refine ⟨l.length + 1, fun k hk => (?_ : laws_toIntS.f k l = some l)⟩
  unfold laws_toIntS.f
  rw [if_pos (by omega), if_pos (by omega), Int.toNat_natCast]
  have := key l.length k 0 (List.replicate l.length 0) (by omega) (by omega) (by omega) (by simp)
  simpa using this

theorem eqIntS_run (l r : List Int) (hl : l.length = r.length) (hb : l.length ≤ 1048577) : ∀ (d k i : Nat), i ≤ l.length → l.length - i = d → d < k → laws_eqIntS.l0 k l r (i : Int) = some (decide (l.drop i = r.drop i)) := by
  intro d
  induction d with
  | zero =>
    intro k i hi hd hk
    obtain ⟨k, rfl⟩ : ∃ m, k = m + 1 := ⟨k - 1, by omega⟩
    obtain rfl : i = l.length := by omega
    simp only [laws_eqIntS.l0]
    rw [if_neg (by omega), List.drop_length, hl, List.drop_length]
    rfl
  | succ d ih =>
    intro k i hi hd hk
    obtain ⟨k, rfl⟩ : ∃ m, k = m + 1 := ⟨k - 1, by omega⟩
    simp only [laws_eqIntS.l0]
    rw [if_pos (by omega), if_pos (by omega), if_pos (by omega), rd_nat l i (by omega), rd_nat r i (by omega), wsucc i (by omega), List.drop_eq_getElem_cons (show i < l.length by omega), List.drop_eq_getElem_cons (show i < r.length by omega)]
    by_cases h : l[i] = r[i]
    · rw [if_pos h, ih k (i + 1) (by omega) (by omega) (by omega)]
      simp only [List.cons.injEq, h, true_and]
    · rw [if_neg h]
      simp only [List.cons.injEq, h, false_and, decide_false]
theorem eqIntS_ev (l r : List Int) (hb : l.length ≤ 1048577) : Ev (fun k => laws_eqIntS.f k l r) (decide (l = r)) := by
  unfold laws_eqIntS.f
  by_cases h : l.length = r.length
  · refine Ev.pos (by omega) ⟨l.length + 1, fun k hk => ?_⟩
    have := eqIntS_run l r h hb l.length k 0 (by omega) (by omega) (by omega)
    simpa using this
  · refine Ev.neg (by omega) (Ev.is fun _ => ?_)
    rw [decide_eq_false (fun e => h (by rw [e]))]



theorem FnExactSoonestOf : laws_FnExactSoonestOf.Pure := by
  intro l _ _ _
  refine Ev.rounds (r := true) ?_
  unfold laws_FnExactSoonestOf.f
  by_cases h : (l.length : Int) > 1048576
  · exact Ev.pos h (Ev.now _)
  have hl : l.length ≤ 1048576 := by omega
  refine Ev.neg h ?_
  refine Ev.bind' l (toIntS_ev l hl) ?_
  refine Ev.bind' _ (sSoonest_ev l) ?_
  refine Ev.bind' l (toIntS_ev l hl) ?_
  refine Ev.bind' _ (iSoonest_ev l) ?_
  refine Ev.pos rfl ?_
  refine Ev.bind' l (toIntS_ev l hl) ?_
  refine Ev.bind' _ (eqIntS_ev l l (by omega)) ?_
  exact Ev.pos (by simp) (Ev.now _)

end Go.Proofs.Ytpcddljnlkbepaa.Pure
