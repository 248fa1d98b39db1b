/-
For every list of whole numbers the program's SumTicks and the reference's SumTicks answer alike and the list is left as it was (the printed law answers true). The list is any that fits a row's bounds.
-/
import Derived.Test.YtdeilfcoikmafaaPFnExactSumTicksx2
namespace Go.Proofs.Ytdeilfcoikmafaa.Pure
open Go.RowKit Go.Proofs.Ytdeilfcoikmafaa.PFnExactSumTicks Go.Proofs.YtdeilfcoikmafaaW.PrintWords Go.Proofs.YtdeilfcoikmafaaW.PrintLast Go.Proofs.YtdeilfcoikmafaaW.PrintMore 
set_option linter.unusedVariables false
set_option linter.unusedSimpArgs false

theorem w64 {n : Int} (h0 : -9223372036854775808 ≤ n) (h1 : n ≤ 9223372036854775807) : wrap64 n = n := by unfold wrap64; omega
theorem wsucc (i : Nat) (h : i < 9223372036854775807) : wrap64 ((i : Int) + 1) = ((i + 1 : Nat) : Int) := by rw [w64 (by omega) (by omega)]; omega
theorem rd_nat (xs : List Int) (i : Nat) (h : i < xs.length) : rd xs (i : Int) = xs[i] := by simp [rd, h]
theorem rdOf_nat {α : Type} (d : α) (xs : List α) (i : Nat) (h : i < xs.length) : rdOf d xs (i : Int) = xs[i] := by simp [rdOf, h]
theorem Ev.pos {α : Type} {c : Prop} [Decidable c] {A B : Nat → Option α} {r : α} (h : c) (e : Ev A r) : Ev (fun k => if c then A k else B k) r := Ev.congr (fun _ => if_pos h) e
theorem Ev.neg {α : Type} {c : Prop} [Decidable c] {A B : Nat → Option α} {r : α} (h : ¬ c) (e : Ev B r) : Ev (fun k => if c then A k else B k) r := Ev.congr (fun _ => if_neg h) e
theorem Ev.bind' {α β : Type} {g : Nat → Option α} {f : Nat → α → Option β} {r : β} (a : α) (h : Ev g a) (k : Ev (fun n => f n a) r) : Ev (fun n => (g n).bind (f n)) r := Ev.bind h k
theorem Ev.some' {α β : Type} {a : α} {f : Nat → α → Option β} {r : β} (k : Ev (fun n => f n a) r) : Ev (fun n => (Option.some a).bind (f n)) r := Ev.bind (Ev.now a) k
theorem Ev.is {α : Type} {g : Nat → Option α} {r : α} (h : ∀ k, g k = some r) : Ev g r := ⟨0, fun k _ => h k⟩
theorem Ev.at1 {α : Type} {g : Nat → Option α} {r : α} (h : ∀ k, g (k + 1) = some r) : Ev g r := ⟨1, fun k hk => by obtain ⟨m, rfl⟩ : ∃ m, k = m + 1 := ⟨k - 1, by omega⟩; exact h m⟩
theorem Ev.at2 {α : Type} {g : Nat → Option α} {r : α} (h : ∀ k, g (k + 2) = some r) : Ev g r := ⟨2, fun k hk => by obtain ⟨m, rfl⟩ : ∃ m, k = m + 2 := ⟨k - 2, by omega⟩; exact h m⟩
theorem Ev.at3 {α : Type} {g : Nat → Option α} {r : α} (h : ∀ k, g (k + 3) = some r) : Ev g r := ⟨3, fun k hk => by obtain ⟨m, rfl⟩ : ∃ m, k = m + 3 := ⟨k - 3, by omega⟩; exact h m⟩
/-- What a loop over a list comes to: a state, a step that goes on or answers, an end. -/
def runE {α σ ρ : Type} (step : Nat → σ → α → Except ρ σ) (fin : σ → ρ) : Nat → List α → σ → ρ
  | _, [], s => fin s
  | i, x :: xs, s => match step i s x with
    | .error r => r
    | .ok s' => runE step fin (i + 1) xs s'
/-- A loop over a list, round by round (from K rounds on). -/
theorem loop_run {α σ ρ : Type} (xs : List α) (L : Nat → σ → Int → Option ρ) (step : Nat → σ → α → Except ρ σ) (fin : σ → ρ) (K : Nat)
    (hs : ∀ k, K ≤ k → ∀ s (i : Nat) (h : i < xs.length), L (k + 1) s i = match step i s xs[i] with | .error r => some r | .ok s' => L k s' ((i + 1 : Nat) : Int))
    (he : ∀ k s, L (k + 1) s (xs.length : Int) = some (fin s)) :
    ∀ (d k : Nat) (s : σ) (i : Nat), i ≤ xs.length → xs.length - i = d → d + K < k → L k s (i : Int) = some (runE step fin i (xs.drop i) s) := by
  intro d
  induction d with
  | zero =>
    intro k s i hi hd hk
    obtain ⟨k, rfl⟩ : ∃ m, k = m + 1 := ⟨k - 1, by omega⟩
    obtain rfl : i = xs.length := by omega
    rw [he, List.drop_length, runE]
  | succ d ih =>
    intro k s i hi hd hk
    obtain ⟨k, rfl⟩ : ∃ m, k = m + 1 := ⟨k - 1, by omega⟩
    have hlt : i < xs.length := by omega
    rw [hs k (by omega) s i hlt, List.drop_eq_getElem_cons hlt, runE]
    cases step i s xs[i] with
    | error r => rfl
    | ok s' => exact ih k s' (i + 1) (by omega) (by omega) (by omega)
/-- The same, from the start. -/
theorem loop_ev {α σ ρ : Type} (xs : List α) (L : Nat → σ → Int → Option ρ) (step : Nat → σ → α → Except ρ σ) (fin : σ → ρ) (K : Nat)
    (hs : ∀ k, K ≤ k → ∀ s (i : Nat) (h : i < xs.length), L (k + 1) s i = match step i s xs[i] with | .error r => some r | .ok s' => L k s' ((i + 1 : Nat) : Int))
    (he : ∀ k s, L (k + 1) s (xs.length : Int) = some (fin s)) (s : σ) : Ev (fun k => L k s 0) (runE step fin 0 xs s) :=
  ⟨xs.length + K + 1, fun k hk => by have := loop_run xs L step fin K hs he xs.length k s 0 (by omega) (by omega) (by omega); simpa using this⟩
theorem wf_b {n : Int} (h : (Lit.int .i64 n).wf = true) : -9223372036854775808 ≤ n ∧ n ≤ 9223372036854775807 := by
  simp [Lit.wf, IntKind.min, IntKind.max, IntKind.signed, IntKind.bits] at h
  omega

def addTick (t d : Int) : Int := if (0 ≤ t ∧ t ≤ 1000000000) ∧ (-1000000000 ≤ d ∧ d ≤ 1000000000) then (if t + d > 1000000000 then 1000000000 else if t + d < 0 then 0 else t + d) else -1

theorem sIn (a b c : Int) : spec_l01In.f a b c = some (decide (b ≤ a ∧ a ≤ c)) := by
  unfold spec_l01In.f; by_cases h : b ≤ a <;> simp [h]

theorem sTick (a : Int) : spec_TickOk.f a = some (decide (0 ≤ a ∧ a ≤ 1000000000)) := by unfold spec_TickOk.f; rw [sIn]; rfl

theorem sAddTick (k : Nat) (t d : Int) : spec_AddTick.f (k + 1) t d = some (addTick t d) := by
  unfold spec_AddTick.f addTick
  simp only [sTick, sIn, Option.bind_some, spec_AddTick.j0]
  by_cases h1 : 0 ≤ t ∧ t ≤ 1000000000
  · by_cases h2 : -1000000000 ≤ d ∧ d ≤ 1000000000
    · rw [w64 (by omega) (by omega)]
      simp only [h1, h2, and_self, decide_true, if_true, Bool.not_true, Bool.false_eq_true, if_false]
      repeat' split
      all_goals first | rfl | omega
    · simp [h1, h2]
  · simp [h1]
theorem sAddTick_ev (t d : Int) : Ev (fun k => spec_AddTick.f k t d) (addTick t d) := Ev.at1 (fun k => sAddTick k t d)

theorem iIn (a b c : Int) : impl_in.f a b c = some (decide (b ≤ a ∧ a ≤ c)) := by
  unfold impl_in.f; by_cases h : b ≤ a <;> simp [h]

theorem iTick (a : Int) : impl_TickOk.f a = some (decide (0 ≤ a ∧ a ≤ 1000000000)) := by unfold impl_TickOk.f; rw [iIn]; rfl

theorem iAddTick (t d : Int) : impl_AddTick.f t d = some (addTick t d) := by
  unfold impl_AddTick.f addTick
  simp only [iTick, iIn, Option.bind_some]
  by_cases h1 : 0 ≤ t ∧ t ≤ 1000000000
  · by_cases h2 : -1000000000 ≤ d ∧ d ≤ 1000000000
    · rw [w64 (by omega) (by omega)]
      simp only [h1, h2, and_self, decide_true, if_true]
      unfold mx mn
      congr 1
      repeat' split
      all_goals omega
    · simp [h1, h2]
  · simp [h1]

def sumStep (_ : Nat) (s : Int) (x : Int) : Except Int Int := if 0 ≤ x ∧ x ≤ 1000000000 then .ok (addTick s x) else .error (-1)
def sumTicks (l : List Int) : Int := if (l.length : Int) > 300 then -1 else runE sumStep id 0 l 0
theorem sSumTicks_ev (l : List Int) : Ev (fun k => spec_SumTicks.f k l) (sumTicks l) := by
  unfold spec_SumTicks.f sumTicks
  by_cases h : (l.length : Int) > 300
  · rw [if_pos h]; exact Ev.pos h (Ev.now _)
  · rw [if_neg h]
    refine Ev.neg h (loop_ev l (fun k s i => spec_SumTicks.l0 k l s i) sumStep id 1 (fun k hk s i hi => ?_) (fun k s => ?_) 0)
    · obtain ⟨k, rfl⟩ : ∃ m, k = m + 1 := ⟨k - 1, by omega⟩
      simp only [spec_SumTicks.l0, sTick, Option.bind_some, sumStep]
      rw [if_pos (by omega), if_pos (by omega), wsucc i (by omega), rd_nat l i hi, sAddTick, Option.bind_some]
      by_cases h1 : 0 ≤ l[i] ∧ l[i] ≤ 1000000000
      · simp only [h1, and_self, decide_true, if_true, spec_SumTicks.l0]
      · simp only [h1, decide_false, Bool.false_eq_true, if_false]
    · simp [spec_SumTicks.l0]
theorem iSumTicks_ev (l : List Int) : Ev (fun k => impl_SumTicks.f k l) (sumTicks l) := by
  unfold impl_SumTicks.f sumTicks
  by_cases h : (l.length : Int) > 300
  · rw [if_pos h]; exact Ev.pos h (Ev.now _)
  · rw [if_neg h]
    refine Ev.neg h (loop_ev l (fun k s i => impl_SumTicks.l0 k s l (l.length : Int) i) sumStep id 0 (fun k _ s i hi => ?_) (fun k s => ?_) 0)
    · simp only [impl_SumTicks.l0, iTick, Option.bind_some, sumStep]
      rw [if_pos (by omega), if_pos (by omega), if_pos (by omega), wsucc i (by omega), rd_nat l i hi, iAddTick, Option.bind_some]
      by_cases h1 : 0 ≤ l[i] ∧ l[i] ≤ 1000000000
      · simp only [h1, and_self, decide_true, if_true]
      · simp only [h1, decide_false, Bool.false_eq_true, if_false]
    · simp [impl_SumTicks.l0]

theorem toIntS_ev (l : List Int) (hl : l.length ≤ 1048576) : Ev (fun k => laws_toIntS.f k l) l := by
  have key : ∀ (d k : Nat) (i : Nat) (acc : List Int), i ≤ l.length → l.length - i = d → d < k → acc.length = l.length → laws_toIntS.l0 k l acc (i : Int) = some (acc.take i ++ l.drop i) := by
    intro d
    induction d with
    | zero =>
      intro k i acc hi hd hk ha
      obtain ⟨k, rfl⟩ : ∃ m, k = m + 1 := ⟨k - 1, by omega⟩
      obtain rfl : i = l.length := by omega
      simp only [laws_toIntS.l0]
      rw [if_neg (by omega), List.drop_length, ← ha, List.take_length, List.append_nil]
    | succ d ih =>
      intro k i acc hi hd hk ha
      obtain ⟨k, rfl⟩ : ∃ m, k = m + 1 := ⟨k - 1, by omega⟩
      simp only [laws_toIntS.l0]
      rw [if_pos (by omega), if_pos (by omega), if_pos (by omega), wsucc i (by omega), rd_nat l i (by omega), Int.toNat_natCast, ih k (i + 1) _ (by omega) (by omega) (by omega) (by rw [List.length_set, ha])]
      congr 1
      rw [List.take_succ_eq_append_getElem (by rw [List.length_set]; omega), List.getElem_set_self, List.take_set_of_le (Nat.le_refl _), List.append_assoc, List.singleton_append, ← List.drop_eq_getElem_cons (by omega)]
  refine ⟨l.length + 1, fun k hk => (?_ : laws_toIntS.f k l = some l)⟩
  unfold laws_toIntS.f
  rw [if_pos (by omega), if_pos (by omega), Int.toNat_natCast]
  have := key l.length k 0 (List.replicate l.length 0) (by omega) (by omega) (by omega) (by simp)
  simpa using this

theorem eqIntS_run (l r : List Int) (hl : l.length = r.length) (hb : l.length ≤ 1048577) : ∀ (d k i : Nat), i ≤ l.length → l.length - i = d → d < k → laws_eqIntS.l0 k l r (i : Int) = some (decide (l.drop i = r.drop i)) := by
  intro d
  induction d with
  | zero =>
    intro k i hi hd hk
    obtain ⟨k, rfl⟩ : ∃ m, k = m + 1 := ⟨k - 1, by omega⟩
    obtain rfl : i = l.length := by omega
    simp only [laws_eqIntS.l0]
    rw [if_neg (by omega), List.drop_length, hl, List.drop_length]
    rfl
  | succ d ih =>
    intro k i hi hd hk
    obtain ⟨k, rfl⟩ : ∃ m, k = m + 1 := ⟨k - 1, by omega⟩
    simp only [laws_eqIntS.l0]
    rw [if_pos (by omega), if_pos (by omega), if_pos (by omega), rd_nat l i (by omega), rd_nat r i (by omega), wsucc i (by omega), List.drop_eq_getElem_cons (show i < l.length by omega), List.drop_eq_getElem_cons (show i < r.length by omega)]
    by_cases h : l[i] = r[i]
    · rw [if_pos h, ih k (i + 1) (by omega) (by omega) (by omega)]
      simp only [List.cons.injEq, h, true_and]
    · rw [if_neg h]
      simp only [List.cons.injEq, h, false_and, decide_false]
theorem eqIntS_ev (l r : List Int) (hb : l.length ≤ 1048577) : Ev (fun k => laws_eqIntS.f k l r) (decide (l = r)) := by
  unfold laws_eqIntS.f
  by_cases h : l.length = r.length
  · refine Ev.pos (by omega) ⟨l.length + 1, fun k hk => ?_⟩
    have := eqIntS_run l r h hb l.length k 0 (by omega) (by omega) (by omega)
    simpa using this
  · refine Ev.neg (by omega) (Ev.is fun _ => ?_)
    rw [decide_eq_false (fun e => h (by rw [e]))]



theorem FnExactSumTicks : laws_FnExactSumTicks.Pure := by
  intro l _ _ _
  refine Ev.rounds (r := true) ?_
  unfold laws_FnExactSumTicks.f
  by_cases h : (l.length : Int) > 1048576
  · exact Ev.pos h (Ev.now _)
  have hl : l.length ≤ 1048576 := by omega
  refine Ev.neg h ?_
  refine Ev.bind' l (toIntS_ev l hl) ?_
  refine Ev.bind' _ (sSumTicks_ev l) ?_
  refine Ev.bind' l (toIntS_ev l hl) ?_
  refine Ev.bind' _ (iSumTicks_ev l) ?_
  refine Ev.pos rfl ?_
  refine Ev.bind' l (toIntS_ev l hl) ?_
  refine Ev.bind' _ (eqIntS_ev l l (by omega)) ?_
  exact Ev.pos (by simp) (Ev.now _)

end Go.Proofs.Ytdeilfcoikmafaa.Pure
