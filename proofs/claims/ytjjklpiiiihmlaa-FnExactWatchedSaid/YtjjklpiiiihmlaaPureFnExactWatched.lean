/-
For every list of events and number the program's Watched and the reference's Watched answer alike, in memory of their own, and the list is left as it was (the printed law answers true). The list is any that fits a row's bounds.
-/
import Derived.Test.YtjjklpiiiihmlaaPFnExactWatchedx3
namespace Go.Proofs.Ytjjklpiiiihmlaa.Pure
open Go.RowKit Go.Proofs.Ytjjklpiiiihmlaa.PFnExactWatched Go.Proofs.YtjjklpiiiihmlaaW.PrintWords Go.Proofs.YtjjklpiiiihmlaaW.PrintLast Go.Proofs.YtjjklpiiiihmlaaW.PrintMore 
set_option linter.unusedVariables false
set_option linter.unusedSimpArgs false

theorem w64 {n : Int} (h0 : -9223372036854775808 ≤ n) (h1 : n ≤ 9223372036854775807) : wrap64 n = n := by unfold wrap64; omega
theorem wsucc (i : Nat) (h : i < 9223372036854775807) : wrap64 ((i : Int) + 1) = ((i + 1 : Nat) : Int) := by rw [w64 (by omega) (by omega)]; omega
theorem rd_nat (xs : List Int) (i : Nat) (h : i < xs.length) : rd xs (i : Int) = xs[i] := by simp [rd, h]
theorem rdOf_nat {α : Type} (d : α) (xs : List α) (i : Nat) (h : i < xs.length) : rdOf d xs (i : Int) = xs[i] := by simp [rdOf, h]
theorem Ev.pos {α : Type} {c : Prop} [Decidable c] {A B : Nat → Option α} {r : α} (h : c) (e : Ev A r) : Ev (fun k => if c then A k else B k) r := Ev.congr (fun _ => if_pos h) e
theorem Ev.neg {α : Type} {c : Prop} [Decidable c] {A B : Nat → Option α} {r : α} (h : ¬ c) (e : Ev B r) : Ev (fun k => if c then A k else B k) r := Ev.congr (fun _ => if_neg h) e
theorem Ev.bind' {α β : Type} {g : Nat → Option α} {f : Nat → α → Option β} {r : β} (a : α) (h : Ev g a) (k : Ev (fun n => f n a) r) : Ev (fun n => (g n).bind (f n)) r := Ev.bind h k
theorem Ev.some' {α β : Type} {a : α} {f : Nat → α → Option β} {r : β} (k : Ev (fun n => f n a) r) : Ev (fun n => (Option.some a).bind (f n)) r := Ev.bind (Ev.now a) k
theorem Ev.is {α : Type} {g : Nat → Option α} {r : α} (h : ∀ k, g k = some r) : Ev g r := ⟨0, fun k _ => h k⟩
theorem Ev.at1 {α : Type} {g : Nat → Option α} {r : α} (h : ∀ k, g (k + 1) = some r) : Ev g r := ⟨1, fun k hk => by obtain ⟨m, rfl⟩ : ∃ m, k = m + 1 := ⟨k - 1, by omega⟩; exact h m⟩
theorem Ev.at2 {α : Type} {g : Nat → Option α} {r : α} (h : ∀ k, g (k + 2) = some r) : Ev g r := ⟨2, fun k hk => by obtain ⟨m, rfl⟩ : ∃ m, k = m + 2 := ⟨k - 2, by omega⟩; exact h m⟩
theorem Ev.at3 {α : Type} {g : Nat → Option α} {r : α} (h : ∀ k, g (k + 3) = some r) : Ev g r := ⟨3, fun k hk => by obtain ⟨m, rfl⟩ : ∃ m, k = m + 3 := ⟨k - 3, by omega⟩; exact h m⟩
/-- What a loop over a list comes to: a state, a step that goes on or answers, an end. -/
def runE {α σ ρ : Type} (step : Nat → σ → α → Except ρ σ) (fin : σ → ρ) : Nat → List α → σ → ρ
  | _, [], s => fin s
  | i, x :: xs, s => match step i s x with
    | .error r => r
    | .ok s' => runE step fin (i + 1) xs s'
/-- A loop over a list, round by round (from K rounds on). -/
theorem loop_run {α σ ρ : Type} (xs : List α) (L : Nat → σ → Int → Option ρ) (step : Nat → σ → α → Except ρ σ) (fin : σ → ρ) (K : Nat)
    (hs : ∀ k, K ≤ k → ∀ s (i : Nat) (h : i < xs.length), L (k + 1) s i = match step i s xs[i] with | .error r => some r | .ok s' => L k s' ((i + 1 : Nat) : Int))
    (he : ∀ k s, L (k + 1) s (xs.length : Int) = some (fin s)) :
    ∀ (d k : Nat) (s : σ) (i : Nat), i ≤ xs.length → xs.length - i = d → d + K < k → L k s (i : Int) = some (runE step fin i (xs.drop i) s) := by
  intro d
  induction d with
  | zero =>
    intro k s i hi hd hk
    obtain ⟨k, rfl⟩ : ∃ m, k = m + 1 := ⟨k - 1, by omega⟩
    obtain rfl : i = xs.length := by omega
    rw [he, List.drop_length, runE]
  | succ d ih =>
    intro k s i hi hd hk
    obtain ⟨k, rfl⟩ : ∃ m, k = m + 1 := ⟨k - 1, by omega⟩
    have hlt : i < xs.length := by omega
    rw [hs k (by omega) s i hlt, List.drop_eq_getElem_cons hlt, runE]
    cases step i s xs[i] with
    | error r => rfl
    | ok s' => exact ih k s' (i + 1) (by omega) (by omega) (by omega)
/-- The same, from the start. -/
theorem loop_ev {α σ ρ : Type} (xs : List α) (L : Nat → σ → Int → Option ρ) (step : Nat → σ → α → Except ρ σ) (fin : σ → ρ) (K : Nat)
    (hs : ∀ k, K ≤ k → ∀ s (i : Nat) (h : i < xs.length), L (k + 1) s i = match step i s xs[i] with | .error r => some r | .ok s' => L k s' ((i + 1 : Nat) : Int))
    (he : ∀ k s, L (k + 1) s (xs.length : Int) = some (fin s)) (s : σ) : Ev (fun k => L k s 0) (runE step fin 0 xs s) :=
  ⟨xs.length + K + 1, fun k hk => by have := loop_run xs L step fin K hs he xs.length k s 0 (by omega) (by omega) (by omega); simpa using this⟩
theorem wf_b {n : Int} (h : (Lit.int .i64 n).wf = true) : -9223372036854775808 ≤ n ∧ n ≤ 9223372036854775807 := by
  simp [Lit.wf, IntKind.min, IntKind.max, IntKind.signed, IntKind.bits] at h
  omega
theorem Ev.ite {α : Type} {c : Prop} [Decidable c] {A B : Nat → Option α} {a b : α} (h1 : c → Ev A a) (h2 : ¬ c → Ev B b) : Ev (fun k => if c then A k else B k) (if c then a else b) := by
  by_cases h : c
  · rw [if_pos h]; exact Ev.pos h (h1 h)
  · rw [if_neg h]; exact Ev.neg h (h2 h)

theorem sIn (a b c : Int) : spec_l01In.f a b c = some (decide (b ≤ a ∧ a ≤ c)) := by
  unfold spec_l01In.f; by_cases h : b ≤ a <;> simp [h]

/-- The first place of a number in a list, counted from i; -1 if it is none of it. -/
def idx (v : Int) : Nat → List Int → Int
  | _, [] => -1
  | i, x :: xs => if v = x then (i : Int) else idx v (i + 1) xs
theorem idx_run (xs : List Int) (v : Int) (hl : xs.length ≤ 4611686018427387904) : ∀ (d k i : Nat), i ≤ xs.length → xs.length - i = d → d < k → slices_Index_int_int.l0 k xs v (xs.length : Int) (i : Int) = some (idx v i (xs.drop i)) := by
  intro d
  induction d with
  | zero =>
    intro k i hi hd hk
    obtain ⟨k, rfl⟩ : ∃ m, k = m + 1 := ⟨k - 1, by omega⟩
    obtain rfl : i = xs.length := by omega
    simp only [slices_Index_int_int.l0]
    rw [if_neg (by omega), List.drop_length, idx]
  | succ d ih =>
    intro k i hi hd hk
    obtain ⟨k, rfl⟩ : ∃ m, k = m + 1 := ⟨k - 1, by omega⟩
    simp only [slices_Index_int_int.l0]
    rw [if_pos (by omega), if_pos (by omega), if_pos (by omega), rd_nat xs i (by omega), wsucc i (by omega), List.drop_eq_getElem_cons (by omega), idx, ih k (i + 1) (by omega) (by omega) (by omega)]
    split <;> rfl
theorem index_run (xs : List Int) (v : Int) (hl : xs.length ≤ 4611686018427387904) (k : Nat) (hk : xs.length < k) : slices_Index_int_int.f k xs v = some (idx v 0 xs) := by
  have := idx_run xs v hl xs.length k 0 (by omega) (by omega) hk
  unfold slices_Index_int_int.f
  simpa using this
theorem index_ev (xs : List Int) (v : Int) (hl : xs.length ≤ 4611686018427387904) : Ev (fun k => slices_Index_int_int.f k xs v) (idx v 0 xs) :=
  ⟨xs.length + 1, fun k hk => index_run xs v hl k hk⟩
theorem idx_nonneg (v : Int) : ∀ (xs : List Int) (i : Nat), 0 ≤ idx v i xs ↔ v ∈ xs
  | [], i => by simp [idx]
  | x :: xs, i => by
    rw [idx, List.mem_cons]
    by_cases h : v = x
    · simp [h]
    · rw [if_neg h, idx_nonneg v xs (i + 1)]; simp [h]

theorem contains_run (xs : List Int) (v : Int) (hl : xs.length ≤ 4611686018427387904) (k : Nat) (hk : xs.length < k) : slices_Contains_int_int.f k xs v = some (decide (v ∈ xs)) := by
  unfold slices_Contains_int_int.f
  rw [index_run xs v hl k hk, Option.bind_some]
  congr 1
  exact decide_eq_decide.2 (idx_nonneg v xs 0)
theorem contains_ev (xs : List Int) (v : Int) (hl : xs.length ≤ 4611686018427387904) : Ev (fun k => slices_Contains_int_int.f k xs v) (decide (v ∈ xs)) :=
  ⟨xs.length + 1, fun k hk => contains_run xs v hl k hk⟩

def goes (s e : Int) : Int := if e = 0 then (if s = 0 then 1 else s) else if e = 1 then (if s = 1 then 2 else if s = 3 then 2 else s) else if e = 2 then (if s = 1 then 3 else s) else if e = 3 then (if s = 3 then 1 else s) else if e = 4 then (if s = 2 then 0 else s) else if e = 5 then (if 1 ≤ s ∧ s ≤ 3 then 0 else s) else if e = 6 then 4 else s
def stepC (s e : Int) : Int × Bool := if (0 ≤ s ∧ s ≤ 4) ∧ (0 ≤ e ∧ e ≤ 6) then (goes s e, goes s e != s) else (s, false)
theorem sGoes (s e : Int) : spec_l07Goes.f s e = some (goes s e) := by
  unfold spec_l07Goes.f goes
  rw [sIn]
  simp only [Option.bind_some, decide_eq_true_eq]
  repeat' split
  all_goals rfl
theorem sStepC (s e : Int) : spec_StepChannel.f s e = some (stepC s e) := by
  unfold spec_StepChannel.f stepC
  rw [sIn, sIn, sGoes]
  simp only [Option.bind_some, decide_eq_true_eq]
  by_cases h1 : 0 ≤ s ∧ s ≤ 4
  · by_cases h2 : 0 ≤ e ∧ e ≤ 6
    · simp [h1, h2]
    · simp [h1, h2]
  · simp [h1]
/-- The program's table: the state that an event leads to, and from which states. -/
def tableC (e : Int) : Int × List Int := if e = 0 then (1, [0]) else if e = 1 then (2, [1, 3]) else if e = 2 then (3, [1]) else if e = 3 then (1, [3]) else if e = 4 then (0, [2]) else if e = 5 then (0, [2, 1, 3]) else if e = 6 then (4, [0, 1, 2, 3]) else (0, [])
theorem tableC_len (e : Int) : (tableC e).2.length ≤ 4 := by
  unfold tableC
  repeat' split
  all_goals simp
theorem iTableC (e : Int) : impl_stepChan.f e = some (tableC e) := by
  unfold impl_stepChan.f tableC
  repeat' split
  all_goals rfl
theorem table_step (s e : Int) : (if s ∈ (tableC e).2 then ((tableC e).1, true) else (s, false)) = stepC s e := by
  by_cases h0 : e = 0
  · subst h0; by_cases h : s = 0 <;> simp [tableC, stepC, goes, h]
  by_cases h1 : e = 1
  · subst h1; by_cases h : s = 1 <;> by_cases h' : s = 3 <;> simp [tableC, stepC, goes, h, h']
  by_cases h2 : e = 2
  · subst h2; by_cases h : s = 1 <;> simp [tableC, stepC, goes, h]
  by_cases h3 : e = 3
  · subst h3; by_cases h : s = 3 <;> simp [tableC, stepC, goes, h]
  by_cases h4 : e = 4
  · subst h4; by_cases h : s = 2 <;> simp [tableC, stepC, goes, h]
  by_cases h5 : e = 5
  · subst h5
    by_cases a : s = 2
    · subst a; rfl
    by_cases b : s = 1
    · subst b; rfl
    by_cases c : s = 3
    · subst c; rfl
    have d : ¬ (1 ≤ s ∧ s ≤ 3) := by omega
    simp [tableC, stepC, goes, a, b, c, d]
  by_cases h6 : e = 6
  · subst h6
    by_cases a : s = 0
    · subst a; rfl
    by_cases b : s = 1
    · subst b; rfl
    by_cases c : s = 2
    · subst c; rfl
    by_cases d : s = 3
    · subst d; rfl
    by_cases e : s = 4
    · subst e; rfl
    have f : ¬ (0 ≤ s ∧ s ≤ 4) := by omega
    simp [tableC, stepC, goes, a, b, c, d, f]
  have h7 : ¬ (0 ≤ e ∧ e ≤ 6) := by omega
  simp [tableC, stepC, h0, h1, h2, h3, h4, h5, h6, h7]
theorem iStepC (s e : Int) (k : Nat) (hk : 5 ≤ k) : impl_StepChannel.f k s e = some (stepC s e) := by
  unfold impl_StepChannel.f
  have hl := tableC_len e
  rw [iTableC, Option.bind_some, contains_run _ _ (by omega) k (by omega), Option.bind_some, ← table_step]
  simp only [decide_eq_true_eq]
  split <;> rfl
theorem iStepC_ev (s e : Int) : Ev (fun k => impl_StepChannel.f k s e) (stepC s e) := ⟨5, fun k hk => iStepC s e k hk⟩

theorem iIn (a b c : Int) : impl_in.f a b c = some (decide (b ≤ a ∧ a ≤ c)) := by
  unfold impl_in.f; by_cases h : b ≤ a <;> simp [h]

def watchStep (w : Int) (i : Nat) (s : Int × List Int) (e : Int) : Except (List Int) (Int × List Int) := .ok ((stepC s.1 e).1, if (stepC s.1 e).2 = true ∧ s.1 = w then s.2 ++ [(i : Int)] else s.2)
def watched (l : List Int) (w : Int) : List Int := if l.length ≤ 300 ∧ (0 ≤ w ∧ w ≤ 4) then runE (watchStep w) (fun s => s.2) 0 l (0, []) else []
theorem runE_watch_len (w : Int) : ∀ (l : List Int) (i : Nat) (s : Int × List Int), (runE (watchStep w) (fun s => s.2) i l s).length ≤ s.2.length + l.length
  | [], i, s => by simp [runE]
  | x :: xs, i, s => by
    rw [runE]
    simp only [watchStep]
    refine Nat.le_trans (runE_watch_len w xs (i + 1) _) ?_
    simp only [List.length_cons]
    split
    · simp; omega
    · omega
theorem watched_len (l : List Int) (w : Int) : (watched l w).length ≤ 300 := by
  unfold watched
  split
  · refine Nat.le_trans (runE_watch_len w l 0 _) ?_
    simp; omega
  · simp
theorem sWatch_l0 (l : List Int) (w : Int) (hl : l.length ≤ 300) : ∀ (d i : Nat) (s : Int × List Int), i ≤ l.length → l.length - i = d → s.2.length ≤ i → Ev (fun k => spec_Watched.l0 k l w s.2 s.1 (i : Int)) (runE (watchStep w) (fun s => s.2) i (l.drop i) s) := by
  intro d
  induction d with
  | zero =>
    intro i s hi hd hs
    obtain rfl : i = l.length := by omega
    rw [List.drop_length, runE]
    refine Ev.step (fun k => by rw [spec_Watched.l0]) ?_
    exact Ev.neg (by omega) (Ev.now _)
  | succ d ih =>
    intro i s hi hd hs
    rw [List.drop_eq_getElem_cons (by omega), runE]
    simp only [watchStep]
    refine Ev.step (fun k => by rw [spec_Watched.l0]) ?_
    refine Ev.pos (by omega) (Ev.pos (by omega) ?_)
    rw [rd_nat l i (by omega), wsucc i (by omega)]
    refine Ev.bind' _ (Ev.is fun _ => sStepC _ _) ?_
    by_cases h1 : (stepC s.1 l[i]).2 = true
    · refine Ev.pos h1 ?_
      by_cases h2 : s.1 = w
      · rw [if_pos ⟨h1, h2⟩]
        exact Ev.pos h2 (Ev.pos (by omega) (ih (i + 1) ((stepC s.1 l[i]).1, s.2 ++ [(i : Int)]) (by omega) (by omega) (by simp; omega)))
      · rw [if_neg (fun e => h2 e.2)]
        exact Ev.neg h2 (ih (i + 1) ((stepC s.1 l[i]).1, s.2) (by omega) (by omega) (by simp; omega))
    · rw [if_neg (fun e => h1 e.1)]
      exact Ev.neg h1 (ih (i + 1) ((stepC s.1 l[i]).1, s.2) (by omega) (by omega) (by simp; omega))
theorem iWatch_l0 (l : List Int) (w : Int) (hl : l.length ≤ 300) : ∀ (d i : Nat) (s : Int × List Int), i ≤ l.length → l.length - i = d → s.2.length ≤ i → Ev (fun k => impl_Watched.l0 k w s.1 s.2 l (l.length : Int) (i : Int)) (runE (watchStep w) (fun s => s.2) i (l.drop i) s) := by
  intro d
  induction d with
  | zero =>
    intro i s hi hd hs
    obtain rfl : i = l.length := by omega
    rw [List.drop_length, runE]
    refine Ev.step (fun k => by rw [impl_Watched.l0]) ?_
    exact Ev.neg (by omega) (Ev.now _)
  | succ d ih =>
    intro i s hi hd hs
    rw [List.drop_eq_getElem_cons (by omega), runE]
    simp only [watchStep]
    refine Ev.step (fun k => by rw [impl_Watched.l0]) ?_
    refine Ev.pos (by omega) (Ev.pos (by omega) (Ev.pos (by omega) ?_))
    rw [rd_nat l i (by omega), wsucc i (by omega)]
    refine Ev.bind' _ (iStepC_ev _ _) ?_
    by_cases h1 : (stepC s.1 l[i]).2 = true
    · refine Ev.pos h1 ?_
      by_cases h2 : s.1 = w
      · rw [if_pos ⟨h1, h2⟩]
        exact Ev.pos h2 (Ev.pos (by omega) (ih (i + 1) ((stepC s.1 l[i]).1, s.2 ++ [(i : Int)]) (by omega) (by omega) (by simp; omega)))
      · rw [if_neg (fun e => h2 e.2)]
        exact Ev.neg h2 (ih (i + 1) ((stepC s.1 l[i]).1, s.2) (by omega) (by omega) (by simp; omega))
    · rw [if_neg (fun e => h1 e.1)]
      exact Ev.neg h1 (ih (i + 1) ((stepC s.1 l[i]).1, s.2) (by omega) (by omega) (by simp; omega))
theorem sWatch_ev (l : List Int) (w : Int) : Ev (fun k => spec_Watched.f k l w) (watched l w) := by
  unfold spec_Watched.f watched
  refine Ev.some' ?_
  by_cases h1 : (l.length : Int) > 300
  · rw [if_neg (fun e => by omega)]
    exact Ev.pos h1 (Ev.step (fun k => by rw [spec_Watched.j0]) (Ev.pos rfl (Ev.now _)))
  · refine Ev.neg h1 (Ev.bind' _ (Ev.is fun _ => sIn w 0 4) (Ev.step (fun k => by rw [spec_Watched.j0]) ?_))
    by_cases h2 : 0 ≤ w ∧ w ≤ 4
    · rw [if_pos ⟨by omega, h2⟩]
      exact Ev.neg (by simp [h2]) (sWatch_l0 l w (by omega) l.length 0 (0, []) (by omega) (by omega) (by simp))
    · rw [if_neg (fun e => h2 e.2)]
      exact Ev.pos (by simp [h2]) (Ev.now _)
theorem iWatch_ev (l : List Int) (w : Int) : Ev (fun k => impl_Watched.f k l w) (watched l w) := by
  unfold impl_Watched.f watched
  by_cases h1 : (l.length : Int) > 300
  · rw [if_neg (fun e => by omega)]
    exact Ev.pos h1 (Ev.step (fun k => by rw [impl_Watched.j0]) (Ev.pos rfl (Ev.now _)))
  · refine Ev.neg h1 (Ev.bind' _ (Ev.is fun _ => by unfold impl_isChan.f; rw [iIn]; rfl) (Ev.step (fun k => by rw [impl_Watched.j0]) ?_))
    by_cases h2 : 0 ≤ w ∧ w ≤ 4
    · rw [if_pos ⟨by omega, h2⟩]
      exact Ev.neg (by simp [h2]) (iWatch_l0 l w (by omega) l.length 0 (0, []) (by omega) (by omega) (by simp))
    · rw [if_neg (fun e => h2 e.2)]
      exact Ev.pos (by simp [h2]) (Ev.now _)

theorem toIntS_ev (l : List Int) (hl : l.length ≤ 1048576) : Ev (fun k => laws_toIntS.f k l) l := by
  have key : ∀ (d k : Nat) (i : Nat) (acc : List Int), i ≤ l.length → l.length - i = d → d < k → acc.length = l.length → laws_toIntS.l0 k l acc (i : Int) = some (acc.take i ++ l.drop i) := by
    intro d
    induction d with
    | zero =>
      intro k i acc hi hd hk ha
      obtain ⟨k, rfl⟩ : ∃ m, k = m + 1 := ⟨k - 1, by omega⟩
      obtain rfl : i = l.length := by omega
      simp only [laws_toIntS.l0]
      rw [if_neg (by omega), List.drop_length, ← ha, List.take_length, List.append_nil]
    | succ d ih =>
      intro k i acc hi hd hk ha
      obtain ⟨k, rfl⟩ : ∃ m, k = m + 1 := ⟨k - 1, by omega⟩
      simp only [laws_toIntS.l0]
      rw [if_pos (by omega), if_pos (by omega), if_pos (by omega), wsucc i (by omega), rd_nat l i (by omega), Int.toNat_natCast, ih k (i + 1) _ (by omega) (by omega) (by omega) (by rw [List.length_set, ha])]
      congr 1
      rw [List.take_succ_eq_append_getElem (by rw [List.length_set]; omega), List.getElem_set_self, List.take_set_of_le (Nat.le_refl _), List.append_assoc, List.singleton_append, ← List.drop_eq_getElem_cons (by omega)]
  refine ⟨l.length + 1, fun k hk => (?_ : laws_toIntS.f k l = some l)⟩
  unfold laws_toIntS.f
  rw [if_pos (by omega), if_pos (by omega), Int.toNat_natCast]
  have := key l.length k 0 (List.replicate l.length 0) (by omega) (by omega) (by omega) (by simp)
  simpa using this

theorem eqIntS_run (l r : List Int) (hl : l.length = r.length) (hb : l.length ≤ 1048577) : ∀ (d k i : Nat), i ≤ l.length → l.length - i = d → d < k → laws_eqIntS.l0 k l r (i : Int) = some (decide (l.drop i = r.drop i)) := by
  intro d
  induction d with
  | zero =>
    intro k i hi hd hk
    obtain ⟨k, rfl⟩ : ∃ m, k = m + 1 := ⟨k - 1, by omega⟩
    obtain rfl : i = l.length := by omega
    simp only [laws_eqIntS.l0]
    rw [if_neg (by omega), List.drop_length, hl, List.drop_length]
    rfl
  | succ d ih =>
    intro k i hi hd hk
    obtain ⟨k, rfl⟩ : ∃ m, k = m + 1 := ⟨k - 1, by omega⟩
    simp only [laws_eqIntS.l0]
    rw [if_pos (by omega), if_pos (by omega), if_pos (by omega), rd_nat l i (by omega), rd_nat r i (by omega), wsucc i (by omega), List.drop_eq_getElem_cons (show i < l.length by omega), List.drop_eq_getElem_cons (show i < r.length by omega)]
    by_cases h : l[i] = r[i]
    · rw [if_pos h, ih k (i + 1) (by omega) (by omega) (by omega)]
      simp only [List.cons.injEq, h, true_and]
    · rw [if_neg h]
      simp only [List.cons.injEq, h, false_and, decide_false]
theorem eqIntS_ev (l r : List Int) (hb : l.length ≤ 1048577) : Ev (fun k => laws_eqIntS.f k l r) (decide (l = r)) := by
  unfold laws_eqIntS.f
  by_cases h : l.length = r.length
  · refine Ev.pos (by omega) ⟨l.length + 1, fun k hk => ?_⟩
    have := eqIntS_run l r h hb l.length k 0 (by omega) (by omega) (by omega)
    simpa using this
  · refine Ev.neg (by omega) (Ev.is fun _ => ?_)
    rw [decide_eq_false (fun e => h (by rw [e]))]



def marks : Int → Nat → List Int
  | _, 0 => []
  | m, n + 1 => m :: marks (m + 1) n
theorem marks_length : ∀ (n : Nat) (m : Int), (marks m n).length = n
  | 0, _ => rfl
  | n + 1, m => by rw [marks, List.length_cons, marks_length n]
theorem markIntS_ev (l : List Int) (m : Int) (hm : 0 ≤ m) (hm2 : m ≤ 4611686018427387904) (hl : l.length ≤ 1048577) : Ev (fun k => laws_markIntS.f k l m) (m + l.length, marks m l.length) := by
  have key : ∀ (d k i : Nat) (m : Int) (acc : List Int), i ≤ l.length → l.length - i = d → d < k → acc.length = l.length → 0 ≤ m → m + d ≤ 4611686018428436481 → laws_markIntS.l0 k acc m (i : Int) = some (m + d, acc.take i ++ marks m d) := by
    intro d
    induction d with
    | zero =>
      intro k i m acc hi hd hk ha h0 h1
      obtain ⟨k, rfl⟩ : ∃ m, k = m + 1 := ⟨k - 1, by omega⟩
      simp only [laws_markIntS.l0]
      rw [if_neg (by omega), List.take_of_length_le (by omega), marks, List.append_nil]
      simp
    | succ d ih =>
      intro k i m acc hi hd hk ha h0 h1
      obtain ⟨k, rfl⟩ : ∃ m, k = m + 1 := ⟨k - 1, by omega⟩
      simp only [laws_markIntS.l0]
      rw [if_pos (by omega), if_pos (by omega), wsucc i (by omega), w64 (by omega) (by omega), Int.toNat_natCast, ih k (i + 1) (m + 1) _ (by omega) (by omega) (by omega) (by rw [List.length_set, ha]) (by omega) (by omega)]
      rw [List.take_succ_eq_append_getElem (by rw [List.length_set]; omega), List.getElem_set_self, List.take_set_of_le (Nat.le_refl _), List.append_assoc, List.singleton_append, marks]
      congr 2
      omega
  refine ⟨l.length + 1, fun k hk => (?_ : laws_markIntS.f k l m = _)⟩
  unfold laws_markIntS.f
  have := key l.length k 0 m l (by omega) (by omega) (by omega) rfl hm (by omega)
  simpa using this
theorem heldIntS_ev (n : Nat) (m : Int) (hm : 0 ≤ m) (hm2 : m ≤ 4611686018427387904) (hn : n ≤ 1048577) : Ev (fun k => laws_heldIntS.f k (marks m n) m) (m + n) := by
  have key : ∀ (l : List Int), l.length ≤ 1048577 → ∀ (d k i : Nat) (m : Int), i ≤ l.length → l.length - i = d → d < k → l.drop i = marks m d → 0 ≤ m → m + d ≤ 4611686018428436481 → laws_heldIntS.l0 k l m (i : Int) = some (m + d) := by
    intro l hl d
    induction d with
    | zero =>
      intro k i m hi hd hk hs h0 h1
      obtain ⟨k, rfl⟩ : ∃ m, k = m + 1 := ⟨k - 1, by omega⟩
      simp only [laws_heldIntS.l0]
      rw [if_neg (by omega)]
      simp
    | succ d ih =>
      intro k i m hi hd hk hs h0 h1
      obtain ⟨k, rfl⟩ : ∃ m, k = m + 1 := ⟨k - 1, by omega⟩
      rw [List.drop_eq_getElem_cons (by omega), marks, List.cons.injEq] at hs
      simp only [laws_heldIntS.l0]
      rw [if_pos (by omega), if_pos (by omega), rd_nat l i (by omega), if_pos hs.1, wsucc i (by omega), w64 (by omega) (by omega), ih k (i + 1) (m + 1) (by omega) (by omega) (by omega) hs.2 (by omega) (by omega)]
      congr 1
      omega
  refine ⟨n + 1, fun k hk => (?_ : laws_heldIntS.f k (marks m n) m = _)⟩
  unfold laws_heldIntS.f
  exact key (marks m n) (by rw [marks_length]; exact hn) n k 0 m (by omega) (by rw [marks_length]; omega) (by omega) rfl hm (by omega)

theorem FnExactWatched : laws_FnExactWatched.Pure := by
  intro l w _ _ _ _
  refine Ev.rounds (r := true) ?_
  unfold laws_FnExactWatched.f
  by_cases h : (l.length : Int) > 1048576
  · exact Ev.pos h (Ev.now _)
  have hl : l.length ≤ 1048576 := by omega
  have hr := watched_len l w
  refine Ev.neg h ?_
  refine Ev.bind' l (toIntS_ev l hl) ?_
  refine Ev.bind' _ (sWatch_ev l w) ?_
  refine Ev.bind' l (toIntS_ev l hl) ?_
  refine Ev.bind' _ (iWatch_ev l w) ?_
  refine Ev.bind' _ (eqIntS_ev _ _ (by omega)) (Ev.pos (by simp) ?_)
  refine Ev.bind' l (toIntS_ev l hl) ?_
  refine Ev.bind' _ (eqIntS_ev l l (by omega)) (Ev.pos (by simp) ?_)
  refine Ev.bind' _ (markIntS_ev l 1 (by omega) (by omega) (by omega)) (Ev.neg (by omega) ?_)
  refine Ev.bind' _ (eqIntS_ev _ _ (by omega)) ?_
  refine Ev.step (fun k => by rw [laws_FnExactWatched.j0]) (Ev.neg (by simp) ?_)
  refine Ev.bind' _ (markIntS_ev (watched l w) 1 (by omega) (by omega) (by omega)) ?_
  refine Ev.bind' _ (heldIntS_ev (watched l w).length 1 (by omega) (by omega) (by omega)) (Ev.neg (by omega) (Ev.pos rfl ?_))
  refine Ev.bind' l (toIntS_ev l hl) ?_
  refine Ev.bind' _ (iWatch_ev l w) ?_
  refine Ev.bind' _ (eqIntS_ev _ _ (by omega)) (Ev.pos (by simp) ?_)
  exact Ev.bind' _ (heldIntS_ev (watched l w).length 1 (by omega) (by omega) (by omega)) (Ev.neg (by omega) (Ev.pos rfl (Ev.now _)))

end Go.Proofs.Ytjjklpiiiihmlaa.Pure
