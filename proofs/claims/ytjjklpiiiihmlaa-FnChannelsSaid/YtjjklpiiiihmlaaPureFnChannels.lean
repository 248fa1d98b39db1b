/-
For all bytes: the program's channel follows the reference's through the drawn events; ShortestEvents leads where it says and agrees with CanReach; Watched tells just the steps away from a state; behind shut nothing moves (the printed law answers true).
-/
import Derived.Test.YtjjklpiiiihmlaaMFnChannelsx5
namespace Go.Proofs.Ytjjklpiiiihmlaa.Pure
open Go.RowKit Go.Proofs.Ytjjklpiiiihmlaa.MFnChannels Go.Proofs.YtjjklpiiiihmlaaW.PrintWords Go.Proofs.YtjjklpiiiihmlaaW.PrintLast Go.Proofs.YtjjklpiiiihmlaaW.PrintMore 
set_option linter.unusedVariables false
set_option linter.unusedSimpArgs false

theorem w64 {n : Int} (h0 : -9223372036854775808 ≤ n) (h1 : n ≤ 9223372036854775807) : wrap64 n = n := by unfold wrap64; omega
theorem wsucc (i : Nat) (h : i < 9223372036854775807) : wrap64 ((i : Int) + 1) = ((i + 1 : Nat) : Int) := by rw [w64 (by omega) (by omega)]; omega
theorem rd_nat (xs : List Int) (i : Nat) (h : i < xs.length) : rd xs (i : Int) = xs[i] := by simp [rd, h]
theorem rdOf_nat {α : Type} (d : α) (xs : List α) (i : Nat) (h : i < xs.length) : rdOf d xs (i : Int) = xs[i] := by simp [rdOf, h]
theorem Ev.pos {α : Type} {c : Prop} [Decidable c] {A B : Nat → Option α} {r : α} (h : c) (e : Ev A r) : Ev (fun k => if c then A k else B k) r := Ev.congr (fun _ => if_pos h) e
theorem Ev.neg {α : Type} {c : Prop} [Decidable c] {A B : Nat → Option α} {r : α} (h : ¬ c) (e : Ev B r) : Ev (fun k => if c then A k else B k) r := Ev.congr (fun _ => if_neg h) e
theorem Ev.bind' {α β : Type} {g : Nat → Option α} {f : Nat → α → Option β} {r : β} (a : α) (h : Ev g a) (k : Ev (fun n => f n a) r) : Ev (fun n => (g n).bind (f n)) r := Ev.bind h k
theorem Ev.some' {α β : Type} {a : α} {f : Nat → α → Option β} {r : β} (k : Ev (fun n => f n a) r) : Ev (fun n => (Option.some a).bind (f n)) r := Ev.bind (Ev.now a) k
theorem Ev.is {α : Type} {g : Nat → Option α} {r : α} (h : ∀ k, g k = some r) : Ev g r := ⟨0, fun k _ => h k⟩
theorem Ev.at1 {α : Type} {g : Nat → Option α} {r : α} (h : ∀ k, g (k + 1) = some r) : Ev g r := ⟨1, fun k hk => by obtain ⟨m, rfl⟩ : ∃ m, k = m + 1 := ⟨k - 1, by omega⟩; exact h m⟩
theorem Ev.at2 {α : Type} {g : Nat → Option α} {r : α} (h : ∀ k, g (k + 2) = some r) : Ev g r := ⟨2, fun k hk => by obtain ⟨m, rfl⟩ : ∃ m, k = m + 2 := ⟨k - 2, by omega⟩; exact h m⟩
theorem Ev.at3 {α : Type} {g : Nat → Option α} {r : α} (h : ∀ k, g (k + 3) = some r) : Ev g r := ⟨3, fun k hk => by obtain ⟨m, rfl⟩ : ∃ m, k = m + 3 := ⟨k - 3, by omega⟩; exact h m⟩
/-- What a loop over a list comes to: a state, a step that goes on or answers, an end. -/
def runE {α σ ρ : Type} (step : Nat → σ → α → Except ρ σ) (fin : σ → ρ) : Nat → List α → σ → ρ
  | _, [], s => fin s
  | i, x :: xs, s => match step i s x with
    | .error r => r
    | .ok s' => runE step fin (i + 1) xs s'
/-- A loop over a list, round by round (from K rounds on). -/
theorem loop_run {α σ ρ : Type} (xs : List α) (L : Nat → σ → Int → Option ρ) (step : Nat → σ → α → Except ρ σ) (fin : σ → ρ) (K : Nat)
    (hs : ∀ k, K ≤ k → ∀ s (i : Nat) (h : i < xs.length), L (k + 1) s i = match step i s xs[i] with | .error r => some r | .ok s' => L k s' ((i + 1 : Nat) : Int))
    (he : ∀ k s, L (k + 1) s (xs.length : Int) = some (fin s)) :
    ∀ (d k : Nat) (s : σ) (i : Nat), i ≤ xs.length → xs.length - i = d → d + K < k → L k s (i : Int) = some (runE step fin i (xs.drop i) s) := by
  intro d
  induction d with
  | zero =>
    intro k s i hi hd hk
    obtain ⟨k, rfl⟩ : ∃ m, k = m + 1 := ⟨k - 1, by omega⟩
    obtain rfl : i = xs.length := by omega
    rw [he, List.drop_length, runE]
  | succ d ih =>
    intro k s i hi hd hk
    obtain ⟨k, rfl⟩ : ∃ m, k = m + 1 := ⟨k - 1, by omega⟩
    have hlt : i < xs.length := by omega
    rw [hs k (by omega) s i hlt, List.drop_eq_getElem_cons hlt, runE]
    cases step i s xs[i] with
    | error r => rfl
    | ok s' => exact ih k s' (i + 1) (by omega) (by omega) (by omega)
/-- The same, from the start. -/
theorem loop_ev {α σ ρ : Type} (xs : List α) (L : Nat → σ → Int → Option ρ) (step : Nat → σ → α → Except ρ σ) (fin : σ → ρ) (K : Nat)
    (hs : ∀ k, K ≤ k → ∀ s (i : Nat) (h : i < xs.length), L (k + 1) s i = match step i s xs[i] with | .error r => some r | .ok s' => L k s' ((i + 1 : Nat) : Int))
    (he : ∀ k s, L (k + 1) s (xs.length : Int) = some (fin s)) (s : σ) : Ev (fun k => L k s 0) (runE step fin 0 xs s) :=
  ⟨xs.length + K + 1, fun k hk => by have := loop_run xs L step fin K hs he xs.length k s 0 (by omega) (by omega) (by omega); simpa using this⟩
theorem wf_b {n : Int} (h : (Lit.int .i64 n).wf = true) : -9223372036854775808 ≤ n ∧ n ≤ 9223372036854775807 := by
  simp [Lit.wf, IntKind.min, IntKind.max, IntKind.signed, IntKind.bits] at h
  omega
theorem Ev.ite {α : Type} {c : Prop} [Decidable c] {A B : Nat → Option α} {a b : α} (h1 : c → Ev A a) (h2 : ¬ c → Ev B b) : Ev (fun k => if c then A k else B k) (if c then a else b) := by
  by_cases h : c
  · rw [if_pos h]; exact Ev.pos h (h1 h)
  · rw [if_neg h]; exact Ev.neg h (h2 h)

theorem sIn (a b c : Int) : spec_l01In.f a b c = some (decide (b ≤ a ∧ a ≤ c)) := by
  unfold spec_l01In.f; by_cases h : b ≤ a <;> simp [h]

/-- The first place of a number in a list, counted from i; -1 if it is none of it. -/
def idx (v : Int) : Nat → List Int → Int
  | _, [] => -1
  | i, x :: xs => if v = x then (i : Int) else idx v (i + 1) xs
theorem idx_run (xs : List Int) (v : Int) (hl : xs.length ≤ 4611686018427387904) : ∀ (d k i : Nat), i ≤ xs.length → xs.length - i = d → d < k → slices_Index_int_int.l0 k xs v (xs.length : Int) (i : Int) = some (idx v i (xs.drop i)) := by
  intro d
  induction d with
  | zero =>
    intro k i hi hd hk
    obtain ⟨k, rfl⟩ : ∃ m, k = m + 1 := ⟨k - 1, by omega⟩
    obtain rfl : i = xs.length := by omega
    simp only [slices_Index_int_int.l0]
    rw [if_neg (by omega), List.drop_length, idx]
  | succ d ih =>
    intro k i hi hd hk
    obtain ⟨k, rfl⟩ : ∃ m, k = m + 1 := ⟨k - 1, by omega⟩
    simp only [slices_Index_int_int.l0]
    rw [if_pos (by omega), if_pos (by omega), if_pos (by omega), rd_nat xs i (by omega), wsucc i (by omega), List.drop_eq_getElem_cons (by omega), idx, ih k (i + 1) (by omega) (by omega) (by omega)]
    split <;> rfl
theorem index_run (xs : List Int) (v : Int) (hl : xs.length ≤ 4611686018427387904) (k : Nat) (hk : xs.length < k) : slices_Index_int_int.f k xs v = some (idx v 0 xs) := by
  have := idx_run xs v hl xs.length k 0 (by omega) (by omega) hk
  unfold slices_Index_int_int.f
  simpa using this
theorem index_ev (xs : List Int) (v : Int) (hl : xs.length ≤ 4611686018427387904) : Ev (fun k => slices_Index_int_int.f k xs v) (idx v 0 xs) :=
  ⟨xs.length + 1, fun k hk => index_run xs v hl k hk⟩
theorem idx_nonneg (v : Int) : ∀ (xs : List Int) (i : Nat), 0 ≤ idx v i xs ↔ v ∈ xs
  | [], i => by simp [idx]
  | x :: xs, i => by
    rw [idx, List.mem_cons]
    by_cases h : v = x
    · simp [h]
    · rw [if_neg h, idx_nonneg v xs (i + 1)]; simp [h]

theorem contains_run (xs : List Int) (v : Int) (hl : xs.length ≤ 4611686018427387904) (k : Nat) (hk : xs.length < k) : slices_Contains_int_int.f k xs v = some (decide (v ∈ xs)) := by
  unfold slices_Contains_int_int.f
  rw [index_run xs v hl k hk, Option.bind_some]
  congr 1
  exact decide_eq_decide.2 (idx_nonneg v xs 0)
theorem contains_ev (xs : List Int) (v : Int) (hl : xs.length ≤ 4611686018427387904) : Ev (fun k => slices_Contains_int_int.f k xs v) (decide (v ∈ xs)) :=
  ⟨xs.length + 1, fun k hk => contains_run xs v hl k hk⟩

def goes (s e : Int) : Int := if e = 0 then (if s = 0 then 1 else s) else if e = 1 then (if s = 1 then 2 else if s = 3 then 2 else s) else if e = 2 then (if s = 1 then 3 else s) else if e = 3 then (if s = 3 then 1 else s) else if e = 4 then (if s = 2 then 0 else s) else if e = 5 then (if 1 ≤ s ∧ s ≤ 3 then 0 else s) else if e = 6 then 4 else s
def stepC (s e : Int) : Int × Bool := if (0 ≤ s ∧ s ≤ 4) ∧ (0 ≤ e ∧ e ≤ 6) then (goes s e, goes s e != s) else (s, false)
theorem sGoes (s e : Int) : spec_l07Goes.f s e = some (goes s e) := by
  unfold spec_l07Goes.f goes
  rw [sIn]
  simp only [Option.bind_some, decide_eq_true_eq]
  repeat' split
  all_goals rfl
theorem sStepC (s e : Int) : spec_StepChannel.f s e = some (stepC s e) := by
  unfold spec_StepChannel.f stepC
  rw [sIn, sIn, sGoes]
  simp only [Option.bind_some, decide_eq_true_eq]
  by_cases h1 : 0 ≤ s ∧ s ≤ 4
  · by_cases h2 : 0 ≤ e ∧ e ≤ 6
    · simp [h1, h2]
    · simp [h1, h2]
  · simp [h1]
/-- The program's table: the state that an event leads to, and from which states. -/
def tableC (e : Int) : Int × List Int := if e = 0 then (1, [0]) else if e = 1 then (2, [1, 3]) else if e = 2 then (3, [1]) else if e = 3 then (1, [3]) else if e = 4 then (0, [2]) else if e = 5 then (0, [2, 1, 3]) else if e = 6 then (4, [0, 1, 2, 3]) else (0, [])
theorem tableC_len (e : Int) : (tableC e).2.length ≤ 4 := by
  unfold tableC
  repeat' split
  all_goals simp
theorem iTableC (e : Int) : impl_stepChan.f e = some (tableC e) := by
  unfold impl_stepChan.f tableC
  repeat' split
  all_goals rfl
theorem table_step (s e : Int) : (if s ∈ (tableC e).2 then ((tableC e).1, true) else (s, false)) = stepC s e := by
  by_cases h0 : e = 0
  · subst h0; by_cases h : s = 0 <;> simp [tableC, stepC, goes, h]
  by_cases h1 : e = 1
  · subst h1; by_cases h : s = 1 <;> by_cases h' : s = 3 <;> simp [tableC, stepC, goes, h, h']
  by_cases h2 : e = 2
  · subst h2; by_cases h : s = 1 <;> simp [tableC, stepC, goes, h]
  by_cases h3 : e = 3
  · subst h3; by_cases h : s = 3 <;> simp [tableC, stepC, goes, h]
  by_cases h4 : e = 4
  · subst h4; by_cases h : s = 2 <;> simp [tableC, stepC, goes, h]
  by_cases h5 : e = 5
  · subst h5
    by_cases a : s = 2
    · subst a; rfl
    by_cases b : s = 1
    · subst b; rfl
    by_cases c : s = 3
    · subst c; rfl
    have d : ¬ (1 ≤ s ∧ s ≤ 3) := by omega
    simp [tableC, stepC, goes, a, b, c, d]
  by_cases h6 : e = 6
  · subst h6
    by_cases a : s = 0
    · subst a; rfl
    by_cases b : s = 1
    · subst b; rfl
    by_cases c : s = 2
    · subst c; rfl
    by_cases d : s = 3
    · subst d; rfl
    by_cases e : s = 4
    · subst e; rfl
    have f : ¬ (0 ≤ s ∧ s ≤ 4) := by omega
    simp [tableC, stepC, goes, a, b, c, d, f]
  have h7 : ¬ (0 ≤ e ∧ e ≤ 6) := by omega
  simp [tableC, stepC, h0, h1, h2, h3, h4, h5, h6, h7]
theorem iStepC (s e : Int) (k : Nat) (hk : 5 ≤ k) : impl_StepChannel.f k s e = some (stepC s e) := by
  unfold impl_StepChannel.f
  have hl := tableC_len e
  rw [iTableC, Option.bind_some, contains_run _ _ (by omega) k (by omega), Option.bind_some, ← table_step]
  simp only [decide_eq_true_eq]
  split <;> rfl
theorem iStepC_ev (s e : Int) : Ev (fun k => impl_StepChannel.f k s e) (stepC s e) := ⟨5, fun k hk => iStepC s e k hk⟩

def playStep (_ : Nat) (s : Int × List Int) (e : Int) : Except (Int × List Int) (Int × List Int) := .ok ((stepC s.1 e).1, s.2 ++ [(stepC s.1 e).1])
def playChan (l : List Int) : Int × List Int := if (l.length : Int) > 300 then (0, []) else runE playStep id 0 l (0, [])
theorem runE_play_len : ∀ (l : List Int) (i : Nat) (s : Int × List Int), (runE playStep id i l s).2.length = s.2.length + l.length
  | [], i, s => by simp [runE]
  | x :: xs, i, s => by
    rw [runE]
    simp only [playStep]
    rw [runE_play_len xs (i + 1)]
    simp
    omega
theorem playChan_len (l : List Int) : (playChan l).2.length ≤ 300 := by
  unfold playChan
  split
  · simp
  · rw [runE_play_len]; simp; omega
theorem sPlay_l0 (l : List Int) (hl : l.length ≤ 300) : ∀ (d i : Nat) (s : Int × List Int), i ≤ l.length → l.length - i = d → s.2.length = i → Ev (fun k => spec_PlayChannel.l0 k l s.1 s.2 (i : Int)) (runE playStep id i (l.drop i) s) := by
  intro d
  induction d with
  | zero =>
    intro i s hi hd hs
    obtain rfl : i = l.length := by omega
    rw [List.drop_length, runE]
    refine Ev.step (fun k => by rw [spec_PlayChannel.l0]) ?_
    exact Ev.neg (by omega) (Ev.now _)
  | succ d ih =>
    intro i s hi hd hs
    rw [List.drop_eq_getElem_cons (by omega), runE]
    simp only [playStep]
    refine Ev.step (fun k => by rw [spec_PlayChannel.l0]) ?_
    refine Ev.pos (by omega) (Ev.pos (by omega) ?_)
    rw [rd_nat l i (by omega), wsucc i (by omega)]
    refine Ev.bind' _ (Ev.is fun _ => sStepC _ _) (Ev.pos (by omega) ?_)
    exact ih (i + 1) ((stepC s.1 l[i]).1, s.2 ++ [(stepC s.1 l[i]).1]) (by omega) (by omega) (by simp [hs])
theorem iPlay_l0 (l : List Int) (hl : l.length ≤ 300) : ∀ (d i : Nat) (s : Int × List Int), i ≤ l.length → l.length - i = d → s.2.length = i → Ev (fun k => impl_PlayChannel.l0 k s.1 s.2 l (l.length : Int) (i : Int)) (runE playStep id i (l.drop i) s) := by
  intro d
  induction d with
  | zero =>
    intro i s hi hd hs
    obtain rfl : i = l.length := by omega
    rw [List.drop_length, runE]
    refine Ev.step (fun k => by rw [impl_PlayChannel.l0]) ?_
    exact Ev.neg (by omega) (Ev.now _)
  | succ d ih =>
    intro i s hi hd hs
    rw [List.drop_eq_getElem_cons (by omega), runE]
    simp only [playStep]
    refine Ev.step (fun k => by rw [impl_PlayChannel.l0]) ?_
    refine Ev.pos (by omega) (Ev.pos (by omega) (Ev.pos (by omega) ?_))
    rw [rd_nat l i (by omega), wsucc i (by omega)]
    refine Ev.bind' _ (iStepC_ev _ _) (Ev.pos (by omega) ?_)
    exact ih (i + 1) ((stepC s.1 l[i]).1, s.2 ++ [(stepC s.1 l[i]).1]) (by omega) (by omega) (by simp [hs])
theorem sPlay_ev (l : List Int) : Ev (fun k => spec_PlayChannel.f k l) (playChan l) := by
  unfold spec_PlayChannel.f playChan
  refine Ev.ite (fun _ => Ev.now _) (fun h => ?_)
  exact sPlay_l0 l (by omega) l.length 0 (0, []) (by omega) (by omega) rfl
theorem iPlay_ev (l : List Int) : Ev (fun k => impl_PlayChannel.f k l) (playChan l) := by
  unfold impl_PlayChannel.f playChan
  refine Ev.ite (fun _ => Ev.now _) (fun h => ?_)
  exact iPlay_l0 l (by omega) l.length 0 (0, []) (by omega) (by omega) rfl

def watchStep (w : Int) (i : Nat) (s : Int × List Int) (e : Int) : Except (List Int) (Int × List Int) := .ok ((stepC s.1 e).1, if (stepC s.1 e).2 = true ∧ s.1 = w then s.2 ++ [(i : Int)] else s.2)
def watched (l : List Int) (w : Int) : List Int := if l.length ≤ 300 ∧ (0 ≤ w ∧ w ≤ 4) then runE (watchStep w) (fun s => s.2) 0 l (0, []) else []
theorem runE_watch_len (w : Int) : ∀ (l : List Int) (i : Nat) (s : Int × List Int), (runE (watchStep w) (fun s => s.2) i l s).length ≤ s.2.length + l.length
  | [], i, s => by simp [runE]
  | x :: xs, i, s => by
    rw [runE]
    simp only [watchStep]
    refine Nat.le_trans (runE_watch_len w xs (i + 1) _) ?_
    simp only [List.length_cons]
    split
    · simp; omega
    · omega
theorem watched_len (l : List Int) (w : Int) : (watched l w).length ≤ 300 := by
  unfold watched
  split
  · refine Nat.le_trans (runE_watch_len w l 0 _) ?_
    simp; omega
  · simp

theorem iIn (a b c : Int) : impl_in.f a b c = some (decide (b ≤ a ∧ a ≤ c)) := by
  unfold impl_in.f; by_cases h : b ≤ a <;> simp [h]

theorem iWatch_l0 (l : List Int) (w : Int) (hl : l.length ≤ 300) : ∀ (d i : Nat) (s : Int × List Int), i ≤ l.length → l.length - i = d → s.2.length ≤ i → Ev (fun k => impl_Watched.l0 k w s.1 s.2 l (l.length : Int) (i : Int)) (runE (watchStep w) (fun s => s.2) i (l.drop i) s) := by
  intro d
  induction d with
  | zero =>
    intro i s hi hd hs
    obtain rfl : i = l.length := by omega
    rw [List.drop_length, runE]
    refine Ev.step (fun k => by rw [impl_Watched.l0]) ?_
    exact Ev.neg (by omega) (Ev.now _)
  | succ d ih =>
    intro i s hi hd hs
    rw [List.drop_eq_getElem_cons (by omega), runE]
    simp only [watchStep]
    refine Ev.step (fun k => by rw [impl_Watched.l0]) ?_
    refine Ev.pos (by omega) (Ev.pos (by omega) (Ev.pos (by omega) ?_))
    rw [rd_nat l i (by omega), wsucc i (by omega)]
    refine Ev.bind' _ (iStepC_ev _ _) ?_
    by_cases h1 : (stepC s.1 l[i]).2 = true
    · refine Ev.pos h1 ?_
      by_cases h2 : s.1 = w
      · rw [if_pos ⟨h1, h2⟩]
        exact Ev.pos h2 (Ev.pos (by omega) (ih (i + 1) ((stepC s.1 l[i]).1, s.2 ++ [(i : Int)]) (by omega) (by omega) (by simp; omega)))
      · rw [if_neg (fun e => h2 e.2)]
        exact Ev.neg h2 (ih (i + 1) ((stepC s.1 l[i]).1, s.2) (by omega) (by omega) (by simp; omega))
    · rw [if_neg (fun e => h1 e.1)]
      exact Ev.neg h1 (ih (i + 1) ((stepC s.1 l[i]).1, s.2) (by omega) (by omega) (by simp; omega))
theorem iWatch_ev (l : List Int) (w : Int) : Ev (fun k => impl_Watched.f k l w) (watched l w) := by
  unfold impl_Watched.f watched
  by_cases h1 : (l.length : Int) > 300
  · rw [if_neg (fun e => by omega)]
    exact Ev.pos h1 (Ev.step (fun k => by rw [impl_Watched.j0]) (Ev.pos rfl (Ev.now _)))
  · refine Ev.neg h1 (Ev.bind' _ (Ev.is fun _ => by unfold impl_isChan.f; rw [iIn]; rfl) (Ev.step (fun k => by rw [impl_Watched.j0]) ?_))
    by_cases h2 : 0 ≤ w ∧ w ≤ 4
    · rw [if_pos ⟨by omega, h2⟩]
      exact Ev.neg (by simp [h2]) (iWatch_l0 l w (by omega) l.length 0 (0, []) (by omega) (by omega) (by simp))
    · rw [if_neg (fun e => h2 e.2)]
      exact Ev.pos (by simp [h2]) (Ev.now _)

theorem and255 (n : Int) : bits .and .i64 n 255 = n % 256 := by
  have h255 : (BitVec.ofInt 64 255).toNat = 2 ^ 8 - 1 := by decide
  have key : (BitVec.ofInt 64 n &&& BitVec.ofInt 64 255).toNat = (n % ((2 ^ 64 : Nat) : Int)).toNat % 2 ^ 8 := by
    rw [BitVec.toNat_and, BitVec.toNat_ofInt, h255, Nat.and_two_pow_sub_one_eq_mod]
  show IntKind.i64.wrap ((BitVec.ofInt 64 n &&& BitVec.ofInt 64 255).toNat : Nat) = n % 256
  rw [key, IntKind.wrap_i64]
  omega
/-- A place in the bytes. -/
def inCode (l : List Int) (i : Int) : Prop := 0 ≤ i ∧ i ≤ (l.length : Int)
theorem sByte (l : List Int) (hl : l.length ≤ 140737488351232) (i s : Int) (h : inCode l i) : ∃ b i' s', spec_l01Byte.f l i s = some (b, i', s') ∧ (0 ≤ b ∧ b ≤ 255) ∧ inCode l i' := by
  unfold inCode at *
  unfold spec_l01Byte.f
  by_cases hi : i < (l.length : Int)
  · rw [if_pos hi, if_pos h.1]
    refine ⟨_, _, _, rfl, ?_, ?_⟩
    · rw [and255]; omega
    · rw [w64 (by omega) (by omega)]; omega
  · rw [if_neg hi]
    refine ⟨_, _, _, rfl, ?_, h⟩
    rw [and255]; omega
theorem sBelow (l : List Int) (hl : l.length ≤ 140737488351232) (i s n : Int) (h : inCode l i) : ∃ b i' s', spec_l01Below.f l i s n = some (b, i', s') ∧ 0 ≤ b ∧ (0 < n → b < n) ∧ inCode l i' := by
  unfold spec_l01Below.f
  by_cases h0 : n ≤ 0
  · rw [if_pos h0]; exact ⟨0, i, s, rfl, by omega, fun e => by omega, h⟩
  rw [if_neg h0]
  by_cases h1 : n ≤ 256
  · rw [if_pos h1]
    obtain ⟨b, i1, s1, e, hb, hi⟩ := sByte l hl i s h
    rw [e, Option.bind_some, if_neg (by omega)]
    exact ⟨_, _, _, rfl, Int.tmod_nonneg _ hb.1, fun hn => Int.tmod_lt_of_pos _ hn, hi⟩
  · rw [if_neg h1]
    obtain ⟨b1, i1, s1, e1, hb1, hi1⟩ := sByte l hl i s h
    obtain ⟨b2, i2, s2, e2, hb2, hi2⟩ := sByte l hl i1 s1 hi1
    obtain ⟨b3, i3, s3, e3, hb3, hi3⟩ := sByte l hl i2 s2 hi2
    rw [e1, Option.bind_some, e2, Option.bind_some, e3, Option.bind_some, if_neg (by omega)]
    refine ⟨_, _, _, rfl, Int.tmod_nonneg _ ?_, fun hn => Int.tmod_lt_of_pos _ hn, hi3⟩
    dsimp only
    rw [w64 (n := b1 * 65536) (by omega) (by omega), w64 (n := b2 * 256) (by omega) (by omega), w64 (n := b1 * 65536 + b2 * 256) (by omega) (by omega), w64 (by omega) (by omega)]
    omega
theorem sNew (l : List Int) (hl : l.length ≤ 140737488351232) : ∃ s, Ev (fun k => spec_l01New.f k l) (l, 0, s) := by
  have key : ∀ (d i : Nat) (s : Int), i + d = 4000 → ∃ s', Ev (fun k => spec_l01New.l0 k l s (i : Int)) (l, 0, s') := by
    intro d
    induction d with
    | zero =>
      intro i s hi
      refine ⟨s, Ev.step (fun k => by rw [spec_l01New.l0]) ?_⟩
      by_cases h : (i : Int) < (l.length : Int)
      · exact Ev.pos h (Ev.neg (by omega) (Ev.now _))
      · exact Ev.neg h (Ev.now _)
    | succ d ih =>
      intro i s hi
      by_cases h : (i : Int) < (l.length : Int)
      · obtain ⟨s', e⟩ := ih (i + 1) (Go.bits .and .i64 (wrap64 ((wrap64 ((wrap64 (s * 149)) + (wrap64 (rd l (i : Int))))) + 11)) 1073741823) (by omega)
        refine ⟨s', Ev.step (fun k => by rw [spec_l01New.l0]) ?_⟩
        rw [wsucc i (by omega)]
        exact Ev.pos h (Ev.pos (by omega) (Ev.pos (by omega) e))
      · exact ⟨s, Ev.step (fun k => by rw [spec_l01New.l0]) (Ev.neg h (Ev.now _))⟩
  unfold spec_l01New.f
  exact key 4000 0 _ (by omega)
theorem sSize (l : List Int) (hl : l.length ≤ 140737488351232) (a : Int) (ha : 2 ≤ a) : ∃ t, spec_l01Size.f l a = some t ∧ 2 ≤ t ∧ t ≤ a := by
  unfold spec_l01Size.f
  rw [w64 (n := (l.length : Int) / 16) (by omega) (by omega), w64 (by omega) (by omega)]
  by_cases h : 2 + (l.length : Int) / 16 > a
  · rw [if_pos h]; exact ⟨a, rfl, ha, by omega⟩
  · rw [if_neg h]; exact ⟨_, rfl, by omega, by omega⟩

theorem sOnce (l : List Int) (hl : l.length ≤ 140737488351232) (i s n : Int) (h : inCode l i) : ∃ b i' s', spec_l01Once.f l i s n = some (b, i', s') ∧ inCode l i' := by
  unfold spec_l01Once.f
  obtain ⟨b, i1, s1, e, _, _, hi⟩ := sBelow l hl i s n h
  rw [e]
  exact ⟨_, _, _, rfl, hi⟩

theorem sPick (l : List Int) (hl : l.length ≤ 140737488351232) (i s : Int) (xs : List Int) (h : inCode l i) (hx : 0 < xs.length) : ∃ v i' s', spec_l01PickInt.f l i s xs = some (v, i', s') ∧ inCode l i' := by
  unfold spec_l01PickInt.f
  obtain ⟨b, i1, s1, e, h0, h1, hi⟩ := sBelow l hl i s (xs.length : Int) h
  rw [e, Option.bind_some, if_pos h0, if_pos (h1 (by omega))]
  exact ⟨_, _, _, rfl, hi⟩

theorem sEvents_l0 (l : List Int) (hl : l.length ≤ 140737488351232) : ∀ (d i : Nat) (out : List Int) (n p s : Int), (i : Int) + d = n → n ≤ 400 → out.length = i → inCode l p → ∃ r, Ev (fun k => spec_l07DrawEvents.l0 k out n (i : Int) l p s) r ∧ (r.length : Int) = n := by
  intro d
  induction d with
  | zero =>
    intro i out n p s hi hn ho hp
    refine ⟨out, Ev.step (fun k => by rw [spec_l07DrawEvents.l0]) ?_, by omega⟩
    exact Ev.neg (by omega) (Ev.now _)
  | succ d ih =>
    intro i out n p s hi hn ho hp
    obtain ⟨v, p1, s1, e1, hp1⟩ := sPick l hl p s [0, 0, 1, 1, 2, 2, 3, 3, 4, 5] hp (by simp)
    obtain ⟨o, p2, s2, e2, hp2⟩ := sOnce l hl p1 s1 40 hp1
    by_cases h : o = true
    · obtain ⟨u, p3, s3, e3, hp3⟩ := sPick l hl p2 s2 [-1, 6, 7] hp2 (by simp)
      obtain ⟨r, hr, hn'⟩ := ih (i + 1) ((out ++ [v]).set i u) n p3 s3 (by omega) hn (by simp [ho]) hp3
      refine ⟨r, Ev.step (fun k => by rw [spec_l07DrawEvents.l0]) ?_, hn'⟩
      refine Ev.pos (by omega) (Ev.bind' _ (Ev.is fun _ => e1) (Ev.pos (by omega) (Ev.some' (Ev.bind' _ (Ev.is fun _ => e2) (Ev.pos h (Ev.bind' _ (Ev.is fun _ => e3) (Ev.pos (by omega) (Ev.pos (by simp; omega) ?_))))))))
      rw [wsucc i (by omega)]
      exact hr
    · obtain ⟨r, hr, hn'⟩ := ih (i + 1) (out ++ [v]) n p2 s2 (by omega) hn (by simp [ho]) hp2
      refine ⟨r, Ev.step (fun k => by rw [spec_l07DrawEvents.l0]) ?_, hn'⟩
      refine Ev.pos (by omega) (Ev.bind' _ (Ev.is fun _ => e1) (Ev.pos (by omega) (Ev.some' (Ev.bind' _ (Ev.is fun _ => e2) (Ev.neg h ?_)))))
      rw [wsucc i (by omega)]
      exact hr
theorem sEvents (l : List Int) (hl : l.length ≤ 140737488351232) : ∃ r, Ev (fun k => spec_l07DrawEvents.f k l) r ∧ r.length ≤ 400 := by
  obtain ⟨s0, e0⟩ := sNew l hl
  obtain ⟨t, et, ht, ht'⟩ := sSize l hl 40 (by omega)
  have h0 : inCode l 0 := ⟨by omega, by omega⟩
  obtain ⟨n, p1, s1, e1, hn0, hn1, hp1⟩ := sBelow l hl 0 s0 t h0
  obtain ⟨o, p2, s2, e2, hp2⟩ := sOnce l hl p1 s1 40 hp1
  by_cases h : o = true
  · obtain ⟨m, p3, s3, e3, hm0, hm1, hp3⟩ := sBelow l hl p2 s2 2 hp2
    have hm2 := hm1 (by omega)
    obtain ⟨r, hr, hn'⟩ := sEvents_l0 l hl (300 + m).toNat 0 [] (300 + m) p3 s3 (by omega) (by omega) rfl hp3
    refine ⟨r, ?_, by omega⟩
    unfold spec_l07DrawEvents.f
    refine Ev.bind' _ e0 (Ev.some' (Ev.bind' _ (Ev.is fun _ => et) (Ev.bind' _ (Ev.is fun _ => e1) (Ev.bind' _ (Ev.is fun _ => e2) (Ev.pos h (Ev.bind' _ (Ev.is fun _ => e3) ?_))))))
    refine Ev.step (fun k => by rw [spec_l07DrawEvents.j0]) ?_
    rw [w64 (by omega) (by omega)]
    exact hr
  · have hn2 := hn1 (by omega)
    obtain ⟨r, hr, hn'⟩ := sEvents_l0 l hl n.toNat 0 [] n p2 s2 (by omega) (by omega) rfl hp2
    refine ⟨r, ?_, by omega⟩
    unfold spec_l07DrawEvents.f
    refine Ev.bind' _ e0 (Ev.some' (Ev.bind' _ (Ev.is fun _ => et) (Ev.bind' _ (Ev.is fun _ => e1) (Ev.bind' _ (Ev.is fun _ => e2) (Ev.neg h ?_)))))
    refine Ev.step (fun k => by rw [spec_l07DrawEvents.j0]) ?_
    exact hr

theorem lawAt (l : List Int) (hl : l.length ≤ 1048576) (hw : ∀ x ∈ l, (Lit.int .u8 x).wf = true) (a : Int) (h0 : 0 ≤ a) (h1 : a ≤ 1048576) : ∃ t, laws_at.f l a = some t ∧ 0 ≤ t ∧ t ≤ 255 := by
  unfold laws_at.f
  by_cases h : a < (l.length : Int)
  · rw [if_pos h, if_pos h0]
    have e : rd l a = l[a.toNat]'(by omega) := by
      have := rd_nat l a.toNat (by omega)
      rwa [show ((a.toNat : Nat) : Int) = a by omega] at this
    have hx := hw _ (List.getElem_mem (show a.toNat < l.length by omega))
    simp [Lit.wf, IntKind.min, IntKind.max, IntKind.signed, IntKind.bits] at hx
    rw [e]
    refine ⟨_, rfl, ?_⟩
    rw [w64 (by omega) (by omega)]
    omega
  · rw [if_neg h, w64 (n := a * 13) (by omega) (by omega), w64 (n := (l.length : Int) * 5) (by omega) (by omega), w64 (by omega) (by omega)]
    refine ⟨_, rfl, Int.tmod_nonneg _ (by omega), ?_⟩
    have := Int.tmod_lt_of_pos (a * 13 + (l.length : Int) * 5) (show (0 : Int) < 256 by omega)
    omega
theorem lawBig (l : List Int) : laws_big.f l = some (decide ((l.length : Int) > 1048576)) := rfl

theorem same_ev (l : List Int) (hl : l.length ≤ 1048577) : Ev (fun k => laws_same.f k l l) true := by
  have key : ∀ (d i : Nat), i + d = l.length → Ev (fun k => laws_same.l0 k l l (i : Int)) true := by
    intro d
    induction d with
    | zero =>
      intro i hi
      refine Ev.step (fun k => by rw [laws_same.l0]) ?_
      exact Ev.neg (by omega) (Ev.now _)
    | succ d ih =>
      intro i hi
      refine Ev.step (fun k => by rw [laws_same.l0]) ?_
      rw [wsucc i (by omega)]
      exact Ev.pos (by omega) (Ev.pos (by omega) (Ev.pos (by omega) (Ev.pos rfl (ih (i + 1) (by omega)))))
  unfold laws_same.f
  exact Ev.pos rfl (key l.length 0 (by omega))

def states : Int → List Int → List Int
  | _, [] => []
  | s, e :: es => (stepC s e).1 :: states (stepC s e).1 es
def leaves (w : Int) : Nat → Int → List Int → List Int
  | _, _, [] => []
  | i, s, e :: es => (if (stepC s e).2 = true ∧ s = w then [(i : Int)] else []) ++ leaves w (i + 1) (stepC s e).1 es
theorem play_states : ∀ (l : List Int) (i : Nat) (s : Int) (out : List Int), (runE playStep id i l (s, out)).2 = out ++ states s l
  | [], i, s, out => by simp [runE, states]
  | e :: l, i, s, out => by
    rw [runE]
    simp only [playStep]
    rw [play_states l]
    simp [states]
theorem watch_leaves (w : Int) : ∀ (l : List Int) (i : Nat) (s : Int) (out : List Int), runE (watchStep w) (fun s => s.2) i l (s, out) = out ++ leaves w i s l
  | [], i, s, out => by simp [runE, leaves]
  | e :: l, i, s, out => by
    rw [runE]
    simp only [watchStep]
    rw [watch_leaves w l, leaves]
    by_cases h : (stepC s e).2 = true ∧ s = w
    · rw [if_pos h, if_pos h, List.append_assoc]
    · rw [if_neg h, if_neg h, List.nil_append]
theorem stepC_ne (s e : Int) : (stepC s e).2 = true ↔ (stepC s e).1 ≠ s := by
  unfold stepC
  split <;> simp
theorem stepC_shut (e : Int) : stepC 4 e = (4, false) := by
  have h : goes 4 e = 4 := by
    unfold goes
    repeat' split
    all_goals omega
  unfold stepC
  rw [h]
  split <;> simp
theorem states_len : ∀ (l : List Int) (s : Int), (states s l).length = l.length
  | [], _ => rfl
  | e :: l, s => by rw [states, List.length_cons, states_len l, List.length_cons]
theorem leaves_len (w : Int) : ∀ (l : List Int) (i : Nat) (s : Int), (leaves w i s l).length ≤ l.length
  | [], _, _ => Nat.le_refl _
  | e :: l, i, s => by
    have := leaves_len w l (i + 1) (stepC s e).1
    rw [leaves, List.length_append, List.length_cons]
    split <;> simp <;> omega
theorem law_l1 (code : List Int) (w : Int) (t : Int) (ht : laws_at.f code 2 = some t) (list left : List Int) (hn : list.length ≤ 300) (hm : left.length ≤ 300) : ∀ (es : List Int) (i kk : Nat) (s : Int) (A B : List Int), list = A ++ states s es → A.length = i → left = B ++ leaves w i s es → B.length = kk → Ev (fun k => laws_FnChannels.l1 k code list w left (kk : Int) s (i : Int)) true
  | [], i, kk, s, A, B, hA, hi, hB, hk => by
    rw [states, List.append_nil] at hA
    rw [leaves, List.append_nil] at hB
    subst hA hB
    refine Ev.step (fun k => by rw [laws_FnChannels.l1]) ?_
    refine Ev.neg (by omega) (Ev.bind' _ (Ev.is fun _ => ht) (Ev.bind' _ (iStepC_ev _ _) ?_))
    rw [stepC_shut]
    exact Ev.pos (by omega) (Ev.pos rfl (Ev.now _))
  | e :: es, i, kk, s, A, B, hA, hi, hB, hk => by
    have hlen : i < list.length := by rw [hA, states]; simp; omega
    have hat : list[i] = (stepC s e).1 := by
      have : list[i]? = some (stepC s e).1 := by rw [hA, states, List.getElem?_append_right (by omega), hi]; simp
      rw [List.getElem?_eq_getElem hlen] at this
      exact Option.some.inj this
    refine Ev.step (fun k => by rw [laws_FnChannels.l1]) ?_
    refine Ev.pos (by omega) ?_
    rw [rd_nat list i hlen, hat]
    have hA' : list = (A ++ [(stepC s e).1]) ++ states (stepC s e).1 es := by rw [hA, states]; simp
    by_cases hb : s = w ∧ ¬ (stepC s e).1 = w
    · have hc : (stepC s e).2 = true ∧ s = w := ⟨(stepC_ne s e).2 (by rw [hb.1]; rw [hb.1] at hb; exact hb.2), hb.1⟩
      rw [leaves, if_pos hc] at hB
      have hB' : left = (B ++ [(i : Int)]) ++ leaves w (i + 1) (stepC s e).1 es := by rw [hB]; simp
      have hkl : kk < left.length := by rw [hB']; simp; omega
      have hka : left[kk] = (i : Int) := by
        have : left[kk]? = some (i : Int) := by rw [hB, List.getElem?_append_right (by omega), hk]; simp
        rw [List.getElem?_eq_getElem hkl] at this
        exact Option.some.inj this
      refine Ev.pos hb.1 (Ev.pos (by omega) ?_)
      refine Ev.step (fun k => by rw [laws_FnChannels.j5]) ?_
      rw [rd_nat left kk hkl, hka, rd_nat list i hlen, hat, wsucc kk (by omega), wsucc i (by omega)]
      refine Ev.pos (by simpa using hb.2) (Ev.neg (by omega) (Ev.pos (by omega) (Ev.pos (by omega) (Ev.pos rfl (Ev.pos (by omega) (Ev.pos (by omega) ?_))))))
      exact law_l1 code w t ht list left hn hm es (i + 1) (kk + 1) (stepC s e).1 _ _ hA' (by simp; omega) hB' (by simp; omega)
    · have hc : ¬ ((stepC s e).2 = true ∧ s = w) := fun h => hb ⟨h.2, by have := (stepC_ne s e).1 h.1; rw [← h.2]; exact this⟩
      rw [leaves, if_neg hc, List.nil_append] at hB
      have hj : ∀ b : Bool, ¬ b = true → Ev (fun k => laws_FnChannels.j5 k code list w left (kk : Int) (i : Int) b) true := fun b h => by
        refine Ev.step (fun k => by rw [laws_FnChannels.j5]) ?_
        rw [rd_nat list i hlen, hat, wsucc i (by omega)]
        refine Ev.neg h (Ev.pos (by omega) (Ev.pos (by omega) ?_))
        exact law_l1 code w t ht list left hn hm es (i + 1) kk (stepC s e).1 _ _ hA' (by simp; omega) hB hk
      by_cases hs : s = w
      · have h2 : (stepC s e).1 = w := Classical.byContradiction fun h => hb ⟨hs, h⟩
        exact Ev.pos hs (Ev.pos (by omega) (hj _ (by simp [h2])))
      · exact Ev.neg hs (hj _ (by simp))
def runW : Int → List Int → Option Int
  | s, [] => some s
  | s, e :: es => if (stepC s e).2 = true then runW (stepC s e).1 es else none
theorem law_l0 (code ev list : List Int) (w tgt : Int) (way : List Int) (ok : Bool) (hn : way.length ≤ 100) (hok : ok = true → ∀ u, runW w way = some u → u = tgt) (hk : Ev (fun k => laws_FnChannels.j3 k code ev list w false) true) : ∀ (es : List Int) (i : Nat) (s u : Int) (A : List Int), way = A ++ es → A.length = i → runW s es = some u → runW w way = some u → Ev (fun k => laws_FnChannels.l0 k code ev list w tgt way ok s (i : Int)) true
  | [], i, s, u, A, hA, hi, hr, hf => by
    rw [List.append_nil] at hA
    subst hA
    refine Ev.step (fun k => by rw [laws_FnChannels.l0]) ?_
    refine Ev.neg (by omega) ?_
    have hs : s = u := by rw [runW] at hr; exact Option.some.inj hr
    by_cases h : ok = true
    · refine Ev.pos h ?_
      have e : (s != tgt) = false := by rw [hs, hok h u hf]; simp
      simp only [e]
      exact hk
    · exact Ev.neg h hk
  | e :: es, i, s, u, A, hA, hi, hr, hf => by
    have hlen : i < way.length := by rw [hA]; simp; omega
    have hat : way[i] = e := by
      have : way[i]? = some e := by rw [hA, List.getElem?_append_right (by omega), hi]; simp
      rw [List.getElem?_eq_getElem hlen] at this
      exact Option.some.inj this
    rw [runW] at hr
    split at hr
    case isFalse => cases hr
    rename_i hc
    refine Ev.step (fun k => by rw [laws_FnChannels.l0]) ?_
    rw [rd_nat way i hlen, hat, wsucc i (by omega)]
    refine Ev.pos (by omega) (Ev.pos (by omega) (Ev.bind' _ (iStepC_ev _ _) (Ev.pos hc ?_)))
    exact law_l0 code ev list w tgt way ok hn hok hk es (i + 1) (stepC s e).1 u (A ++ [e]) (by rw [hA]; simp) (by simp; omega) hr hf
def wayOk (a b : Int) : Bool := match impl_ShortestEvents.f 300 a b with
  | some (way, ok) => decide (way.length ≤ 100) && (ok == (if a = 4 then b == a else true)) && (match runW a way with | some u => !ok || decide (u = b) | none => false)
  | none => false
theorem ways_ok : ∀ a b : Fin 5, wayOk (a.val : Int) (b.val : Int) = true := by decide +kernel
theorem FnChannels : laws_FnChannels.Pure := by
  intro code _ hl hw
  refine Ev.rounds (r := true) ?_
  unfold laws_FnChannels.f
  refine Ev.bind' _ (Ev.is fun _ => lawBig code) ?_
  by_cases hb : (code.length : Int) > 1048576
  · exact Ev.pos (by simpa using hb) (Ev.now _)
  refine Ev.neg (by simpa using hb) ?_
  obtain ⟨ev, hev, hel⟩ := sEvents code (by omega)
  refine Ev.bind' ev (by unfold spec_DrawPlayChannel.f; exact Ev.bind' _ hev (Ev.now _)) ?_
  have hpl := playChan_len ev
  refine Ev.bind' _ (sPlay_ev ev) (Ev.bind' _ (iPlay_ev ev) (Ev.pos rfl (Ev.bind' _ (same_ev _ (by omega)) ?_)))
  obtain ⟨ta, ea, ha0, ha1⟩ := lawAt code (by omega) hw 0 (by omega) (by omega)
  obtain ⟨tb, eb, hb0, hb1⟩ := lawAt code (by omega) hw 1 (by omega) (by omega)
  obtain ⟨tc, ec, _, _⟩ := lawAt code (by omega) hw 2 (by omega) (by omega)
  refine Ev.step (fun k => by rw [laws_FnChannels.j0]) (Ev.neg (by simp) (Ev.bind' _ (Ev.is fun _ => ea) (Ev.bind' _ (Ev.is fun _ => eb) ?_)))
  have hfa : 0 ≤ Int.tmod ta 5 ∧ Int.tmod ta 5 ≤ 4 := ⟨Int.tmod_nonneg _ ha0, by have := Int.tmod_lt_of_pos ta (show (0 : Int) < 5 by omega); omega⟩
  have hfb : 0 ≤ Int.tmod tb 5 ∧ Int.tmod tb 5 ≤ 4 := ⟨Int.tmod_nonneg _ hb0, by have := Int.tmod_lt_of_pos tb (show (0 : Int) < 5 by omega); omega⟩
  generalize Int.tmod ta 5 = w at hfa ⊢
  generalize Int.tmod tb 5 = tgt at hfb ⊢
  have hway := ways_ok ⟨w.toNat, by omega⟩ ⟨tgt.toNat, by omega⟩
  simp only [Int.toNat_of_nonneg hfa.1, Int.toNat_of_nonneg hfb.1] at hway
  unfold wayOk at hway
  split at hway
  case h_2 => cases hway
  rename_i way ok hsh
  simp only [Bool.and_eq_true, decide_eq_true_eq, beq_iff_eq] at hway
  obtain ⟨⟨hwl, hok⟩, hrun⟩ := hway
  split at hrun
  case h_2 => cases hrun
  rename_i u hu
  have hE : Ev (fun k => impl_ShortestEvents.f k w tgt) (way, ok) := Ev.of (fun k => impl_ShortestEvents.mono w tgt k) hsh
  refine Ev.bind' _ hE (Ev.bind' ok (by unfold impl_CanReach.f; exact Ev.bind' _ hE (Ev.now _)) ?_)
  refine Ev.neg (by simp) ?_
  have hj3 : Ev (fun k => laws_FnChannels.j3 k code ev (playChan ev).2 w false) true := by
    refine Ev.step (fun k => by rw [laws_FnChannels.j3]) (Ev.neg (by simp) (Ev.bind' _ (iWatch_ev ev w) ?_))
    by_cases h3 : ev.length ≤ 300
    · have e1 : (playChan ev).2 = [] ++ states 0 ev := by unfold playChan; rw [if_neg (by omega), play_states]
      have e2 : watched ev w = [] ++ leaves w 0 0 ev := by unfold watched; rw [if_pos ⟨h3, hfa⟩, watch_leaves]
      exact law_l1 code w tc ec (playChan ev).2 (watched ev w) hpl (watched_len ev w) ev 0 0 0 [] [] e1 rfl e2 rfl
    · have e1 : (playChan ev).2 = [] ++ states 0 [] := by unfold playChan; rw [if_pos (by omega)]; rfl
      have e2 : watched ev w = [] ++ leaves w 0 0 [] := by unfold watched; rw [if_neg (fun e => h3 e.1)]; rfl
      exact law_l1 code w tc ec (playChan ev).2 (watched ev w) hpl (watched_len ev w) [] 0 0 0 [] [] e1 rfl e2 rfl
  have hj1 : Ev (fun k => laws_FnChannels.j1 k code ev (playChan ev).2 w tgt way ok false) true := by
    refine Ev.step (fun k => by rw [laws_FnChannels.j1]) (Ev.neg (by simp) ?_)
    exact law_l0 code ev (playChan ev).2 w tgt way ok hwl (fun h v hv => by rw [hu] at hv; cases hv; simpa [h] using hrun) hj3 way 0 w u [] rfl rfl hu hu
  by_cases h4 : w = 4
  · refine Ev.pos h4 ?_
    have e : (ok != (tgt == w)) = false := by rw [hok, if_pos h4]; simp
    simp only [e]
    exact hj1
  · refine Ev.neg h4 ?_
    have e : (ok != true) = false := by rw [hok, if_neg h4]; simp
    simp only [e]
    exact hj1

end Go.Proofs.Ytjjklpiiiihmlaa.Pure
