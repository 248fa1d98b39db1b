/-
For every heap and number the program's DueOf and the reference's DueOf answer alike and the heap is left as it was (the printed law answers true). Its list is any that a slice can hold.
-/
import Derived.Test.YtpckdemamlhpdaaMFnExactDueOfx5
namespace Go.Proofs.Ytpckdemamlhpdaa.Pure
open Go.RowKit Go.Proofs.Ytpckdemamlhpdaa.MFnExactDueOf Go.Proofs.YtpckdemamlhpdaaW.PrintWords Go.Proofs.YtpckdemamlhpdaaW.PrintLast Go.Proofs.YtpckdemamlhpdaaW.PrintMore 
set_option linter.unusedVariables false
set_option linter.unusedSimpArgs false

theorem w64 {n : Int} (h0 : -9223372036854775808 ≤ n) (h1 : n ≤ 9223372036854775807) : wrap64 n = n := by unfold wrap64; omega
theorem wsucc (i : Nat) (h : i < 9223372036854775807) : wrap64 ((i : Int) + 1) = ((i + 1 : Nat) : Int) := by rw [w64 (by omega) (by omega)]; omega
theorem rd_nat (xs : List Int) (i : Nat) (h : i < xs.length) : rd xs (i : Int) = xs[i] := by simp [rd, h]
theorem rdOf_nat {α : Type} (d : α) (xs : List α) (i : Nat) (h : i < xs.length) : rdOf d xs (i : Int) = xs[i] := by simp [rdOf, h]
theorem Ev.pos {α : Type} {c : Prop} [Decidable c] {A B : Nat → Option α} {r : α} (h : c) (e : Ev A r) : Ev (fun k => if c then A k else B k) r := Ev.congr (fun _ => if_pos h) e
theorem Ev.neg {α : Type} {c : Prop} [Decidable c] {A B : Nat → Option α} {r : α} (h : ¬ c) (e : Ev B r) : Ev (fun k => if c then A k else B k) r := Ev.congr (fun _ => if_neg h) e
theorem Ev.bind' {α β : Type} {g : Nat → Option α} {f : Nat → α → Option β} {r : β} (a : α) (h : Ev g a) (k : Ev (fun n => f n a) r) : Ev (fun n => (g n).bind (f n)) r := Ev.bind h k
theorem Ev.some' {α β : Type} {a : α} {f : Nat → α → Option β} {r : β} (k : Ev (fun n => f n a) r) : Ev (fun n => (Option.some a).bind (f n)) r := Ev.bind (Ev.now a) k
theorem Ev.is {α : Type} {g : Nat → Option α} {r : α} (h : ∀ k, g k = some r) : Ev g r := ⟨0, fun k _ => h k⟩
theorem Ev.at1 {α : Type} {g : Nat → Option α} {r : α} (h : ∀ k, g (k + 1) = some r) : Ev g r := ⟨1, fun k hk => by obtain ⟨m, rfl⟩ : ∃ m, k = m + 1 := ⟨k - 1, by omega⟩; exact h m⟩
theorem Ev.at2 {α : Type} {g : Nat → Option α} {r : α} (h : ∀ k, g (k + 2) = some r) : Ev g r := ⟨2, fun k hk => by obtain ⟨m, rfl⟩ : ∃ m, k = m + 2 := ⟨k - 2, by omega⟩; exact h m⟩
theorem Ev.at3 {α : Type} {g : Nat → Option α} {r : α} (h : ∀ k, g (k + 3) = some r) : Ev g r := ⟨3, fun k hk => by obtain ⟨m, rfl⟩ : ∃ m, k = m + 3 := ⟨k - 3, by omega⟩; exact h m⟩
/-- What a loop over a list comes to: a state, a step that goes on or answers, an end. -/
def runE {α σ ρ : Type} (step : Nat → σ → α → Except ρ σ) (fin : σ → ρ) : Nat → List α → σ → ρ
  | _, [], s => fin s
  | i, x :: xs, s => match step i s x with
    | .error r => r
    | .ok s' => runE step fin (i + 1) xs s'
/-- A loop over a list, round by round (from K rounds on). -/
theorem loop_run {α σ ρ : Type} (xs : List α) (L : Nat → σ → Int → Option ρ) (step : Nat → σ → α → Except ρ σ) (fin : σ → ρ) (K : Nat)
    (hs : ∀ k, K ≤ k → ∀ s (i : Nat) (h : i < xs.length), L (k + 1) s i = match step i s xs[i] with | .error r => some r | .ok s' => L k s' ((i + 1 : Nat) : Int))
    (he : ∀ k s, L (k + 1) s (xs.length : Int) = some (fin s)) :
    ∀ (d k : Nat) (s : σ) (i : Nat), i ≤ xs.length → xs.length - i = d → d + K < k → L k s (i : Int) = some (runE step fin i (xs.drop i) s) := by
  intro d
  induction d with
  | zero =>
    intro k s i hi hd hk
    obtain ⟨k, rfl⟩ : ∃ m, k = m + 1 := ⟨k - 1, by omega⟩
    obtain rfl : i = xs.length := by omega
    rw [he, List.drop_length, runE]
  | succ d ih =>
    intro k s i hi hd hk
    obtain ⟨k, rfl⟩ : ∃ m, k = m + 1 := ⟨k - 1, by omega⟩
    have hlt : i < xs.length := by omega
    rw [hs k (by omega) s i hlt, List.drop_eq_getElem_cons hlt, runE]
    cases step i s xs[i] with
    | error r => rfl
    | ok s' => exact ih k s' (i + 1) (by omega) (by omega) (by omega)
/-- The same, from the start. -/
theorem loop_ev {α σ ρ : Type} (xs : List α) (L : Nat → σ → Int → Option ρ) (step : Nat → σ → α → Except ρ σ) (fin : σ → ρ) (K : Nat)
    (hs : ∀ k, K ≤ k → ∀ s (i : Nat) (h : i < xs.length), L (k + 1) s i = match step i s xs[i] with | .error r => some r | .ok s' => L k s' ((i + 1 : Nat) : Int))
    (he : ∀ k s, L (k + 1) s (xs.length : Int) = some (fin s)) (s : σ) : Ev (fun k => L k s 0) (runE step fin 0 xs s) :=
  ⟨xs.length + K + 1, fun k hk => by have := loop_run xs L step fin K hs he xs.length k s 0 (by omega) (by omega) (by omega); simpa using this⟩
theorem wf_b {n : Int} (h : (Lit.int .i64 n).wf = true) : -9223372036854775808 ≤ n ∧ n ≤ 9223372036854775807 := by
  simp [Lit.wf, IntKind.min, IntKind.max, IntKind.signed, IntKind.bits] at h
  omega
theorem Ev.ite {α : Type} {c : Prop} [Decidable c] {A B : Nat → Option α} {a b : α} (h1 : c → Ev A a) (h2 : ¬ c → Ev B b) : Ev (fun k => if c then A k else B k) (if c then a else b) := by
  by_cases h : c
  · rw [if_pos h]; exact Ev.pos h (h1 h)
  · rw [if_neg h]; exact Ev.neg h (h2 h)

def due0 (l : List S48) (i : Nat) : S48 := rd_T48 l (i : Int)
def before (a b : S48) : Bool := decide (a.f0 < b.f0 ∨ (a.f0 = b.f0 ∧ a.f1 < b.f1))
def innerD (l : List S48) (s1 s2 : Int) : Nat → Nat → Bool
  | 0, _ => true
  | d + 1, i => if (due0 l i).f2 = s2 ∨ (due0 l i).f1 = s1 then false else innerD l s1 s2 d (i + 1)
def heapGo (l : List S48) (seq : Int) : Nat → Nat → Bool
  | 0, _ => true
  | d + 1, i => if (0 ≤ (due0 l i).f0 ∧ (due0 l i).f0 ≤ 1000000000) ∧ (1 ≤ (due0 l i).f1 ∧ (due0 l i).f1 ≤ seq) ∧ (1 ≤ (due0 l i).f2 ∧ (due0 l i).f2 ≤ 1000000000) ∧ (0 < i → before (due0 l i) (due0 l ((i - 1) / 2)) = false) then (innerD l (due0 l i).f1 (due0 l i).f2 i 0 && heapGo l seq d (i + 1)) else false
def heapOk (l : List S48) (seq : Int) : Bool := decide (l.length ≤ 100 ∧ (0 ≤ seq ∧ seq ≤ 1000000000)) && heapGo l seq l.length 0
theorem whalf (i : Nat) (h : 0 < i) (h2 : i < 9223372036854775807) : wrap64 (Int.tdiv (wrap64 ((i : Int) - 1)) 2) = (((i - 1) / 2 : Nat) : Int) := by
  rw [w64 (n := (i : Int) - 1) (by omega) (by omega), Int.tdiv_eq_ediv_of_nonneg (by omega), w64 (by omega) (by omega)]
  omega

def findD (v : Int) : Nat → List S48 → Int
  | _, [] => -1
  | i, x :: xs => if x.f2 = v then (i : Int) else findD v (i + 1) xs
theorem findD_range (v : Int) : ∀ (l : List S48) (i : Nat), findD v i l = -1 ∨ ((i : Int) ≤ findD v i l ∧ findD v i l < (i : Int) + l.length)
  | [], _ => .inl rfl
  | x :: xs, i => by
    rw [findD]
    by_cases h : x.f2 = v
    · rw [if_pos h]; exact .inr ⟨Int.le_refl _, by simp; omega⟩
    · rw [if_neg h]
      rcases findD_range v xs (i + 1) with e | e
      · exact .inl e
      · exact .inr ⟨by omega, by simp; omega⟩
theorem rdD (l : List S48) (i : Nat) (h : i < l.length) : rd_T48 l (i : Int) = l[i] := by simp [rd_T48, h]
def atOf (l : List S48) (u v : Int) : Int := if heapOk l u = true then (if findD v 0 l < 0 then -1 else (rd_T48 l (findD v 0 l)).f0) else -1

theorem sIn (a b c : Int) : spec_l01In.f a b c = some (decide (b ≤ a ∧ a ≤ c)) := by
  unfold spec_l01In.f; by_cases h : b ≤ a <;> simp [h]

theorem sTick (a : Int) : spec_TickOk.f a = some (decide (0 ≤ a ∧ a ≤ 1000000000)) := by unfold spec_TickOk.f; rw [sIn]; rfl

theorem sBefore (a b : S48) : spec_l03Before.f a.f0 a.f1 a.f2 b.f0 b.f1 b.f2 = some (before a b) := by
  unfold spec_l03Before.f before
  by_cases h1 : a.f0 < b.f0
  · simp [h1]
  · by_cases h2 : a.f0 = b.f0
    · simp [h2]
    · simp [h1, h2]
theorem sHeap_l1 (l : List S48) (seq : Int) (i : Nat) (a b c : Int) (hi : i < l.length) (hl : l.length ≤ 100) (R : Bool) (hR : Ev (fun k => spec_HeapOk.l0 k ((i + 1 : Nat) : Int) l seq) R) : ∀ (d j : Nat), j + d = i → Ev (fun k => spec_HeapOk.l1 k (i : Int) (j : Int) l seq a b c) (innerD l b c d j && R) := by
  intro d
  induction d with
  | zero =>
    intro j hj
    refine Ev.step (fun k => by rw [spec_HeapOk.l1]) ?_
    refine Ev.neg (by omega) ?_
    rw [wsucc i (by omega), innerD, Bool.true_and]
    exact hR
  | succ d ih =>
    intro j hj
    refine Ev.step (fun k => by rw [spec_HeapOk.l1]) ?_
    refine Ev.pos (by omega) (Ev.pos (by omega) (Ev.pos (by omega) ?_))
    rw [innerD, wsucc j (by omega)]
    by_cases h1 : (due0 l j).f2 = c
    · rw [if_pos (.inl h1)]
      exact Ev.pos h1 (Ev.now _)
    · refine Ev.neg h1 ?_
      by_cases h2 : (due0 l j).f1 = b
      · rw [if_pos (.inr h2)]
        exact Ev.pos h2 (Ev.now _)
      · rw [if_neg (fun e => e.elim h1 h2)]
        exact Ev.neg h2 (ih (j + 1) (by omega))
theorem sHeap_l0 (l : List S48) (seq : Int) (hl : l.length ≤ 100) : ∀ (d i : Nat), i + d = l.length → Ev (fun k => spec_HeapOk.l0 k (i : Int) l seq) (heapGo l seq d i) := by
  intro d
  induction d with
  | zero =>
    intro i hi
    refine Ev.step (fun k => by rw [spec_HeapOk.l0]) ?_
    exact Ev.neg (by omega) (Ev.now _)
  | succ d ih =>
    intro i hi
    refine Ev.step (fun k => by rw [spec_HeapOk.l0]) ?_
    have hj : ∀ (b : Bool) (x y z : Int), b = true → Ev (fun k => spec_HeapOk.j2 k (i : Int) b l seq x y z) false := fun b x y z h => Ev.step (fun k => by rw [spec_HeapOk.j2]) (Ev.pos h (Ev.now _))
    have hg : ∀ (b : Bool), b = false → Ev (fun k => spec_HeapOk.j2 k (i : Int) b l seq (due0 l i).f0 (due0 l i).f1 (due0 l i).f2) (innerD l (due0 l i).f1 (due0 l i).f2 i 0 && heapGo l seq d (i + 1)) := fun b h => by
      refine Ev.step (fun k => by rw [spec_HeapOk.j2]) ?_
      exact Ev.neg (by rw [h]; simp) (sHeap_l1 l seq i _ _ _ (by omega) hl _ (ih (i + 1) (by omega)) i 0 (by omega))
    rw [heapGo]
    refine Ev.pos (by omega) (Ev.pos (by omega) (Ev.bind' _ (Ev.is fun _ => sTick _) ?_))
    by_cases h1 : 0 ≤ (due0 l i).f0 ∧ (due0 l i).f0 ≤ 1000000000
    case neg => rw [if_neg (fun e => h1 e.1)]; exact Ev.neg (by simpa [due0] using h1) (hj _ _ _ _ rfl)
    refine Ev.pos (by simpa [due0] using h1) (Ev.bind' _ (Ev.is fun _ => sIn _ _ _) ?_)
    by_cases h2 : 1 ≤ (due0 l i).f1 ∧ (due0 l i).f1 ≤ seq
    case neg => rw [if_neg (fun e => h2 e.2.1)]; exact Ev.neg (by simpa [due0] using h2) (hj _ _ _ _ rfl)
    refine Ev.pos (by simpa [due0] using h2) (Ev.bind' _ (Ev.is fun _ => sIn _ _ _) ?_)
    by_cases h3 : 1 ≤ (due0 l i).f2 ∧ (due0 l i).f2 ≤ 1000000000
    case neg => rw [if_neg (fun e => h3 e.2.2.1)]; exact Ev.neg (by simpa [due0] using h3) (hj _ _ _ _ rfl)
    refine Ev.pos (by simpa [due0] using h3) ?_
    by_cases h4 : 0 < i
    · refine Ev.pos (by omega) ?_
      rw [whalf i h4 (by omega)]
      refine Ev.pos (by omega) (Ev.pos (by omega) (Ev.bind' _ (Ev.is fun _ => sBefore (due0 l i) (due0 l ((i - 1) / 2))) ?_))
      by_cases h5 : before (due0 l i) (due0 l ((i - 1) / 2)) = false
      · rw [if_pos ⟨h1, h2, h3, fun _ => h5⟩]; exact hg _ h5
      · rw [if_neg (fun e => h5 (e.2.2.2 h4))]; exact hj _ _ _ _ (by simpa using h5)
    · rw [if_pos ⟨h1, h2, h3, fun e => absurd e h4⟩]
      exact Ev.neg (by omega) (hg _ rfl)
theorem sHeap_ev (l : List S48) (seq : Int) : Ev (fun k => spec_HeapOk.f k l seq) (heapOk l seq) := by
  unfold spec_HeapOk.f heapOk
  have hj : ∀ (b : Bool), b = true → Ev (fun k => spec_HeapOk.j0 k b l seq) false := fun b h => Ev.step (fun k => by rw [spec_HeapOk.j0]) (Ev.pos h (Ev.now _))
  by_cases h1 : l.length ≤ 100
  · refine Ev.neg (by omega) (Ev.bind' _ (Ev.is fun _ => sTick seq) ?_)
    by_cases h2 : 0 ≤ seq ∧ seq ≤ 1000000000
    · have e : decide (l.length ≤ 100 ∧ (0 ≤ seq ∧ seq ≤ 1000000000)) = true := by simp [h1, h2]
      rw [e, Bool.true_and]
      refine Ev.step (fun k => by rw [spec_HeapOk.j0]) ?_
      exact Ev.neg (by simp [h2]) (sHeap_l0 l seq h1 l.length 0 (by omega))
    · have e : decide (l.length ≤ 100 ∧ (0 ≤ seq ∧ seq ≤ 1000000000)) = false := by simp [h2]
      rw [e, Bool.false_and]
      exact hj _ (by simp [h2])
  · have e : decide (l.length ≤ 100 ∧ (0 ≤ seq ∧ seq ≤ 1000000000)) = false := by simp [h1]
    rw [e, Bool.false_and]
    exact Ev.pos (by omega) (hj _ rfl)

theorem sFind_ev (l : List S48) (u v : Int) (hl : l.length ≤ 1048577) : Ev (fun k => spec_l03Find.f k l u v) (findD v 0 l) := by
  have key : ∀ (d i : Nat), i + d = l.length → Ev (fun k => spec_l03Find.l0 k v (i : Int) l u) (findD v i (l.drop i)) := by
    intro d
    induction d with
    | zero =>
      intro i hi
      obtain rfl : i = l.length := by omega
      refine Ev.step (fun k => by rw [spec_l03Find.l0]) ?_
      rw [List.drop_length, findD]
      exact Ev.neg (by omega) (Ev.now _)
    | succ d ih =>
      intro i hi
      refine Ev.step (fun k => by rw [spec_l03Find.l0]) ?_
      rw [List.drop_eq_getElem_cons (by omega), findD, rdD l i (by omega), wsucc i (by omega)]
      exact Ev.pos (by omega) (Ev.pos (by omega) (Ev.ite (fun _ => Ev.now _) (fun _ => ih (i + 1) (by omega))))
  unfold spec_l03Find.f
  exact key l.length 0 (by omega)
theorem sDueOf_ev (l : List S48) (u v : Int) (hl : l.length ≤ 1048577) : Ev (fun k => spec_DueOf.f k l u v) (atOf l u v) := by
  unfold spec_DueOf.f atOf
  refine Ev.bind' _ (sHeap_ev l u) (Ev.ite (fun _ => ?_) (fun _ => Ev.now _))
  refine Ev.bind' _ (sFind_ev l u v hl) (Ev.ite (fun _ => Ev.now _) (fun h => ?_))
  have hr := findD_range v l 0
  exact Ev.bind' _ (sFind_ev l u v hl) (Ev.pos (by omega) (Ev.pos (by omega) (Ev.now _)))

theorem iIn (a b c : Int) : impl_in.f a b c = some (decide (b ≤ a ∧ a ≤ c)) := by
  unfold impl_in.f; by_cases h : b ≤ a <;> simp [h]

theorem iTick (a : Int) : impl_TickOk.f a = some (decide (0 ≤ a ∧ a ≤ 1000000000)) := by unfold impl_TickOk.f; rw [iIn]; rfl

theorem iId (a : Int) : impl_isId.f a = some (decide (1 ≤ a ∧ a ≤ 1000000000)) := by unfold impl_isId.f; rw [iIn]; rfl

theorem iCmp (a b : Int) : cmp_Compare_int.f a b = some (if a < b then -1 else if a > b then 1 else 0) := by
  unfold cmp_Compare_int.f cmp_isNaN_int.f
  simp only [Option.bind_some]
  by_cases h1 : a < b
  · simp [h1]
  · by_cases h2 : a > b <;> simp [h1, h2]
theorem iOr (a b : Int) (k : Nat) : cmp_Or_int.f (k + 3) [a, b] = some (if a = 0 then b else a) := by
  unfold cmp_Or_int.f
  have e1 : wrap64 1 = 1 := by unfold wrap64; omega
  have e2 : wrap64 2 = 2 := by unfold wrap64; omega
  by_cases h1 : a = 0
  · by_cases h2 : b = 0 <;> simp [cmp_Or_int.l0, rd, h1, h2, e1, e2]
  · simp [cmp_Or_int.l0, rd, h1]
theorem iBefore (a b : S48) (k : Nat) : impl_Due_before.f (k + 3) a.f0 a.f1 a.f2 b.f0 b.f1 b.f2 = some (before a b) := by
  unfold impl_Due_before.f impl_Due_compare.f before
  simp only [iCmp, iOr, Option.bind_some]
  by_cases h1 : a.f0 < b.f0
  · simp [h1]
  · by_cases h2 : a.f0 > b.f0
    · have h3 : ¬ a.f0 = b.f0 := by omega
      simp [h1, h2, h3]
    · have h3 : a.f0 = b.f0 := by omega
      simp only [h3]
      by_cases h4 : a.f1 < b.f1
      · simp [h4]
      · by_cases h5 : a.f1 > b.f1 <;> simp [h4, h5]
theorem iBefore_ev (a b : S48) : Ev (fun k => impl_Due_before.f k a.f0 a.f1 a.f2 b.f0 b.f1 b.f2) (before a b) := Ev.at3 (fun k => iBefore a b k)
theorem due_take (l : List S48) (i j : Nat) (h : j < i) : rd_T48 (l.take i) (j : Int) = rd_T48 l (j : Int) := by
  simp [rd_T48, List.getElem?_take, h]
theorem iHeap_l1 (l : List S48) (seq : Int) (i : Nat) (a b c : Int) (hi : i < l.length) (hl : l.length ≤ 100) (R : Bool) (hR : Ev (fun k => impl_HeapOk.l0 k l (l.length : Int) ((i + 1 : Nat) : Int) l seq) R) : ∀ (d j : Nat), j + d = i → Ev (fun k => impl_HeapOk.l1 k l (l.length : Int) (i : Int) (l.take i) ((l.take i).length : Int) (j : Int) l seq a b c) (innerD l b c d j && R) := by
  have hlt : (l.take i).length = i := by rw [List.length_take]; omega
  rw [hlt]
  intro d
  induction d with
  | zero =>
    intro j hj
    refine Ev.step (fun k => by rw [impl_HeapOk.l1]) ?_
    refine Ev.neg (by omega) ?_
    rw [wsucc i (by omega), innerD, Bool.true_and]
    exact hR
  | succ d ih =>
    intro j hj
    refine Ev.step (fun k => by rw [impl_HeapOk.l1]) ?_
    refine Ev.pos (by omega) (Ev.pos (by omega) (Ev.pos (by omega) ?_))
    rw [innerD, wsucc j (by omega), due_take l i j (by omega)]
    by_cases h2 : (due0 l j).f1 = b
    · rw [if_pos (.inr h2)]
      exact Ev.pos h2 (Ev.now _)
    · refine Ev.neg h2 ?_
      by_cases h1 : (due0 l j).f2 = c
      · rw [if_pos (.inl h1)]
        exact Ev.pos h1 (Ev.now _)
      · rw [if_neg (fun e => e.elim h1 h2)]
        exact Ev.neg h1 (ih (j + 1) (by omega))
theorem iHeap_l0 (l : List S48) (seq : Int) (hl : l.length ≤ 100) : ∀ (d i : Nat), i + d = l.length → Ev (fun k => impl_HeapOk.l0 k l (l.length : Int) (i : Int) l seq) (heapGo l seq d i) := by
  intro d
  induction d with
  | zero =>
    intro i hi
    refine Ev.step (fun k => by rw [impl_HeapOk.l0]) ?_
    exact Ev.neg (by omega) (Ev.now _)
  | succ d ih =>
    intro i hi
    refine Ev.step (fun k => by rw [impl_HeapOk.l0]) ?_
    have hj : ∀ (b : Bool) (x y z : Int), b = true → Ev (fun k => impl_HeapOk.j2 k (i : Int) l (l.length : Int) (i : Int) b l seq x y z) false := fun b x y z h => Ev.step (fun k => by rw [impl_HeapOk.j2]) (Ev.pos h (Ev.now _))
    have hg : ∀ (b : Bool), b = false → Ev (fun k => impl_HeapOk.j2 k (i : Int) l (l.length : Int) (i : Int) b l seq (due0 l i).f0 (due0 l i).f1 (due0 l i).f2) (innerD l (due0 l i).f1 (due0 l i).f2 i 0 && heapGo l seq d (i + 1)) := fun b h => by
      refine Ev.step (fun k => by rw [impl_HeapOk.j2]) ?_
      refine Ev.neg (by rw [h]; simp) (Ev.pos (by omega) (Ev.pos (by omega) (Ev.some' ?_)))
      rw [Int.toNat_natCast]
      exact iHeap_l1 l seq i _ _ _ (by omega) hl _ (ih (i + 1) (by omega)) i 0 (by omega)
    rw [heapGo]
    refine Ev.pos (by omega) (Ev.pos (by omega) (Ev.pos (by omega) (Ev.bind' _ (Ev.is fun _ => iTick _) ?_)))
    by_cases h1 : 0 ≤ (due0 l i).f0 ∧ (due0 l i).f0 ≤ 1000000000
    case neg => rw [if_neg (fun e => h1 e.1)]; exact Ev.neg (by simpa [due0] using h1) (hj _ _ _ _ rfl)
    refine Ev.pos (by simpa [due0] using h1) (Ev.bind' _ (Ev.is fun _ => iIn _ _ _) ?_)
    by_cases h2 : 1 ≤ (due0 l i).f1 ∧ (due0 l i).f1 ≤ seq
    case neg => rw [if_neg (fun e => h2 e.2.1)]; exact Ev.neg (by simpa [due0] using h2) (hj _ _ _ _ rfl)
    refine Ev.pos (by simpa [due0] using h2) (Ev.bind' _ (Ev.is fun _ => iId _) ?_)
    by_cases h3 : 1 ≤ (due0 l i).f2 ∧ (due0 l i).f2 ≤ 1000000000
    case neg => rw [if_neg (fun e => h3 e.2.2.1)]; exact Ev.neg (by simpa [due0] using h3) (hj _ _ _ _ rfl)
    refine Ev.pos (by simpa [due0] using h3) ?_
    by_cases h4 : 0 < i
    · refine Ev.pos (by omega) ?_
      rw [whalf i h4 (by omega)]
      refine Ev.pos (by omega) (Ev.pos (by omega) (Ev.bind' _ (iBefore_ev (due0 l i) (due0 l ((i - 1) / 2))) ?_))
      by_cases h5 : before (due0 l i) (due0 l ((i - 1) / 2)) = false
      · rw [if_pos ⟨h1, h2, h3, fun _ => h5⟩]; exact hg _ h5
      · rw [if_neg (fun e => h5 (e.2.2.2 h4))]; exact hj _ _ _ _ (by simpa using h5)
    · rw [if_pos ⟨h1, h2, h3, fun e => absurd e h4⟩]
      exact Ev.neg (by omega) (hg _ rfl)
theorem iHeap_ev (l : List S48) (seq : Int) : Ev (fun k => impl_HeapOk.f k l seq) (heapOk l seq) := by
  unfold impl_HeapOk.f heapOk
  have hj : ∀ (b : Bool), b = true → Ev (fun k => impl_HeapOk.j0 k b l seq) false := fun b h => Ev.step (fun k => by rw [impl_HeapOk.j0]) (Ev.pos h (Ev.now _))
  by_cases h1 : l.length ≤ 100
  · refine Ev.neg (by omega) (Ev.bind' _ (Ev.is fun _ => iTick seq) ?_)
    by_cases h2 : 0 ≤ seq ∧ seq ≤ 1000000000
    · have e : decide (l.length ≤ 100 ∧ (0 ≤ seq ∧ seq ≤ 1000000000)) = true := by simp [h1, h2]
      rw [e, Bool.true_and]
      refine Ev.step (fun k => by rw [impl_HeapOk.j0]) ?_
      exact Ev.neg (by simp [h2]) (iHeap_l0 l seq h1 l.length 0 (by omega))
    · have e : decide (l.length ≤ 100 ∧ (0 ≤ seq ∧ seq ≤ 1000000000)) = false := by simp [h2]
      rw [e, Bool.false_and]
      exact hj _ (by simp [h2])
  · have e : decide (l.length ≤ 100 ∧ (0 ≤ seq ∧ seq ≤ 1000000000)) = false := by simp [h1]
    rw [e, Bool.false_and]
    exact Ev.pos (by omega) (hj _ rfl)

theorem iFind_ev (l : List S48) (u v : Int) (hl : l.length ≤ 1048577) : Ev (fun k => impl_Heap_place.f k l u v) (findD v 0 l) := by
  have key : ∀ (d i : Nat), i + d = l.length → Ev (fun k => impl_Due.l0 k l v (l.length : Int) (i : Int)) (findD v i (l.drop i)) := by
    intro d
    induction d with
    | zero =>
      intro i hi
      obtain rfl : i = l.length := by omega
      refine Ev.step (fun k => by rw [impl_Due.l0]) ?_
      rw [List.drop_length, findD]
      exact Ev.neg (by omega) (Ev.now _)
    | succ d ih =>
      intro i hi
      refine Ev.step (fun k => by rw [impl_Due.l0]) ?_
      rw [List.drop_eq_getElem_cons (by omega), findD, rdD l i (by omega), wsucc i (by omega)]
      refine Ev.pos (by omega) (Ev.pos (by omega) (Ev.pos (by omega) (Ev.bind' _ (Ev.is fun _ => rfl) ?_)))
      by_cases h : (l[i]'(by omega)).f2 = v
      · rw [if_pos h]; exact Ev.pos (by simp [h]) (Ev.now _)
      · rw [if_neg h]; exact Ev.neg (by simp [h]) (ih (i + 1) (by omega))
  unfold impl_Heap_place.f
  refine Ev.bind' _ ?_ (Ev.now _)
  unfold impl_Due.f
  exact key l.length 0 (by omega)
theorem iDueOf_ev (l : List S48) (u v : Int) (hl : l.length ≤ 1048577) : Ev (fun k => impl_DueOf.f k l u v) (atOf l u v) := by
  unfold impl_DueOf.f atOf
  refine Ev.bind' _ (iFind_ev l u v hl) (Ev.bind' _ (iHeap_ev l u) (Ev.ite (fun _ => ?_) (fun _ => Ev.now _)))
  have hr := findD_range v l 0
  exact Ev.ite (fun _ => Ev.now _) (fun h => Ev.pos (by omega) (Ev.pos (by omega) (Ev.now _)))

def dueOf (x : S94) : S48 := ⟨x.f0, x.f1, x.f2⟩
def dues (l : List S94) : List S48 := l.map dueOf
theorem dues_length (l : List S94) : (dues l).length = l.length := by simp [dues]
theorem toDueS_ev (l : List S94) (hl : l.length ≤ 1048576) : Ev (fun k => laws_toDueS.f k l) (dues l) := by
  have key : ∀ (d k : Nat) (i : Nat) (acc : List S48), i ≤ l.length → l.length - i = d → d < k → acc.length = l.length → laws_toDueS.l0 k l acc (i : Int) = some (acc.take i ++ dues (l.drop i)) := by
    intro d
    induction d with
    | zero =>
      intro k i acc hi hd hk ha
      obtain ⟨k, rfl⟩ : ∃ m, k = m + 1 := ⟨k - 1, by omega⟩
      obtain rfl : i = l.length := by omega
      simp only [laws_toDueS.l0]
      rw [if_neg (by omega), List.drop_length, ← ha, List.take_length]
      simp [dues]
    | succ d ih =>
      intro k i acc hi hd hk ha
      obtain ⟨k, rfl⟩ : ∃ m, k = m + 1 := ⟨k - 1, by omega⟩
      have e : rd_T94 l (i : Int) = l[i]'(by omega) := by simp [rd_T94, show i < l.length by omega]
      simp only [laws_toDueS.l0, laws_toDue.f, Option.bind_some]
      rw [if_pos (by omega), if_pos (by omega), if_pos (by omega), wsucc i (by omega), e, Int.toNat_natCast, ih k (i + 1) _ (by omega) (by omega) (by omega) (by rw [List.length_set, ha])]
      congr 1
      rw [List.take_succ_eq_append_getElem (by rw [List.length_set]; omega), List.getElem_set_self, List.take_set_of_le (Nat.le_refl _), List.append_assoc, List.singleton_append, List.drop_eq_getElem_cons (show i < l.length by omega)]
      rfl
  refine ⟨l.length + 1, fun k hk => (?_ : laws_toDueS.f k l = some (dues l))⟩
  unfold laws_toDueS.f
  rw [if_pos (by omega), if_pos (by omega), Int.toNat_natCast]
  have := key l.length k 0 (List.replicate l.length z48) (by omega) (by omega) (by omega) (by simp)
  simpa using this
theorem szHeap (l : List S94) (u : Int) (hl : l.length ≤ 9223372036854775807) : laws_szHeap.f l u 1048576 = some (if l.length ≤ 1048576 then 1048576 - (l.length : Int) else -1) := by
  unfold laws_szHeap.f laws_szDueS.f
  rw [w64 (by omega) (by omega)]
  by_cases h : l.length ≤ 1048576
  · rw [if_neg (by omega), if_pos h, Option.bind_some, if_neg (by omega)]
  · rw [if_pos (by omega), if_neg h]
    rfl
theorem toHeap_ev (l : List S94) (u : Int) (hl : l.length ≤ 1048576) : Ev (fun k => laws_toHeap.f k l u) (dues l, u) := by
  unfold laws_toHeap.f
  exact Ev.bind' _ (toDueS_ev l hl) (Ev.now _)
theorem eqDue_same (a b c : Int) : laws_eqDue.f a b c a b c = some true := by simp [laws_eqDue.f]
theorem eqDueS_same (l : List S48) (hb : l.length ≤ 1048577) : Ev (fun k => laws_eqDueS.f k l l) true := by
  unfold laws_eqDueS.f
  refine Ev.pos rfl ?_
  have key : ∀ (d i : Nat), i + d = l.length → Ev (fun k => laws_eqDueS.l0 k l l (i : Int)) true := by
    intro d
    induction d with
    | zero =>
      intro i hi
      refine Ev.step (fun k => by rw [laws_eqDueS.l0]) ?_
      exact Ev.neg (by omega) (Ev.now _)
    | succ d ih =>
      intro i hi
      refine Ev.step (fun k => by rw [laws_eqDueS.l0]) ?_
      refine Ev.pos (by omega) (Ev.pos (by omega) (Ev.pos (by omega) (Ev.bind' true (Ev.is fun _ => eqDue_same _ _ _) (Ev.pos rfl ?_))))
      rw [wsucc i (by omega)]
      exact ih (i + 1) (by omega)
  exact key l.length 0 (by omega)
theorem eqHeap_ev (l : List S48) (u : Int) (hb : l.length ≤ 1048577) : Ev (fun k => laws_eqHeap.f k l u l u) true := by
  unfold laws_eqHeap.f
  exact Ev.bind' _ (eqDueS_same l hb) (Ev.pos rfl (Ev.pos rfl (Ev.now _)))

theorem FnExactDueOf : ∀ (l : List S94) (u v : Int), l.length ≤ 9223372036854775807 → (Lit.int .i64 u).wf = true → (Lit.int .i64 v).wf = true → ∃ k, laws_FnExactDueOf.f k l u v = some true := by
  intro l u v hm _ _
  refine Ev.rounds (r := true) ?_
  unfold laws_FnExactDueOf.f
  refine Ev.bind' _ (Ev.is fun _ => szHeap l u hm) ?_
  by_cases h : l.length ≤ 1048576
  case neg => rw [if_neg h]; exact Ev.pos (by omega) (Ev.now _)
  rw [if_pos h]
  have hs : (dues l).length ≤ 1048577 := by rw [dues_length]; omega
  refine Ev.neg (by omega) ?_
  refine Ev.bind' _ (toHeap_ev l u h) ?_
  refine Ev.bind' _ (sDueOf_ev (dues l) u v hs) ?_
  refine Ev.bind' _ (toHeap_ev l u h) ?_
  refine Ev.bind' _ (iDueOf_ev (dues l) u v hs) (Ev.pos rfl ?_)
  refine Ev.bind' _ (toHeap_ev l u h) ?_
  exact Ev.bind' _ (eqHeap_ev (dues l) u (by rw [dues_length]; omega)) (Ev.pos rfl (Ev.now _))

end Go.Proofs.Ytpckdemamlhpdaa.Pure
