/-
For every queue and number the program's RemoveAt and the reference's RemoveAt answer alike, in memory of their own, and the queue is left as it was (the printed law answers true). Its slots are any that a slice can hold.
-/
import Derived.Test.YtgpgkedbanmheaaMFnExactRemoveAtx10
namespace Go.Proofs.Ytgpgkedbanmheaa.Pure
open Go.RowKit Go.Proofs.Ytgpgkedbanmheaa.MFnExactRemoveAt Go.Proofs.YtgpgkedbanmheaaW.PrintWords Go.Proofs.YtgpgkedbanmheaaW.PrintLast Go.Proofs.YtgpgkedbanmheaaW.PrintMore 
set_option linter.unusedVariables false
set_option linter.unusedSimpArgs false

theorem w64 {n : Int} (h0 : -9223372036854775808 ≤ n) (h1 : n ≤ 9223372036854775807) : wrap64 n = n := by unfold wrap64; omega
theorem wsucc (i : Nat) (h : i < 9223372036854775807) : wrap64 ((i : Int) + 1) = ((i + 1 : Nat) : Int) := by rw [w64 (by omega) (by omega)]; omega
theorem rd_nat (xs : List Int) (i : Nat) (h : i < xs.length) : rd xs (i : Int) = xs[i] := by simp [rd, h]
theorem rdOf_nat {α : Type} (d : α) (xs : List α) (i : Nat) (h : i < xs.length) : rdOf d xs (i : Int) = xs[i] := by simp [rdOf, h]
theorem Ev.pos {α : Type} {c : Prop} [Decidable c] {A B : Nat → Option α} {r : α} (h : c) (e : Ev A r) : Ev (fun k => if c then A k else B k) r := Ev.congr (fun _ => if_pos h) e
theorem Ev.neg {α : Type} {c : Prop} [Decidable c] {A B : Nat → Option α} {r : α} (h : ¬ c) (e : Ev B r) : Ev (fun k => if c then A k else B k) r := Ev.congr (fun _ => if_neg h) e
theorem Ev.bind' {α β : Type} {g : Nat → Option α} {f : Nat → α → Option β} {r : β} (a : α) (h : Ev g a) (k : Ev (fun n => f n a) r) : Ev (fun n => (g n).bind (f n)) r := Ev.bind h k
theorem Ev.some' {α β : Type} {a : α} {f : Nat → α → Option β} {r : β} (k : Ev (fun n => f n a) r) : Ev (fun n => (Option.some a).bind (f n)) r := Ev.bind (Ev.now a) k
theorem Ev.is {α : Type} {g : Nat → Option α} {r : α} (h : ∀ k, g k = some r) : Ev g r := ⟨0, fun k _ => h k⟩
theorem Ev.at1 {α : Type} {g : Nat → Option α} {r : α} (h : ∀ k, g (k + 1) = some r) : Ev g r := ⟨1, fun k hk => by obtain ⟨m, rfl⟩ : ∃ m, k = m + 1 := ⟨k - 1, by omega⟩; exact h m⟩
theorem Ev.at2 {α : Type} {g : Nat → Option α} {r : α} (h : ∀ k, g (k + 2) = some r) : Ev g r := ⟨2, fun k hk => by obtain ⟨m, rfl⟩ : ∃ m, k = m + 2 := ⟨k - 2, by omega⟩; exact h m⟩
theorem Ev.at3 {α : Type} {g : Nat → Option α} {r : α} (h : ∀ k, g (k + 3) = some r) : Ev g r := ⟨3, fun k hk => by obtain ⟨m, rfl⟩ : ∃ m, k = m + 3 := ⟨k - 3, by omega⟩; exact h m⟩
/-- What a loop over a list comes to: a state, a step that goes on or answers, an end. -/
def runE {α σ ρ : Type} (step : Nat → σ → α → Except ρ σ) (fin : σ → ρ) : Nat → List α → σ → ρ
  | _, [], s => fin s
  | i, x :: xs, s => match step i s x with
    | .error r => r
    | .ok s' => runE step fin (i + 1) xs s'
/-- A loop over a list, round by round (from K rounds on). -/
theorem loop_run {α σ ρ : Type} (xs : List α) (L : Nat → σ → Int → Option ρ) (step : Nat → σ → α → Except ρ σ) (fin : σ → ρ) (K : Nat)
    (hs : ∀ k, K ≤ k → ∀ s (i : Nat) (h : i < xs.length), L (k + 1) s i = match step i s xs[i] with | .error r => some r | .ok s' => L k s' ((i + 1 : Nat) : Int))
    (he : ∀ k s, L (k + 1) s (xs.length : Int) = some (fin s)) :
    ∀ (d k : Nat) (s : σ) (i : Nat), i ≤ xs.length → xs.length - i = d → d + K < k → L k s (i : Int) = some (runE step fin i (xs.drop i) s) := by
  intro d
  induction d with
  | zero =>
    intro k s i hi hd hk
    obtain ⟨k, rfl⟩ : ∃ m, k = m + 1 := ⟨k - 1, by omega⟩
    obtain rfl : i = xs.length := by omega
    rw [he, List.drop_length, runE]
  | succ d ih =>
    intro k s i hi hd hk
    obtain ⟨k, rfl⟩ : ∃ m, k = m + 1 := ⟨k - 1, by omega⟩
    have hlt : i < xs.length := by omega
    rw [hs k (by omega) s i hlt, List.drop_eq_getElem_cons hlt, runE]
    cases step i s xs[i] with
    | error r => rfl
    | ok s' => exact ih k s' (i + 1) (by omega) (by omega) (by omega)
/-- The same, from the start. -/
theorem loop_ev {α σ ρ : Type} (xs : List α) (L : Nat → σ → Int → Option ρ) (step : Nat → σ → α → Except ρ σ) (fin : σ → ρ) (K : Nat)
    (hs : ∀ k, K ≤ k → ∀ s (i : Nat) (h : i < xs.length), L (k + 1) s i = match step i s xs[i] with | .error r => some r | .ok s' => L k s' ((i + 1 : Nat) : Int))
    (he : ∀ k s, L (k + 1) s (xs.length : Int) = some (fin s)) (s : σ) : Ev (fun k => L k s 0) (runE step fin 0 xs s) :=
  ⟨xs.length + K + 1, fun k hk => by have := loop_run xs L step fin K hs he xs.length k s 0 (by omega) (by omega) (by omega); simpa using this⟩
theorem wf_b {n : Int} (h : (Lit.int .i64 n).wf = true) : -9223372036854775808 ≤ n ∧ n ≤ 9223372036854775807 := by
  simp [Lit.wf, IntKind.min, IntKind.max, IntKind.signed, IntKind.bits] at h
  omega
theorem Ev.ite {α : Type} {c : Prop} [Decidable c] {A B : Nat → Option α} {a b : α} (h1 : c → Ev A a) (h2 : ¬ c → Ev B b) : Ev (fun k => if c then A k else B k) (if c then a else b) := by
  by_cases h : c
  · rw [if_pos h]; exact Ev.pos h (h1 h)
  · rw [if_neg h]; exact Ev.neg h (h2 h)

def sl (l : List S65) (a : Int) : S65 := rd_T65 l a
/-- The places that Next leads through from a place, as far as so many; none where it does not end. -/
def walk (l : List S65) : Nat → Int → Option (List Int)
  | 0, a => if a = -1 then some [] else none
  | d + 1, a => if a = -1 then some [] else if 0 ≤ a ∧ a < (l.length : Int) then (walk l d (sl l a).f2).map (fun u => a :: u) else none
def isPath (l : List S65) : Int → List Int → Prop
  | a, [] => a = -1
  | a, x :: xs => a = x ∧ (0 ≤ x ∧ x < (l.length : Int)) ∧ isPath l (sl l x).f2 xs
def chkU (l : List S65) : List Int → Int → List Int → Bool
  | [], _, _ => true
  | x :: xs, p, ids => if (sl l x).f3 = true ∧ (1 ≤ (sl l x).f0 ∧ (sl l x).f0 ≤ 1000000000) ∧ (sl l x).f1 = p ∧ (sl l x).f0 ∉ ids then chkU l xs x (ids ++ [(sl l x).f0]) else false
def chkF (l : List S65) : List Int → Bool
  | [] => true
  | x :: xs => if (sl l x).f3 = false ∧ (sl l x).f0 = 0 ∧ (sl l x).f1 = -1 then chkF l xs else false
def lastOf : Int → List Int → Int
  | p, [] => p
  | _, x :: xs => lastOf x xs
def queueOk (l : List S65) (f la fr c : Int) : Bool := if l.length = 60 then (match walk l 60 f, walk l 60 fr with
  | some u, some v => decide ((u.length : Int) = c ∧ u.length + v.length = 60) && (chkU l u (-1) [] && (chkF l v && decide (la = lastOf (-1) u)))
  | _, _ => false) else false
theorem walk_path (l : List S65) : ∀ (d : Nat) (a : Int) (u : List Int), walk l d a = some u → isPath l a u ∧ u.length ≤ d
  | 0, a, u, h => by
    rw [walk] at h
    split at h
    · cases h; exact ⟨by assumption, Nat.le_refl _⟩
    · cases h
  | d + 1, a, u, h => by
    rw [walk] at h
    split at h
    · cases h; exact ⟨by assumption, by simp⟩
    · split at h
      · rename_i hr
        rw [Option.map_eq_some_iff] at h
        obtain ⟨v, hv, rfl⟩ := h
        obtain ⟨hp, hl⟩ := walk_path l d _ v hv
        exact ⟨⟨rfl, hr, hp⟩, by simp; exact hl⟩
      · cases h
theorem path_walk (l : List S65) : ∀ (u : List Int) (d : Nat) (a : Int), isPath l a u → u.length ≤ d → walk l d a = some u
  | [], d, a, h, hd => by
    have : a = -1 := h
    cases d <;> simp [walk, this]
  | x :: xs, d, a, h, hd => by
    obtain ⟨rfl, hr, hp⟩ := h
    obtain ⟨d, rfl⟩ : ∃ e, d = e + 1 := ⟨d - 1, by simp at hd; omega⟩
    have hn : ¬ a = -1 := by omega
    rw [walk, if_neg hn, if_pos hr, path_walk l xs d _ hp (by simp at hd; omega)]
    rfl
theorem path_unique (l : List S65) : ∀ (u v : List Int) (a : Int), isPath l a u → isPath l a v → u = v
  | [], [], _, _, _ => rfl
  | [], y :: ys, a, h, h' => by
    have h1 : a = -1 := h
    obtain ⟨h2, h3, _⟩ := h'
    omega
  | x :: xs, [], a, h, h' => by
    have h1 : a = -1 := h'
    obtain ⟨h2, h3, _⟩ := h
    omega
  | x :: xs, y :: ys, a, h, h' => by
    obtain ⟨h2, _, h4⟩ := h
    obtain ⟨h5, _, h7⟩ := h'
    have : x = y := by rw [← h2, ← h5]
    subst this
    rw [path_unique l xs ys _ h4 h7]
theorem path_suffix (l : List S65) : ∀ (u v : List Int) (x a : Int), isPath l a (u ++ x :: v) → isPath l x (x :: v)
  | [], v, x, a, h => by
    obtain ⟨h1, h2, h3⟩ := h
    exact ⟨rfl, h2, h3⟩
  | y :: u, v, x, a, h => path_suffix l u v x _ h.2.2
theorem path_range (l : List S65) : ∀ (u : List Int) (a : Int), isPath l a u → ∀ x ∈ u, 0 ≤ x ∧ x < (l.length : Int)
  | [], _, _, x, hx => by simp at hx
  | y :: u, a, h, x, hx => by
    rcases List.mem_cons.1 hx with rfl | hx
    · exact h.2.1
    · exact path_range l u _ h.2.2 x hx
theorem path_nodup (l : List S65) : ∀ (u : List Int) (a : Int), isPath l a u → u.Nodup
  | [], _, _ => List.nodup_nil
  | x :: u, a, h => by
    rw [List.nodup_cons]
    refine ⟨fun hx => ?_, path_nodup l u _ h.2.2⟩
    obtain ⟨p, q, rfl⟩ := List.append_of_mem hx
    have h1 : isPath l x (x :: (p ++ x :: q)) := by
      obtain ⟨h2, h3, h4⟩ := h
      exact ⟨rfl, h3, h4⟩
    have h2 := path_suffix l (x :: p) q x x h1
    have := congrArg List.length (path_unique l _ _ x h1 h2)
    simp at this
    omega
/-- Numbers that differ, each from 0 up to n - 1: there are n of them at most, and n of them are all. -/
theorem pigeon : ∀ (n : Nat) (u : List Int), u.Nodup → (∀ x ∈ u, 0 ≤ x ∧ x < (n : Int)) → u.length ≤ n ∧ (u.length = n → ∀ x : Int, 0 ≤ x → x < (n : Int) → x ∈ u)
  | 0, u, _, hr => by
    have : u = [] := by
      cases u with
      | nil => rfl
      | cons x xs => have := hr x (by simp); omega
    subst this
    exact ⟨by simp, fun _ x h0 h1 => by omega⟩
  | n + 1, u, hd, hr => by
    by_cases hm : (n : Int) ∈ u
    · have h1 := pigeon n (u.erase (n : Int)) (hd.erase _) (fun x hx => by
        have h2 := hr x (List.mem_of_mem_erase hx)
        have h3 : x ≠ (n : Int) := fun e => by subst e; exact (List.Nodup.not_mem_erase hd) hx
        omega)
      rw [List.length_erase_of_mem hm] at h1
      have hp : 0 < u.length := List.length_pos_of_mem hm
      refine ⟨by omega, fun hl x h0 hx => ?_⟩
      by_cases e : x = (n : Int)
      · rw [e]; exact hm
      · exact List.mem_of_mem_erase (h1.2 (by omega) x h0 (by omega))
    · have h1 := pigeon n u hd (fun x hx => by
        have h2 := hr x hx
        have h3 : x ≠ (n : Int) := fun e => hm (e ▸ hx)
        omega)
      refine ⟨by omega, fun hl => ?_⟩
      omega
theorem path_len (l : List S65) (u : List Int) (a : Int) (h : isPath l a u) : u.length ≤ l.length :=
  (pigeon l.length u (path_nodup l u a h) (path_range l u a h)).1
theorem chkU_used (l : List S65) : ∀ (u : List Int) (p : Int) (ids : List Int), chkU l u p ids = true → ∀ x ∈ u, (sl l x).f3 = true
  | [], _, _, _, x, hx => by simp at hx
  | y :: u, p, ids, h, x, hx => by
    rw [chkU] at h
    split at h
    · rename_i hc
      rcases List.mem_cons.1 hx with rfl | hx
      · exact hc.1
      · exact chkU_used l u _ _ h x hx
    · cases h
theorem chkF_free (l : List S65) : ∀ (u : List Int), chkF l u = true → ∀ x ∈ u, (sl l x).f3 = false ∧ (sl l x).f0 = 0 ∧ (sl l x).f1 = -1
  | [], _, x, hx => by simp at hx
  | y :: u, h, x, hx => by
    rw [chkF] at h
    split at h
    · rename_i hc
      rcases List.mem_cons.1 hx with rfl | hx
      · exact hc
      · exact chkF_free l u h x hx
    · cases h
theorem queueOk_iff (l : List S65) (f la fr c : Int) : queueOk l f la fr c = true ↔ l.length = 60 ∧ ∃ u v, isPath l f u ∧ isPath l fr v ∧ (u.length : Int) = c ∧ u.length + v.length = 60 ∧ chkU l u (-1) [] = true ∧ chkF l v = true ∧ la = lastOf (-1) u := by
  unfold queueOk
  constructor
  · intro h
    split at h
    · rename_i hl
      refine ⟨hl, ?_⟩
      split at h
      · rename_i u v hu hv
        simp only [Bool.and_eq_true, decide_eq_true_eq] at h
        obtain ⟨⟨h1, h2⟩, h3, h4, h5⟩ := h
        exact ⟨u, v, (walk_path l _ _ u hu).1, (walk_path l _ _ v hv).1, h1, h2, h3, h4, h5⟩
      · cases h
    · cases h
  · rintro ⟨hl, u, v, hu, hv, h1, h2, h3, h4, h5⟩
    have e1 := path_len l u _ hu
    have e2 := path_len l v _ hv
    rw [if_pos hl, path_walk l u 60 f hu (by omega), path_walk l v 60 fr hv (by omega)]
    simp [h1, h2, h3, h4, h5]

theorem sIn (a b c : Int) : spec_l01In.f a b c = some (decide (b ≤ a ∧ a ≤ c)) := by
  unfold spec_l01In.f; by_cases h : b ≤ a <;> simp [h]

/-- The reference's second walk: over the free places, behind those that have been seen. -/
def specF (l : List S65) : Nat → List Int → Int → Bool
  | 0, vis, a => if a = -1 then decide (vis.length = 60) else false
  | d + 1, vis, a => if a = -1 then decide (vis.length = 60) else if (0 ≤ a ∧ a ≤ 59) ∧ a ∉ vis ∧ (sl l a).f3 = false ∧ (sl l a).f0 = 0 ∧ (sl l a).f1 = -1 then specF l d (vis ++ [a]) (sl l a).f2 else false
def specU (l : List S65) (la fr c : Int) : Nat → List Int → Int → Int → Bool
  | 0, vis, a, ahead => if a = -1 then (if (vis.length : Int) = c ∧ la = ahead then specF l (60 - vis.length) vis fr else false) else false
  | d + 1, vis, a, ahead => if a = -1 then (if (vis.length : Int) = c ∧ la = ahead then specF l (60 - vis.length) vis fr else false) else if (0 ≤ a ∧ a ≤ 59) ∧ a ∉ vis ∧ (sl l a).f3 = true ∧ (sl l a).f1 = ahead ∧ (1 ≤ (sl l a).f0 ∧ (sl l a).f0 ≤ 1000000000) ∧ (sl l a).f0 ∉ vis.map (fun x => (sl l x).f0) then specU l la fr c d (vis ++ [a]) (sl l a).f2 a else false
/-- What the reference keeps of the places that it has seen. -/
def SeenIs (vis : List Int) (seen : List Bool) : Prop := seen.length = 60 ∧ ∀ i : Nat, i < 60 → seen.getD i false = decide ((i : Int) ∈ vis)
theorem none_seen (n i : Nat) : (List.replicate n false).getD i false = false := by
  rw [List.getD_eq_getElem?_getD, List.getElem?_replicate]
  split <;> rfl
theorem SeenIs.at_ {vis : List Int} {seen : List Bool} (h : SeenIs vis seen) (a : Int) (h0 : 0 ≤ a) (h1 : a ≤ 59) : rdOf false seen a = decide (a ∈ vis) := by
  have := h.2 a.toNat (by omega)
  rw [Int.toNat_of_nonneg h0] at this
  exact this
theorem SeenIs.add {vis : List Int} {seen : List Bool} (h : SeenIs vis seen) (a : Int) (h0 : 0 ≤ a) (h1 : a ≤ 59) : SeenIs (vis ++ [a]) (seen.set a.toNat true) := by
  refine ⟨by rw [List.length_set]; exact h.1, fun i hi => ?_⟩
  rw [List.getD_eq_getElem?_getD, List.getElem?_set]
  by_cases e : a.toNat = i
  · have hl := h.1
    have e2 : (i : Int) = a := by omega
    rw [if_pos e, if_pos (by omega), e2]
    simp
  · have e2 : (i : Int) ≠ a := by omega
    rw [if_neg e, ← List.getD_eq_getElem?_getD, h.2 i hi]
    simp [e2]
theorem sHas_ev (ids : List Int) (v : Int) (hl : ids.length ≤ 1000) : Ev (fun k => spec_l01Has.f k ids v) (decide (v ∈ ids)) := by
  have key : ∀ (d i : Nat), i + d = ids.length → Ev (fun k => spec_l01Has.l0 k ids v (i : Int)) (decide (v ∈ ids.drop i)) := by
    intro d
    induction d with
    | zero =>
      intro i hi
      obtain rfl : i = ids.length := by omega
      rw [List.drop_length]
      refine Ev.step (fun k => by rw [spec_l01Has.l0]) ?_
      exact Ev.neg (by omega) (Ev.is fun _ => by simp)
    | succ d ih =>
      intro i hi
      refine Ev.step (fun k => by rw [spec_l01Has.l0]) ?_
      rw [List.drop_eq_getElem_cons (by omega), rd_nat ids i (by omega), wsucc i (by omega)]
      refine Ev.pos (by omega) (Ev.pos (by omega) ?_)
      by_cases h : ids[i] = v
      · exact Ev.pos h (Ev.is fun _ => by simp [h])
      · refine Ev.neg h ?_
        have e : decide (v ∈ ids[i] :: ids.drop (i + 1)) = decide (v ∈ ids.drop (i + 1)) := decide_eq_decide.2 ⟨fun z => (List.mem_cons.1 z).resolve_left (fun y => h y.symm), fun z => List.mem_cons.2 (.inr z)⟩
        rw [e]
        exact ih (i + 1) (by omega)
  unfold spec_l01Has.f
  exact key ids.length 0 (by omega)
theorem vis_le (vis : List Int) (hd : vis.Nodup) (hr : ∀ x ∈ vis, 0 ≤ x ∧ x ≤ 59) : vis.length ≤ 60 :=
  (pigeon 60 vis hd (fun x hx => by have := hr x hx; omega)).1
theorem vis_add (vis : List Int) (a : Int) (hd : vis.Nodup) (hr : ∀ x ∈ vis, 0 ≤ x ∧ x ≤ 59) (h : 0 ≤ a ∧ a ≤ 59) (hn : a ∉ vis) : (vis ++ [a]).Nodup ∧ ∀ x ∈ vis ++ [a], 0 ≤ x ∧ x ≤ 59 := by
  refine ⟨?_, fun x hx => ?_⟩
  · rw [List.nodup_append]
    refine ⟨hd, by simp, fun x hx y hy => ?_⟩
    simp at hy
    rintro rfl
    exact hn (hy ▸ hx)
  · rcases List.mem_append.1 hx with hx | hx
    · exact hr x hx
    · simp at hx; rw [hx]; exact h
theorem sQueue_l1 (l : List S65) (f la fr c : Int) (hl : l.length = 60) : ∀ (d : Nat) (vis : List Int) (seen : List Bool) (a : Int), vis.length + d = 60 → vis.Nodup → (∀ x ∈ vis, 0 ≤ x ∧ x ≤ 59) → SeenIs vis seen → Ev (fun k => spec_QueueOk.l1 k seen (vis.length : Int) a l f la fr c) (specF l d vis a) := by
  intro d
  induction d with
  | zero =>
    intro vis seen a hv hn hr hs
    refine Ev.step (fun k => by rw [spec_QueueOk.l1]) ?_
    rw [specF]
    by_cases h1 : a = -1
    · rw [if_pos h1]
      exact Ev.pos h1 (Ev.is fun _ => by congr 1; have : vis.length = 60 := by omega
                                         simp [this])
    · rw [if_neg h1]
      refine Ev.neg h1 (Ev.bind' _ (Ev.is fun _ => sIn a 0 59) ?_)
      have hj : ∀ (b : Bool), b = true → Ev (fun k => spec_QueueOk.j5 k seen (vis.length : Int) a b l f la fr c) false := fun b h => Ev.step (fun k => by rw [spec_QueueOk.j5]) (Ev.pos h (Ev.now _))
      by_cases h2 : 0 ≤ a ∧ a ≤ 59
      · have hm := (pigeon 60 vis hn (fun x hx => by have := hr x hx; omega)).2 (by omega) a h2.1 (by omega)
        have hsl := hs.1
        exact Ev.pos (by simpa using h2) (Ev.pos h2.1 (Ev.pos (by omega) (hj _ (by rw [hs.at_ a h2.1 h2.2]; simpa using hm))))
      · exact Ev.neg (by simpa using h2) (hj _ rfl)
  | succ d ih =>
    intro vis seen a hv hn hr hs
    refine Ev.step (fun k => by rw [spec_QueueOk.l1]) ?_
    rw [specF]
    by_cases h1 : a = -1
    · rw [if_pos h1]
      refine Ev.pos h1 (Ev.is fun _ => ?_)
      have e1 : ¬ vis.length = 60 := by omega
      have e2 : ¬ (vis.length : Int) = 60 := by omega
      simp [e1, e2]
    · rw [if_neg h1]
      refine Ev.neg h1 (Ev.bind' _ (Ev.is fun _ => sIn a 0 59) ?_)
      have hj : ∀ (b : Bool), b = true → Ev (fun k => spec_QueueOk.j5 k seen (vis.length : Int) a b l f la fr c) false := fun b h => Ev.step (fun k => by rw [spec_QueueOk.j5]) (Ev.pos h (Ev.now _))
      by_cases h2 : 0 ≤ a ∧ a ≤ 59
      case neg => rw [if_neg (fun e => h2 e.1)]; exact Ev.neg (by simpa using h2) (hj _ rfl)
      have hsl := hs.1
      refine Ev.pos (by simpa using h2) (Ev.pos h2.1 (Ev.pos (by omega) ?_))
      rw [hs.at_ a h2.1 h2.2]
      by_cases h3 : a ∈ vis
      case pos => rw [if_neg (fun e => e.2.1 h3)]; exact hj _ (by simpa using h3)
      refine Ev.step (fun k => by rw [spec_QueueOk.j5]) (Ev.neg (by simpa using h3) (Ev.pos h2.1 (Ev.pos (by omega) ?_)))
      by_cases h4 : (sl l a).f3 = true
      case pos => rw [if_neg (fun e => by rw [h4] at e; exact absurd e.2.2.1 (by simp))]; exact Ev.pos h4 (Ev.now _)
      refine Ev.neg h4 ?_
      by_cases h5 : (sl l a).f0 = 0
      case neg => rw [if_neg (fun e => h5 e.2.2.2.1)]; exact Ev.neg h5 (Ev.now _)
      refine Ev.pos h5 ?_
      by_cases h6 : (sl l a).f1 = -1
      case neg => rw [if_neg (fun e => h6 e.2.2.2.2)]; exact Ev.neg h6 (Ev.now _)
      rw [if_pos ⟨h2, h3, by simpa using h4, h5, h6⟩, wsucc vis.length (by omega)]
      obtain ⟨g1, g2⟩ := vis_add vis a hn hr h2 h3
      have := ih (vis ++ [a]) (seen.set a.toNat true) (sl l a).f2 (by simp; omega) g1 g2 (hs.add a h2.1 h2.2)
      rw [List.length_append, List.length_singleton] at this
      exact Ev.pos h6 (Ev.pos (by omega) this)
theorem sQueue_l0 (l : List S65) (f la fr c : Int) (hl : l.length = 60) : ∀ (d : Nat) (vis : List Int) (seen : List Bool) (a ahead : Int), vis.length + d = 60 → vis.Nodup → (∀ x ∈ vis, 0 ≤ x ∧ x ≤ 59) → SeenIs vis seen → Ev (fun k => spec_QueueOk.l0 k seen (vis.map (fun x => (sl l x).f0)) (vis.length : Int) ahead a l f la fr c) (specU l la fr c d vis a ahead) := by
  intro d
  induction d with
  | zero =>
    intro vis seen a ahead hv hn hr hs
    refine Ev.step (fun k => by rw [spec_QueueOk.l0]) ?_
    rw [specU]
    have hend : a = -1 → Ev (fun k => if (vis.length : Int) = c then (spec_QueueOk.j3 k seen (vis.length : Int) (la != ahead) l f la fr c) else (spec_QueueOk.j3 k seen (vis.length : Int) true l f la fr c)) (if (vis.length : Int) = c ∧ la = ahead then specF l (60 - vis.length) vis fr else false) := by
      intro _
      have hj : ∀ (b : Bool), b = true → Ev (fun k => spec_QueueOk.j3 k seen (vis.length : Int) b l f la fr c) false := fun b h => Ev.step (fun k => by rw [spec_QueueOk.j3]) (Ev.pos h (Ev.now _))
      by_cases h2 : (vis.length : Int) = c
      · refine Ev.pos h2 ?_
        by_cases h3 : la = ahead
        · rw [if_pos ⟨h2, h3⟩]
          exact Ev.step (fun k => by rw [spec_QueueOk.j3]) (Ev.neg (by simp [h3]) (sQueue_l1 l f la fr c hl _ vis seen fr (by omega) hn hr hs))
        · rw [if_neg (fun e => h3 e.2)]
          exact hj _ (by simp [h3])
      · rw [if_neg (fun e => h2 e.1)]
        exact Ev.neg h2 (hj _ rfl)
    by_cases h1 : a = -1
    · rw [if_pos h1]
      exact Ev.pos h1 (hend h1)
    · rw [if_neg h1]
      refine Ev.neg h1 (Ev.bind' _ (Ev.is fun _ => sIn a 0 59) ?_)
      have hj : ∀ (b : Bool), b = true → Ev (fun k => spec_QueueOk.j2 k seen (vis.map (fun x => (sl l x).f0)) (vis.length : Int) ahead a b l f la fr c) false := fun b h => Ev.step (fun k => by rw [spec_QueueOk.j2]) (Ev.pos h (Ev.now _))
      by_cases h2 : 0 ≤ a ∧ a ≤ 59
      · have hm := (pigeon 60 vis hn (fun x hx => by have := hr x hx; omega)).2 (by omega) a h2.1 (by omega)
        have hsl := hs.1
        exact Ev.pos (by simpa using h2) (Ev.pos h2.1 (Ev.pos (by omega) (hj _ (by rw [hs.at_ a h2.1 h2.2]; simpa using hm))))
      · exact Ev.neg (by simpa using h2) (hj _ rfl)
  | succ d ih =>
    intro vis seen a ahead hv hn hr hs
    refine Ev.step (fun k => by rw [spec_QueueOk.l0]) ?_
    rw [specU]
    by_cases h1 : a = -1
    · rw [if_pos h1]
      refine Ev.pos h1 ?_
      have hj : ∀ (b : Bool), b = true → Ev (fun k => spec_QueueOk.j3 k seen (vis.length : Int) b l f la fr c) false := fun b h => Ev.step (fun k => by rw [spec_QueueOk.j3]) (Ev.pos h (Ev.now _))
      by_cases h2 : (vis.length : Int) = c
      · refine Ev.pos h2 ?_
        by_cases h3 : la = ahead
        · rw [if_pos ⟨h2, h3⟩]
          exact Ev.step (fun k => by rw [spec_QueueOk.j3]) (Ev.neg (by simp [h3]) (sQueue_l1 l f la fr c hl _ vis seen fr (by omega) hn hr hs))
        · rw [if_neg (fun e => h3 e.2)]
          exact hj _ (by simp [h3])
      · rw [if_neg (fun e => h2 e.1)]
        exact Ev.neg h2 (hj _ rfl)
    · rw [if_neg h1]
      refine Ev.neg h1 (Ev.bind' _ (Ev.is fun _ => sIn a 0 59) ?_)
      have hj : ∀ (b : Bool), b = true → Ev (fun k => spec_QueueOk.j2 k seen (vis.map (fun x => (sl l x).f0)) (vis.length : Int) ahead a b l f la fr c) false := fun b h => Ev.step (fun k => by rw [spec_QueueOk.j2]) (Ev.pos h (Ev.now _))
      by_cases h2 : 0 ≤ a ∧ a ≤ 59
      case neg => rw [if_neg (fun e => h2 e.1)]; exact Ev.neg (by simpa using h2) (hj _ rfl)
      have hsl := hs.1
      refine Ev.pos (by simpa using h2) (Ev.pos h2.1 (Ev.pos (by omega) ?_))
      rw [hs.at_ a h2.1 h2.2]
      by_cases h3 : a ∈ vis
      case pos => rw [if_neg (fun e => e.2.1 h3)]; exact hj _ (by simpa using h3)
      refine Ev.step (fun k => by rw [spec_QueueOk.j2]) (Ev.neg (by simpa using h3) (Ev.pos h2.1 (Ev.pos (by omega) ?_)))
      by_cases h4 : (sl l a).f3 = true
      case neg => rw [if_neg (fun e => h4 e.2.2.1)]; exact Ev.neg h4 (Ev.now _)
      refine Ev.pos h4 ?_
      by_cases h5 : (sl l a).f1 = ahead
      case neg => rw [if_neg (fun e => h5 e.2.2.2.1)]; exact Ev.neg h5 (Ev.now _)
      refine Ev.pos h5 (Ev.bind' _ (Ev.is fun _ => sIn _ _ _) ?_)
      by_cases h6 : 1 ≤ (sl l a).f0 ∧ (sl l a).f0 ≤ 1000000000
      case neg => rw [if_neg (fun e => h6 e.2.2.2.2.1)]; exact Ev.neg (by simpa [sl] using h6) (Ev.now _)
      refine Ev.pos (by simpa [sl] using h6) (Ev.bind' _ (sHas_ev _ _ (by rw [List.length_map]; omega)) ?_)
      by_cases h7 : (sl l a).f0 ∈ vis.map (fun x => (sl l x).f0)
      case pos => rw [if_neg (fun e => e.2.2.2.2.2 h7)]; exact Ev.pos (by simpa [sl] using h7) (Ev.now _)
      rw [if_pos ⟨h2, h3, h4, h5, h6, h7⟩, wsucc vis.length (by omega)]
      obtain ⟨g1, g2⟩ := vis_add vis a hn hr h2 h3
      have := ih (vis ++ [a]) (seen.set a.toNat true) (sl l a).f2 a (by simp; omega) g1 g2 (hs.add a h2.1 h2.2)
      rw [List.length_append, List.length_singleton, List.map_append] at this
      exact Ev.neg (by simpa [sl] using h7) (Ev.pos (by omega) (Ev.pos (by rw [List.length_map]; omega) this))
/-- The second walk answers true: then there is a way over the places that are left. -/
theorem specF_way (l : List S65) (hl : l.length = 60) : ∀ (d : Nat) (vis : List Int) (a : Int), vis.Nodup → specF l d vis a = true → ∃ v, isPath l a v ∧ (vis ++ v).Nodup ∧ vis.length + v.length = 60 ∧ chkF l v = true := by
  intro d
  induction d with
  | zero =>
    intro vis a hn h
    rw [specF] at h
    split at h
    · rename_i ha
      exact ⟨[], ha, by simpa using hn, by simpa using h, rfl⟩
    · cases h
  | succ d ih =>
    intro vis a hn h
    rw [specF] at h
    split at h
    · rename_i ha
      exact ⟨[], ha, by simpa using hn, by simpa using h, rfl⟩
    · split at h
      · rename_i hc
        obtain ⟨h2, h3, h4, h5, h6⟩ := hc
        have hn2 : (vis ++ [a]).Nodup := by
          rw [List.nodup_append]
          refine ⟨hn, by simp, fun x hx y hy => ?_⟩
          simp at hy
          rintro rfl
          exact h3 (hy ▸ hx)
        obtain ⟨v, g1, g2, g3, g4⟩ := ih (vis ++ [a]) _ hn2 h
        refine ⟨a :: v, ⟨rfl, ⟨h2.1, by omega⟩, g1⟩, by simpa using g2, by simp at g3 ⊢; omega, ?_⟩
        rw [chkF, if_pos ⟨h4, h5, h6⟩]
        exact g4
      · cases h
theorem specF_true (l : List S65) (hl : l.length = 60) : ∀ (v : List Int) (d : Nat) (vis : List Int) (a : Int), vis.length + d = 60 → isPath l a v → (vis ++ v).Nodup → vis.length + v.length = 60 → chkF l v = true → specF l d vis a = true
  | [], d, vis, a, hd, hp, hn, hv, hc => by
    have ha : a = -1 := hp
    have : vis.length = 60 := by simpa using hv
    cases d <;> simp [specF, ha, this]
  | x :: xs, d, vis, a, hd, hp, hn, hv, hc => by
    obtain ⟨rfl, hr, hp⟩ := hp
    obtain ⟨d, rfl⟩ : ∃ e, d = e + 1 := ⟨d - 1, by simp at hv; omega⟩
    rw [chkF] at hc
    split at hc
    · rename_i hf
      have hnx : a ∉ vis := fun hm => by
        rw [List.nodup_append] at hn
        exact hn.2.2 a hm a (by simp) rfl
      rw [specF, if_neg (by omega), if_pos ⟨⟨hr.1, by omega⟩, hnx, hf.1, hf.2.1, hf.2.2⟩]
      exact specF_true l hl xs d (vis ++ [a]) _ (by simp; omega) hp (by simpa using hn) (by simp at hv ⊢; omega) hc
    · cases hc
theorem specU_way (l : List S65) (la fr c : Int) (hl : l.length = 60) : ∀ (d : Nat) (vis : List Int) (a ahead : Int), vis.Nodup → specU l la fr c d vis a ahead = true → ∃ u v, isPath l a u ∧ ((vis ++ u).length : Int) = c ∧ la = lastOf ahead u ∧ chkU l u ahead (vis.map (fun x => (sl l x).f0)) = true ∧ isPath l fr v ∧ (vis ++ u).length + v.length = 60 ∧ chkF l v = true := by
  intro d
  induction d with
  | zero =>
    intro vis a ahead hn h
    rw [specU] at h
    split at h
    · rename_i ha
      split at h
      · rename_i hc
        obtain ⟨v, g1, g2, g3, g4⟩ := specF_way l hl _ vis fr hn h
        exact ⟨[], v, ha, by simpa using hc.1, hc.2, rfl, g1, by simpa using g3, g4⟩
      · cases h
    · cases h
  | succ d ih =>
    intro vis a ahead hn h
    rw [specU] at h
    split at h
    · rename_i ha
      split at h
      · rename_i hc
        obtain ⟨v, g1, g2, g3, g4⟩ := specF_way l hl _ vis fr hn h
        exact ⟨[], v, ha, by simpa using hc.1, hc.2, rfl, g1, by simpa using g3, g4⟩
      · cases h
    · split at h
      · rename_i hc
        obtain ⟨h2, h3, h4, h5, h6, h7⟩ := hc
        have hn2 : (vis ++ [a]).Nodup := by
          rw [List.nodup_append]
          refine ⟨hn, by simp, fun x hx y hy => ?_⟩
          simp at hy
          rintro rfl
          exact h3 (hy ▸ hx)
        obtain ⟨u, v, g1, g2, g3, g4, g5, g6, g7⟩ := ih (vis ++ [a]) _ _ hn2 h
        refine ⟨a :: u, v, ⟨rfl, ⟨h2.1, by omega⟩, g1⟩, by simpa using g2, by rw [lastOf]; exact g3, ?_, g5, by simpa using g6, g7⟩
        rw [chkU, if_pos ⟨h4, h6, h5, h7⟩]
        simpa using g4
      · cases h
theorem specU_true (l : List S65) (la fr c : Int) (hl : l.length = 60) (v : List Int) (hv : isPath l fr v) (hcv : chkF l v = true) : ∀ (u : List Int) (d : Nat) (vis : List Int) (a ahead : Int), vis.length + d = 60 → isPath l a u → (vis ++ u ++ v).Nodup → ((vis ++ u).length : Int) = c → la = lastOf ahead u → chkU l u ahead (vis.map (fun x => (sl l x).f0)) = true → (vis ++ u).length + v.length = 60 → specU l la fr c d vis a ahead = true
  | [], d, vis, a, ahead, hd, hp, hn, h1, h2, h3, h4 => by
    have ha : a = -1 := hp
    have h5 := specF_true l hl v (60 - vis.length) vis fr (by omega) hv (by simpa using hn) (by simpa using h4) hcv
    have h6 : (vis.length : Int) = c := by simpa using h1
    have h7 : la = ahead := h2
    cases d <;> simp [specU, ha, h6, h7, h5]
  | x :: xs, d, vis, a, ahead, hd, hp, hn, h1, h2, h3, h4 => by
    obtain ⟨rfl, hr, hp⟩ := hp
    obtain ⟨d, rfl⟩ : ∃ e, d = e + 1 := ⟨d - 1, by simp at h4; omega⟩
    rw [chkU] at h3
    split at h3
    · rename_i hf
      have hnx : a ∉ vis := fun hm => by
        rw [List.append_assoc, List.nodup_append] at hn
        exact hn.2.2 a hm a (by simp) rfl
      rw [specU, if_neg (by omega), if_pos ⟨⟨hr.1, by omega⟩, hnx, hf.1, hf.2.2.1, hf.2.1, hf.2.2.2⟩]
      exact specU_true l la fr c hl v hv hcv xs d (vis ++ [a]) _ _ (by simp; omega) hp (by simpa using hn) (by simpa using h1) (by rw [lastOf] at h2; exact h2) (by simpa using h3) (by simpa using h4)
    · cases h3
theorem used_free_nodup (l : List S65) (f fr : Int) (u v : List Int) (hu : isPath l f u) (hv : isPath l fr v) (h1 : chkU l u (-1) [] = true) (h2 : chkF l v = true) : (u ++ v).Nodup := by
  rw [List.nodup_append]
  refine ⟨path_nodup l u f hu, path_nodup l v fr hv, fun x hx y hy e => ?_⟩
  subst e
  have a := chkU_used l u _ _ h1 x hx
  have b := (chkF_free l v h2 x hy).1
  rw [a] at b
  cases b
theorem specU_queueOk (l : List S65) (f la fr c : Int) (hl : l.length = 60) (hc : 0 ≤ c ∧ c ≤ 60) : specU l la fr c 60 [] f (-1) = queueOk l f la fr c := by
  rw [Bool.eq_iff_iff, queueOk_iff]
  constructor
  · intro h
    obtain ⟨u, v, g1, g2, g3, g4, g5, g6, g7⟩ := specU_way l la fr c hl 60 [] f (-1) List.nodup_nil h
    exact ⟨hl, u, v, g1, g5, by simpa using g2, by simpa using g6, by simpa using g4, g7, g3⟩
  · rintro ⟨_, u, v, g1, g5, g2, g6, g4, g7, g3⟩
    exact specU_true l la fr c hl v g5 g7 u 60 [] f (-1) rfl g1 (by simpa using used_free_nodup l f fr u v g1 g5 g4 g7) (by simpa using g2) g3 (by simpa using g4) (by simpa using g6)
theorem sQueue_ev (l : List S65) (f la fr c : Int) : Ev (fun k => spec_QueueOk.f k l f la fr c) (queueOk l f la fr c) := by
  unfold spec_QueueOk.f
  have hj : ∀ (b : Bool), b = true → Ev (fun k => spec_QueueOk.j0 k b l f la fr c) false := fun b h => Ev.step (fun k => by rw [spec_QueueOk.j0]) (Ev.pos h (Ev.now _))
  by_cases hl : l.length = 60
  case neg =>
    have e : queueOk l f la fr c = false := by unfold queueOk; rw [if_neg hl]
    rw [e]
    exact Ev.neg (by omega) (hj _ rfl)
  refine Ev.pos (by omega) (Ev.bind' _ (Ev.is fun _ => sIn c 0 60) ?_)
  by_cases hc : 0 ≤ c ∧ c ≤ 60
  case neg =>
    have e : queueOk l f la fr c = false := by
      cases hq : queueOk l f la fr c with
      | false => rfl
      | true =>
        obtain ⟨_, u, v, _, _, g2, g6, _⟩ := (queueOk_iff l f la fr c).1 hq
        omega
    rw [e]
    exact hj _ (by simp [hc])
  rw [← specU_queueOk l f la fr c hl hc]
  refine Ev.step (fun k => by rw [spec_QueueOk.j0]) ?_
  refine Ev.neg (by simp [hc]) (Ev.pos (by omega) ?_)
  exact sQueue_l0 l f la fr c hl 60 [] (List.replicate 60 false) f (-1) rfl List.nodup_nil (by simp) ⟨List.length_replicate, fun i _ => by rw [none_seen]; simp⟩

/-- In a valid queue each used place lies on the way from the first one. -/
theorem used_in (l : List S65) (f fr : Int) (u v : List Int) (hl : l.length = 60) (hu : isPath l f u) (hv : isPath l fr v) (h1 : chkU l u (-1) [] = true) (h2 : chkF l v = true) (h3 : u.length + v.length = 60) (x : Int) (h0 : 0 ≤ x) (hx : x < 60) : ((sl l x).f3 = true ↔ x ∈ u) := by
  have hp := pigeon 60 (u ++ v) (used_free_nodup l f fr u v hu hv h1 h2) (fun y hy => by
    rcases List.mem_append.1 hy with h | h
    · have := path_range l u f hu y h
      omega
    · have := path_range l v fr hv y h
      omega)
  have hm := hp.2 (by simpa using h3) x h0 hx
  constructor
  · intro h
    rcases List.mem_append.1 hm with g | g
    · exact g
    · have := (chkF_free l v h2 x g).1
      rw [h] at this
      cases this
  · intro h
    exact chkU_used l u _ _ h1 x h
theorem chkU_ids (l : List S65) : ∀ (u : List Int) (p : Int) (ids : List Int), chkU l u p ids = true → (∀ x ∈ u, (sl l x).f0 ∉ ids) ∧ ∀ x ∈ u, ∀ y ∈ u, (sl l x).f0 = (sl l y).f0 → x = y
  | [], _, _, _ => ⟨by simp, by simp⟩
  | z :: u, p, ids, h => by
    rw [chkU] at h
    split at h
    · rename_i hc
      obtain ⟨g1, g2⟩ := chkU_ids l u _ _ h
      refine ⟨fun x hx => ?_, fun x hx y hy e => ?_⟩
      · rcases List.mem_cons.1 hx with rfl | hx
        · exact hc.2.2.2
        · exact fun hm => g1 x hx (List.mem_append_left _ hm)
      · rcases List.mem_cons.1 hx with ex | hx'
        · rcases List.mem_cons.1 hy with ey | hy'
          · rw [ex, ey]
          · exact absurd (by rw [← e, ex]; simp) (g1 y hy')
        · rcases List.mem_cons.1 hy with ey | hy'
          · exact absurd (by rw [e, ey]; simp) (g1 x hx')
          · exact g2 x hx' y hy' e
    · cases h
theorem chkU_idok (l : List S65) : ∀ (u : List Int) (p : Int) (ids : List Int), chkU l u p ids = true → ∀ x ∈ u, 1 ≤ (sl l x).f0 ∧ (sl l x).f0 ≤ 1000000000
  | [], _, _, _, x, hx => by simp at hx
  | z :: u, p, ids, h, x, hx => by
    rw [chkU] at h
    split at h
    · rename_i hc
      rcases List.mem_cons.1 hx with rfl | hx
      · exact hc.2.1
      · exact chkU_idok l u _ _ h x hx
    · cases h
theorem chkU_prev (l : List S65) : ∀ (u : List Int) (p : Int) (ids : List Int), chkU l u p ids = true → ∀ x ∈ u, (sl l x).f1 = p ∨ (sl l x).f1 ∈ u
  | [], _, _, _, x, hx => by simp at hx
  | z :: u, p, ids, h, x, hx => by
    rw [chkU] at h
    split at h
    · rename_i hc
      rcases List.mem_cons.1 hx with rfl | hx
      · exact .inl hc.2.2.1
      · rcases chkU_prev l u _ _ h x hx with g | g
        · exact .inr (by rw [g]; simp)
        · exact .inr (List.mem_cons_of_mem _ g)
    · cases h
theorem path_next (l : List S65) : ∀ (u : List Int) (a : Int), isPath l a u → ∀ x ∈ u, (sl l x).f2 = -1 ∨ (sl l x).f2 ∈ u
  | [], _, _, x, hx => by simp at hx
  | z :: u, a, h, x, hx => by
    rcases List.mem_cons.1 hx with rfl | hx
    · cases u with
      | nil => exact .inl h.2.2
      | cons y ys => exact .inr (by rw [h.2.2.1]; simp)
    · rcases path_next l u _ h.2.2 x hx with g | g
      · exact .inl g
      · exact .inr (List.mem_cons_of_mem _ g)
theorem lastOf_in : ∀ (u : List Int) (p : Int), lastOf p u = p ∨ lastOf p u ∈ u
  | [], p => .inl rfl
  | x :: u, p => by
    rw [lastOf]
    rcases lastOf_in u x with g | g
    · exact .inr (by rw [g]; simp)
    · exact .inr (List.mem_cons_of_mem _ g)
theorem ways (l : List S65) (f la fr c : Int) (h : queueOk l f la fr c = true) (x : Int) (h0 : 0 ≤ x) (hx : x ≤ 59) (hu : (sl l x).f3 = true) :
    l.length = 60 ∧ ((sl l x).f1 = -1 ∨ (0 ≤ (sl l x).f1 ∧ (sl l x).f1 < 60)) ∧ ((sl l x).f2 = -1 ∨ (0 ≤ (sl l x).f2 ∧ (sl l x).f2 < 60)) := by
  obtain ⟨hl, u, v, g1, g2, g3, g4, g5, g6, g7⟩ := (queueOk_iff l f la fr c).1 h
  have hm := (used_in l f fr u v hl g1 g2 g5 g6 g4 x h0 (by omega)).1 hu
  refine ⟨hl, ?_, ?_⟩
  · rcases chkU_prev l u _ _ g5 x hm with e | e
    · exact .inl e
    · have := path_range l u f g1 _ e
      exact .inr (by omega)
  · rcases path_next l u _ g1 x hm with e | e
    · exact .inl e
    · have := path_range l u f g1 _ e
      exact .inr (by omega)
theorem ends (l : List S65) (f la fr c : Int) (h : queueOk l f la fr c = true) :
    l.length = 60 ∧ (f = -1 ∨ (0 ≤ f ∧ f < 60)) ∧ (la = -1 ∨ (0 ≤ la ∧ la < 60)) ∧ (fr = -1 ∨ (0 ≤ fr ∧ fr < 60)) ∧ (c = 0 ↔ f = -1) ∧ 0 ≤ c ∧ c ≤ 60 := by
  obtain ⟨hl, u, v, g1, g2, g3, g4, g5, g6, g7⟩ := (queueOk_iff l f la fr c).1 h
  refine ⟨hl, ?_, ?_, ?_, ?_, by omega, by omega⟩
  · cases u with
    | nil => exact .inl g1
    | cons x xs => have := g1.2.1; have := g1.1; exact .inr (by omega)
  · rcases lastOf_in u (-1) with e | e
    · exact .inl (g7.trans e)
    · have := path_range l u f g1 _ e
      exact .inr (by omega)
  · cases v with
    | nil => exact .inl g2
    | cons x xs => have := g2.2.1; have := g2.1; exact .inr (by omega)
  · cases u with
    | nil => exact ⟨fun _ => g1, fun _ => by simp at g3; omega⟩
    | cons x xs =>
      have h1 := g1.2.1
      have h2 := g1.1
      simp only [List.length_cons] at g3
      exact ⟨fun e => by omega, fun e => by omega⟩

/-- The first place of a number in a list, counted from i; -1 if it is none of it. -/
def idx (v : Int) : Nat → List Int → Int
  | _, [] => -1
  | i, x :: xs => if v = x then (i : Int) else idx v (i + 1) xs
theorem idx_run (xs : List Int) (v : Int) (hl : xs.length ≤ 4611686018427387904) : ∀ (d k i : Nat), i ≤ xs.length → xs.length - i = d → d < k → slices_Index_int_int.l0 k xs v (xs.length : Int) (i : Int) = some (idx v i (xs.drop i)) := by
  intro d
  induction d with
  | zero =>
    intro k i hi hd hk
    obtain ⟨k, rfl⟩ : ∃ m, k = m + 1 := ⟨k - 1, by omega⟩
    obtain rfl : i = xs.length := by omega
    simp only [slices_Index_int_int.l0]
    rw [if_neg (by omega), List.drop_length, idx]
  | succ d ih =>
    intro k i hi hd hk
    obtain ⟨k, rfl⟩ : ∃ m, k = m + 1 := ⟨k - 1, by omega⟩
    simp only [slices_Index_int_int.l0]
    rw [if_pos (by omega), if_pos (by omega), if_pos (by omega), rd_nat xs i (by omega), wsucc i (by omega), List.drop_eq_getElem_cons (by omega), idx, ih k (i + 1) (by omega) (by omega) (by omega)]
    split <;> rfl
theorem index_run (xs : List Int) (v : Int) (hl : xs.length ≤ 4611686018427387904) (k : Nat) (hk : xs.length < k) : slices_Index_int_int.f k xs v = some (idx v 0 xs) := by
  have := idx_run xs v hl xs.length k 0 (by omega) (by omega) hk
  unfold slices_Index_int_int.f
  simpa using this
theorem index_ev (xs : List Int) (v : Int) (hl : xs.length ≤ 4611686018427387904) : Ev (fun k => slices_Index_int_int.f k xs v) (idx v 0 xs) :=
  ⟨xs.length + 1, fun k hk => index_run xs v hl k hk⟩
theorem idx_nonneg (v : Int) : ∀ (xs : List Int) (i : Nat), 0 ≤ idx v i xs ↔ v ∈ xs
  | [], i => by simp [idx]
  | x :: xs, i => by
    rw [idx, List.mem_cons]
    by_cases h : v = x
    · simp [h]
    · rw [if_neg h, idx_nonneg v xs (i + 1)]; simp [h]

theorem contains_run (xs : List Int) (v : Int) (hl : xs.length ≤ 4611686018427387904) (k : Nat) (hk : xs.length < k) : slices_Contains_int_int.f k xs v = some (decide (v ∈ xs)) := by
  unfold slices_Contains_int_int.f
  rw [index_run xs v hl k hk, Option.bind_some]
  congr 1
  exact decide_eq_decide.2 (idx_nonneg v xs 0)
theorem contains_ev (xs : List Int) (v : Int) (hl : xs.length ≤ 4611686018427387904) : Ev (fun k => slices_Contains_int_int.f k xs v) (decide (v ∈ xs)) :=
  ⟨xs.length + 1, fun k hk => contains_run xs v hl k hk⟩

theorem iIn (a b c : Int) : impl_in.f a b c = some (decide (b ≤ a ∧ a ≤ c)) := by
  unfold impl_in.f; by_cases h : b ≤ a <;> simp [h]

theorem iId (a : Int) : impl_isId.f a = some (decide (1 ≤ a ∧ a ≤ 1000000000)) := by unfold impl_isId.f; rw [iIn]; rfl

theorem iWalk_l0 (l : List S65) (f la fr c : Int) (hl : l.length = 60) : ∀ (d : Nat) (out : List Int) (a : Int), out.length + d = 60 → Ev (fun k => impl_Queue_walk.l0 k out a l f la fr c) (match walk l d a with | some u => (out ++ u, true) | none => ([], false)) := by
  intro d
  induction d with
  | zero =>
    intro out a ho
    refine Ev.step (fun k => by rw [impl_Queue_walk.l0]) ?_
    rw [walk]
    by_cases h1 : a = -1
    · rw [if_pos h1]
      refine Ev.pos h1 ?_
      simp only [List.append_nil]
      exact Ev.now _
    · rw [if_neg h1]
      refine Ev.neg h1 ?_
      by_cases h2 : a < 0
      · exact Ev.pos h2 (Ev.now _)
      · refine Ev.neg h2 ?_
        by_cases h3 : a ≥ (l.length : Int)
        · exact Ev.pos h3 (Ev.now _)
        · exact Ev.neg h3 (Ev.pos (by omega) (Ev.now _))
  | succ d ih =>
    intro out a ho
    refine Ev.step (fun k => by rw [impl_Queue_walk.l0]) ?_
    rw [walk]
    by_cases h1 : a = -1
    · rw [if_pos h1]
      refine Ev.pos h1 ?_
      simp only [List.append_nil]
      exact Ev.now _
    · rw [if_neg h1]
      refine Ev.neg h1 ?_
      by_cases h2 : 0 ≤ a ∧ a < (l.length : Int)
      · rw [if_pos h2]
        refine Ev.neg (by omega) (Ev.neg (by omega) (Ev.neg (by omega) (Ev.pos (by omega) (Ev.pos h2.1 (Ev.pos h2.2 ?_)))))
        have := ih (out ++ [a]) (sl l a).f2 (by simp; omega)
        cases hw : walk l d (sl l a).f2 with
        | none => rw [hw] at this; exact this
        | some u =>
          rw [hw] at this
          have e : out ++ [a] ++ u = out ++ a :: u := by simp
          simp only [e] at this
          exact this
      · rw [if_neg h2]
        by_cases h3 : a < 0
        · exact Ev.pos h3 (Ev.now _)
        · exact Ev.neg h3 (Ev.pos (by omega) (Ev.now _))
theorem iWalk_ev (l : List S65) (f la fr c a : Int) (hl : l.length = 60) : Ev (fun k => impl_Queue_walk.f k l f la fr c a) (match walk l 60 a with | some u => (u, true) | none => ([], false)) := by
  unfold impl_Queue_walk.f
  have := iWalk_l0 l f la fr c hl 60 [] a (by simp)
  simpa using this
theorem iQueue_l1 (l : List S65) (f la fr c p : Int) (v : List Int) (hr : ∀ x ∈ v, 0 ≤ x ∧ x < (l.length : Int)) (hv : v.length ≤ 60) : ∀ (d i : Nat), i + d = v.length → Ev (fun k => impl_QueueOk.l1 k p v (v.length : Int) (i : Int) l f la fr c) (chkF l (v.drop i) && (la == p)) := by
  intro d
  induction d with
  | zero =>
    intro i hi
    refine Ev.step (fun k => by rw [impl_QueueOk.l1]) ?_
    obtain rfl : i = v.length := by omega
    rw [List.drop_length, chkF, Bool.true_and]
    exact Ev.neg (by omega) (Ev.now _)
  | succ d ih =>
    intro i hi
    refine Ev.step (fun k => by rw [impl_QueueOk.l1]) ?_
    have hm := hr v[i] (List.getElem_mem (by omega))
    rw [rd_nat v i (by omega), wsucc i (by omega), List.drop_eq_getElem_cons (by omega), chkF]
    refine Ev.pos (by omega) (Ev.pos (by omega) (Ev.pos (by omega) (Ev.pos hm.1 (Ev.pos hm.2 ?_))))
    by_cases h1 : (sl l v[i]).f3 = true
    · rw [if_neg (fun e => by rw [h1] at e; exact absurd e.1 (by simp))]
      exact Ev.pos h1 (Ev.now _)
    · refine Ev.neg h1 ?_
      by_cases h2 : (sl l v[i]).f0 = 0
      · refine Ev.pos h2 ?_
        by_cases h3 : (sl l v[i]).f1 = -1
        · rw [if_pos ⟨by simpa using h1, h2, h3⟩]
          exact Ev.pos h3 (ih (i + 1) (by omega))
        · rw [if_neg (fun e => h3 e.2.2)]
          exact Ev.neg h3 (Ev.now _)
      · rw [if_neg (fun e => h2 e.2.1)]
        exact Ev.neg h2 (Ev.now _)
theorem iQueue_l0 (l : List S65) (f la fr c : Int) (u v : List Int) (hu : ∀ x ∈ u, 0 ≤ x ∧ x < (l.length : Int)) (hv : ∀ x ∈ v, 0 ≤ x ∧ x < (l.length : Int)) (hul : u.length ≤ 60) (hvl : v.length ≤ 60) : ∀ (d i : Nat) (p : Int) (ids : List Int), i + d = u.length → ids.length = i → Ev (fun k => impl_QueueOk.l0 k v p ids u (u.length : Int) (i : Int) l f la fr c) (chkU l (u.drop i) p ids && (chkF l v && (la == lastOf p (u.drop i)))) := by
  intro d
  induction d with
  | zero =>
    intro i p ids hi hn
    refine Ev.step (fun k => by rw [impl_QueueOk.l0]) ?_
    obtain rfl : i = u.length := by omega
    rw [List.drop_length, chkU, lastOf, Bool.true_and]
    exact Ev.neg (by omega) (iQueue_l1 l f la fr c p v hv hvl v.length 0 (by omega))
  | succ d ih =>
    intro i p ids hi hn
    refine Ev.step (fun k => by rw [impl_QueueOk.l0]) ?_
    have hm := hu u[i] (List.getElem_mem (by omega))
    rw [rd_nat u i (by omega), wsucc i (by omega), List.drop_eq_getElem_cons (by omega), chkU, lastOf]
    refine Ev.pos (by omega) (Ev.pos (by omega) (Ev.pos (by omega) (Ev.pos hm.1 (Ev.pos hm.2 ?_))))
    by_cases h1 : (sl l u[i]).f3 = true
    case neg => rw [if_neg (fun e => h1 e.1)]; exact Ev.neg h1 (Ev.now _)
    refine Ev.pos h1 (Ev.bind' _ (Ev.is fun _ => iId _) ?_)
    by_cases h2 : 1 ≤ (sl l u[i]).f0 ∧ (sl l u[i]).f0 ≤ 1000000000
    case neg => rw [if_neg (fun e => h2 e.2.1)]; exact Ev.neg (by simpa [sl] using h2) (Ev.now _)
    refine Ev.pos (by simpa [sl] using h2) ?_
    by_cases h3 : (sl l u[i]).f1 = p
    case neg => rw [if_neg (fun e => h3 e.2.2.1)]; exact Ev.neg h3 (Ev.now _)
    refine Ev.pos h3 (Ev.bind' _ (contains_ev ids _ (by omega)) ?_)
    by_cases h4 : (sl l u[i]).f0 ∈ ids
    · rw [if_neg (fun e => e.2.2.2 h4)]
      exact Ev.pos (by simpa [sl] using h4) (Ev.now _)
    · rw [if_pos ⟨h1, h2, h3, h4⟩]
      exact Ev.neg (by simpa [sl] using h4) (Ev.pos (by omega) (ih (i + 1) _ _ (by omega) (by simp [hn])))
theorem iQueue_ev (l : List S65) (f la fr c : Int) : Ev (fun k => impl_QueueOk.f k l f la fr c) (queueOk l f la fr c) := by
  unfold impl_QueueOk.f queueOk
  by_cases hl : l.length = 60
  case neg => rw [if_neg hl]; exact Ev.neg (by omega) (Ev.now _)
  rw [if_pos hl]
  refine Ev.pos (by omega) (Ev.bind' _ (iWalk_ev l f la fr c f hl) (Ev.bind' _ (iWalk_ev l f la fr c fr hl) ?_))
  have hj : ∀ (u v : List Int) (b : Bool), b = true → Ev (fun k => impl_QueueOk.j0 k u v b l f la fr c) false := fun u v b h => Ev.step (fun k => by rw [impl_QueueOk.j0]) (Ev.pos h (Ev.now _))
  cases hu : walk l 60 f with
  | none => exact Ev.neg (by simp) (hj _ _ _ rfl)
  | some u =>
    cases hv : walk l 60 fr with
    | none => exact Ev.pos rfl (Ev.neg (by simp) (hj _ _ _ rfl))
    | some v =>
      obtain ⟨pu, lu⟩ := walk_path l _ _ u hu
      obtain ⟨pv, lv⟩ := walk_path l _ _ v hv
      refine Ev.pos rfl (Ev.pos rfl ?_)
      dsimp only
      by_cases h1 : (u.length : Int) = c
      · refine Ev.pos h1 ?_
        rw [w64 (by omega) (by omega)]
        by_cases h2 : u.length + v.length = 60
        · have e : decide ((u.length : Int) = c ∧ u.length + v.length = 60) = true := by simp [h1, h2]
          rw [e, Bool.true_and]
          refine Ev.step (fun k => by rw [impl_QueueOk.j0]) ?_
          have h3 : (u.length : Int) + (v.length : Int) = 60 := by omega
          refine Ev.neg (by simp [h3]) ?_
          exact iQueue_l0 l f la fr c u v (path_range l u _ pu) (path_range l v _ pv) lu lv u.length 0 (-1) [] (by omega) rfl
        · have e : decide ((u.length : Int) = c ∧ u.length + v.length = 60) = false := by simp [h2]
          rw [e, Bool.false_and]
          have h3 : ¬ (u.length : Int) + (v.length : Int) = 60 := by omega
          exact hj _ _ _ (by simp [h3])
      · have e : decide ((u.length : Int) = c ∧ u.length + v.length = 60) = false := by simp [h1]
        rw [e, Bool.false_and]
        exact Ev.neg h1 (hj _ _ _ rfl)

theorem qCopy_ev (l : List S65) (f la fr c : Int) (hl : l.length ≤ 1048577) : Ev (fun k => spec_l02Copy.f k l f la fr c) (l, f, la, fr, c) := by
  have key : ∀ (d i : Nat) (out : List S65), i + d = l.length → out.length = i → Ev (fun k => spec_l02Copy.l0 k (i : Int) l f la fr c out f la fr c) (out ++ l.drop i, f, la, fr, c) := by
    intro d
    induction d with
    | zero =>
      intro i out hi ho
      obtain rfl : i = l.length := by omega
      refine Ev.step (fun k => by rw [spec_l02Copy.l0]) ?_
      rw [List.drop_length, List.append_nil]
      exact Ev.neg (by omega) (Ev.now _)
    | succ d ih =>
      intro i out hi ho
      refine Ev.step (fun k => by rw [spec_l02Copy.l0]) ?_
      have e : rd_T65 l (i : Int) = l[i]'(by omega) := by simp [rd_T65, show i < l.length by omega]
      rw [e, wsucc i (by omega), List.drop_eq_getElem_cons (by omega)]
      refine Ev.pos (by omega) (Ev.pos (by omega) (Ev.pos (by omega) ?_))
      have := ih (i + 1) (out ++ [l[i]'(by omega)]) (by omega) (by simp [ho])
      simp only [List.append_assoc, List.singleton_append] at this
      exact this
  unfold spec_l02Copy.f
  have := key l.length 0 [] (by omega) rfl
  simpa using this
theorem iCloneS (l : List S65) (hl : l.length ≤ 1048577) : impl_Slot.f l = some l := by
  unfold impl_Slot.f
  rw [Option.bind_some, if_pos (by simp; omega)]
  rfl
theorem iOwnQ (l : List S65) (f la fr c : Int) (hl : l.length ≤ 1048577) : impl_ownQueue.f l f la fr c = some (l, f, la, fr, c) := by
  unfold impl_ownQueue.f
  rw [iCloneS l hl]; rfl

def setNext (l : List S65) (p q : Int) : List S65 := l.set p.toNat ⟨(sl l p).f0, (sl l p).f1, q, (sl l p).f3⟩
def setPrev (l : List S65) (p q : Int) : List S65 := l.set p.toNat ⟨(sl l p).f0, q, (sl l p).f2, (sl l p).f3⟩
def cutOut (l : List S65) (p : Int) : List S65 :=
  let l1 := if (sl l p).f1 = -1 then l else setNext l (sl l p).f1 (sl l p).f2
  if (sl l p).f2 = -1 then l1 else setPrev l1 (sl l p).f2 (sl l p).f1
def removeAt (l : List S65) (f la fr c p : Int) : List S65 × Int × Int × Int × Int × Int :=
  if queueOk l f la fr c = true ∧ (0 ≤ p ∧ p ≤ 59) ∧ (sl l p).f3 = true then
    ((cutOut l p).set p.toNat ⟨0, -1, fr, false⟩, if (sl l p).f1 = -1 then (sl l p).f2 else f, if (sl l p).f2 = -1 then (sl l p).f1 else la, p, wrap64 (c - 1), (sl l p).f0)
  else (l, f, la, fr, c, 0)
theorem removeAt_len (l : List S65) (f la fr c p : Int) : (removeAt l f la fr c p).1.length = l.length := by
  unfold removeAt cutOut setNext setPrev
  split
  · dsimp only
    repeat' split
    all_goals simp
  · rfl
theorem removeAt_eq (l : List S65) (f la fr c p : Int) (h : queueOk l f la fr c = true) (hp : 0 ≤ p ∧ p ≤ 59) (hu : (sl l p).f3 = true) (l1 l2 : List S65) (a b : Int)
    (h1 : (if (sl l p).f1 = -1 then l else setNext l (sl l p).f1 (sl l p).f2) = l1) (h2 : (if (sl l p).f2 = -1 then l1 else setPrev l1 (sl l p).f2 (sl l p).f1) = l2) (h3 : (if (sl l p).f1 = -1 then (sl l p).f2 else f) = a) (h4 : (if (sl l p).f2 = -1 then (sl l p).f1 else la) = b) :
    removeAt l f la fr c p = (l2.set p.toNat ⟨0, -1, fr, false⟩, a, b, p, wrap64 (c - 1), (sl l p).f0) := by
  subst h1 h2 h3 h4
  rw [removeAt, if_pos ⟨h, hp, hu⟩, cutOut]
theorem sRemove_ev (l : List S65) (f la fr c p : Int) (hl : l.length ≤ 1048577) : Ev (fun k => spec_RemoveAt.f k l f la fr c p) (removeAt l f la fr c p) := by
  unfold spec_RemoveAt.f
  refine Ev.bind' _ (qCopy_ev l f la fr c hl) (Ev.bind' _ (sQueue_ev l f la fr c) ?_)
  have hj : ∀ b : Bool, b = true → ¬ (queueOk l f la fr c = true ∧ (0 ≤ p ∧ p ≤ 59) ∧ (sl l p).f3 = true) → Ev (fun k => spec_RemoveAt.j0 k p b l f la fr c l f la fr c) (removeAt l f la fr c p) := fun b hb hn => by
    rw [removeAt, if_neg hn]
    refine Ev.step (fun k => by rw [spec_RemoveAt.j0]) ?_
    exact Ev.pos hb (Ev.now _)
  by_cases h : queueOk l f la fr c = true
  case neg => exact Ev.neg h (hj _ rfl (fun e => h e.1))
  refine Ev.pos h (Ev.bind' _ (Ev.is fun _ => sIn p 0 59) ?_)
  by_cases hp : 0 ≤ p ∧ p ≤ 59
  case neg => exact Ev.neg (by simpa using hp) (hj _ rfl (fun e => hp e.2.1))
  have hl60 := ((queueOk_iff l f la fr c).1 h).1
  have hpl : p < (l.length : Int) := by omega
  refine Ev.pos (by simpa using hp) (Ev.pos hp.1 (Ev.pos (by omega) ?_))
  by_cases hu : (sl l p).f3 = true
  case neg => exact hj _ (by simpa [sl] using hu) (fun e => hu e.2.2)
  obtain ⟨_, h1, h2⟩ := ways l f la fr c h p hp.1 hp.2 hu
  refine Ev.step (fun k => by rw [spec_RemoveAt.j0]) ?_
  refine Ev.neg (by simpa [sl] using hu) (Ev.pos hp.1 (Ev.pos (by omega) ?_))
  by_cases e1 : (sl l p).f1 = -1
  · refine Ev.pos e1 ?_
    by_cases e2 : (sl l p).f2 = -1
    · rw [removeAt_eq l f la fr c p h hp hu _ _ _ _ (if_pos e1) (if_pos e2) (if_pos e1) (if_pos e2)]
      exact Ev.pos e2 (Ev.pos hpl (Ev.now _))
    · rw [removeAt_eq l f la fr c p h hp hu _ _ _ _ (if_pos e1) (if_neg e2) (if_pos e1) (if_neg e2)]
      have r2 : 0 ≤ (sl l p).f2 ∧ (sl l p).f2 < 60 := by omega
      exact Ev.neg e2 (Ev.pos r2.1 (Ev.pos (by rw [hl60]; exact r2.2) (Ev.pos hpl (Ev.now _))))
  · have r1 : 0 ≤ (sl l p).f1 ∧ (sl l p).f1 < 60 := by omega
    refine Ev.neg e1 (Ev.pos r1.1 (Ev.pos (by rw [hl60]; exact r1.2) (Ev.some' ?_)))
    by_cases e2 : (sl l p).f2 = -1
    · rw [removeAt_eq l f la fr c p h hp hu _ _ _ _ (if_neg e1) (if_pos e2) (if_neg e1) (if_pos e2)]
      exact Ev.pos e2 (Ev.pos hpl (Ev.now _))
    · rw [removeAt_eq l f la fr c p h hp hu _ _ _ _ (if_neg e1) (if_neg e2) (if_neg e1) (if_neg e2)]
      have r2 : 0 ≤ (sl l p).f2 ∧ (sl l p).f2 < 60 := by omega
      exact Ev.neg e2 (Ev.pos r2.1 (Ev.pos (by rw [hl60]; exact r2.2) (Ev.pos hpl (Ev.now _))))
theorem iRemove_ev (l : List S65) (f la fr c p : Int) (hl : l.length ≤ 1048577) : Ev (fun k => impl_RemoveAt.f k l f la fr c p) (removeAt l f la fr c p) := by
  unfold impl_RemoveAt.f
  refine Ev.bind' _ (Ev.is fun _ => iOwnQ l f la fr c hl) (Ev.bind' _ (iQueue_ev l f la fr c) ?_)
  have hj : ∀ b : Bool, b = true → ¬ (queueOk l f la fr c = true ∧ (0 ≤ p ∧ p ≤ 59) ∧ (sl l p).f3 = true) → Ev (fun k => impl_RemoveAt.j0 k p b l f la fr c l f la fr c) (removeAt l f la fr c p) := fun b hb hn => by
    rw [removeAt, if_neg hn]
    refine Ev.step (fun k => by rw [impl_RemoveAt.j0]) ?_
    exact Ev.pos hb (Ev.now _)
  by_cases h : queueOk l f la fr c = true
  case neg => exact Ev.neg h (hj _ rfl (fun e => h e.1))
  refine Ev.pos h (Ev.bind' _ (Ev.is fun _ => iIn p 0 59) ?_)
  by_cases hp : 0 ≤ p ∧ p ≤ 59
  case neg => exact Ev.neg (by simpa using hp) (hj _ rfl (fun e => hp e.2.1))
  have hl60 := ((queueOk_iff l f la fr c).1 h).1
  have hpl : p < (l.length : Int) := by omega
  refine Ev.pos (by simpa using hp) (Ev.pos hp.1 (Ev.pos (by omega) ?_))
  by_cases hu : (sl l p).f3 = true
  case neg => exact hj _ (by simpa [sl] using hu) (fun e => hu e.2.2)
  obtain ⟨_, h1, h2⟩ := ways l f la fr c h p hp.1 hp.2 hu
  refine Ev.step (fun k => by rw [impl_RemoveAt.j0]) ?_
  refine Ev.neg (by simpa [sl] using hu) (Ev.pos hp.1 (Ev.pos (by omega) ?_))
  by_cases e1 : (sl l p).f1 = -1
  · refine Ev.neg (show ¬ (sl l p).f1 ≥ 0 by omega) ?_
    by_cases e2 : (sl l p).f2 = -1
    · rw [removeAt_eq l f la fr c p h hp hu _ _ _ _ (if_pos e1) (if_pos e2) (if_pos e1) (if_pos e2)]
      exact Ev.neg (show ¬ (sl l p).f2 ≥ 0 by omega) (Ev.pos hpl (Ev.now _))
    · rw [removeAt_eq l f la fr c p h hp hu _ _ _ _ (if_pos e1) (if_neg e2) (if_pos e1) (if_neg e2)]
      have r2 : 0 ≤ (sl l p).f2 ∧ (sl l p).f2 < 60 := by omega
      exact Ev.pos r2.1 (Ev.pos r2.1 (Ev.pos (by rw [hl60]; exact r2.2) (Ev.pos hpl (Ev.now _))))
  · have r1 : 0 ≤ (sl l p).f1 ∧ (sl l p).f1 < 60 := by omega
    refine Ev.pos r1.1 (Ev.pos r1.1 (Ev.pos (by rw [hl60]; exact r1.2) (Ev.some' ?_)))
    by_cases e2 : (sl l p).f2 = -1
    · rw [removeAt_eq l f la fr c p h hp hu _ _ _ _ (if_neg e1) (if_pos e2) (if_neg e1) (if_pos e2)]
      exact Ev.neg (show ¬ (sl l p).f2 ≥ 0 by omega) (Ev.pos hpl (Ev.now _))
    · rw [removeAt_eq l f la fr c p h hp hu _ _ _ _ (if_neg e1) (if_neg e2) (if_neg e1) (if_neg e2)]
      have r2 : 0 ≤ (sl l p).f2 ∧ (sl l p).f2 < 60 := by omega
      exact Ev.pos r2.1 (Ev.pos r2.1 (Ev.pos (by rw [hl60]; exact r2.2) (Ev.pos hpl (Ev.now _))))

def slotOf (x : S75) : S65 := ⟨x.f0, x.f1, x.f2, x.f3⟩
def slots (l : List S75) : List S65 := l.map slotOf
theorem slots_length (l : List S75) : (slots l).length = l.length := by simp [slots]
theorem toSlotS_ev (l : List S75) (hl : l.length ≤ 1048576) : Ev (fun k => laws_toSlotS.f k l) (slots l) := by
  have key : ∀ (d k : Nat) (i : Nat) (acc : List S65), i ≤ l.length → l.length - i = d → d < k → acc.length = l.length → laws_toSlotS.l0 k l acc (i : Int) = some (acc.take i ++ slots (l.drop i)) := by
    intro d
    induction d with
    | zero =>
      intro k i acc hi hd hk ha
      obtain ⟨k, rfl⟩ : ∃ m, k = m + 1 := ⟨k - 1, by omega⟩
      obtain rfl : i = l.length := by omega
      simp only [laws_toSlotS.l0]
      rw [if_neg (by omega), List.drop_length, ← ha, List.take_length]
      simp [slots]
    | succ d ih =>
      intro k i acc hi hd hk ha
      obtain ⟨k, rfl⟩ : ∃ m, k = m + 1 := ⟨k - 1, by omega⟩
      have e : rd_T75 l (i : Int) = l[i]'(by omega) := by simp [rd_T75, show i < l.length by omega]
      simp only [laws_toSlotS.l0, laws_toSlot.f, Option.bind_some]
      rw [if_pos (by omega), if_pos (by omega), if_pos (by omega), wsucc i (by omega), e, Int.toNat_natCast, ih k (i + 1) _ (by omega) (by omega) (by omega) (by rw [List.length_set, ha])]
      congr 1
      rw [List.take_succ_eq_append_getElem (by rw [List.length_set]; omega), List.getElem_set_self, List.take_set_of_le (Nat.le_refl _), List.append_assoc, List.singleton_append, List.drop_eq_getElem_cons (show i < l.length by omega)]
      rfl
  refine ⟨l.length + 1, fun k hk => (?_ : laws_toSlotS.f k l = some (slots l))⟩
  unfold laws_toSlotS.f
  rw [if_pos (by omega), if_pos (by omega), Int.toNat_natCast]
  have := key l.length k 0 (List.replicate l.length z65) (by omega) (by omega) (by omega) (by simp)
  simpa using this
theorem szQueue (l : List S75) (a b c d : Int) (hl : l.length ≤ 9223372036854775807) : laws_szQueue.f l a b c d 1048576 = some (if l.length ≤ 1048576 then 1048576 - (l.length : Int) else -1) := by
  unfold laws_szQueue.f laws_szSlotS.f
  rw [w64 (by omega) (by omega)]
  by_cases h : l.length ≤ 1048576
  · rw [if_neg (by omega), if_pos h, Option.bind_some, if_neg (by omega)]
  · rw [if_pos (by omega), if_neg h]
    rfl
theorem toQueue_ev (l : List S75) (a b c d : Int) (hl : l.length ≤ 1048576) : Ev (fun k => laws_toQueue.f k l a b c d) (slots l, a, b, c, d) := by
  unfold laws_toQueue.f
  exact Ev.bind' _ (toSlotS_ev l hl) (Ev.now _)

theorem eqSlot_same (a b c : Int) (d : Bool) : laws_eqSlot.f a b c d a b c d = some true := by simp [laws_eqSlot.f]
theorem eqSlotS_same (l : List S65) (hb : l.length ≤ 1048577) : Ev (fun k => laws_eqSlotS.f k l l) true := by
  unfold laws_eqSlotS.f
  refine Ev.pos rfl ?_
  have key : ∀ (d i : Nat), i + d = l.length → Ev (fun k => laws_eqSlotS.l0 k l l (i : Int)) true := by
    intro d
    induction d with
    | zero =>
      intro i hi
      refine Ev.step (fun k => by rw [laws_eqSlotS.l0]) ?_
      exact Ev.neg (by omega) (Ev.now _)
    | succ d ih =>
      intro i hi
      refine Ev.step (fun k => by rw [laws_eqSlotS.l0]) ?_
      refine Ev.pos (by omega) (Ev.pos (by omega) (Ev.pos (by omega) (Ev.bind' true (Ev.is fun _ => eqSlot_same _ _ _ _) (Ev.pos rfl ?_))))
      rw [wsucc i (by omega)]
      exact ih (i + 1) (by omega)
  exact key l.length 0 (by omega)
theorem eqQueue_ev (l : List S65) (a b c d : Int) (hb : l.length ≤ 1048577) : Ev (fun k => laws_eqQueue.f k l a b c d l a b c d) true := by
  unfold laws_eqQueue.f
  exact Ev.bind' _ (eqSlotS_same l hb) (Ev.pos rfl (Ev.pos rfl (Ev.pos rfl (Ev.pos rfl (Ev.pos rfl (Ev.now _))))))

def markS : Int → Nat → List S65
  | _, 0 => []
  | m, n + 1 => ⟨m, m + 1, m + 2, Int.tmod (m + 3) 3 == 0⟩ :: markS (m + 4) n
theorem markS_length : ∀ (n : Nat) (m : Int), (markS m n).length = n
  | 0, _ => rfl
  | n + 1, m => by rw [markS, List.length_cons, markS_length n]
theorem rd_set (l : List S65) (i : Nat) (a : S65) (h : i < l.length) : rd_T65 (l.set i a) (i : Int) = a := by
  simp [rd_T65, h]

theorem markSlotS_ev (l : List S65) (m : Int) (hm : 0 ≤ m) (hm2 : m ≤ 4611686018427387904) (hl : l.length ≤ 1048577) : Ev (fun k => laws_markSlotS.f k l m) (m + 4 * l.length, markS m l.length) := by
  have key : ∀ (d i : Nat) (m : Int) (acc : List S65), i + d = l.length → acc.length = l.length → 0 ≤ m → m + 4 * d ≤ 4611686018440000000 → Ev (fun k => laws_markSlotS.l0 k acc m (i : Int)) (m + 4 * d, acc.take i ++ markS m d) := by
    intro d
    induction d with
    | zero =>
      intro i m acc hi ha h0 h1
      refine Ev.step (fun k => by rw [laws_markSlotS.l0]) ?_
      have e : acc.take i = acc := List.take_of_length_le (by omega)
      rw [markS, List.append_nil, e]
      refine Ev.neg (by omega) (Ev.is fun _ => ?_)
      simp
    | succ d ih =>
      intro i m acc hi ha h0 h1
      refine Ev.step (fun k => by rw [laws_markSlotS.l0]) ?_
      refine Ev.pos (by omega) (Ev.pos (by omega) (Ev.some' (Ev.some' (Ev.some' ?_))))
      rw [w64 (n := m + 1) (by omega) (by omega), w64 (n := m + 1 + 1) (by omega) (by omega), w64 (n := m + 1 + 1 + 1) (by omega) (by omega), w64 (n := m + 1 + 1 + 1 + 1) (by omega) (by omega), wsucc i (by omega)]
      simp only [Int.toNat_natCast, List.set_set, List.length_set, rd_set _ i _ (show i < acc.length by omega)]
      have e4 : m + 1 + 1 + 1 + 1 = m + 4 := by omega
      have e3 : m + 1 + 1 + 1 = m + 3 := by omega
      have e2 : m + 1 + 1 = m + 2 := by omega
      rw [e4, e3, e2]
      have := ih (i + 1) (m + 4) (acc.set i ⟨m, m + 1, m + 2, Int.tmod (m + 3) 3 == 0⟩) (by omega) (by rw [List.length_set]; exact ha) (by omega) (by omega)
      rw [List.take_succ_eq_append_getElem (by rw [List.length_set]; omega), List.getElem_set_self, List.take_set_of_le (Nat.le_refl _), List.append_assoc, List.singleton_append] at this
      have e5 : m + 4 * ((d + 1 : Nat) : Int) = m + 4 + 4 * (d : Int) := by omega
      rw [e5, markS]
      exact this
  unfold laws_markSlotS.f
  have := key l.length 0 m l (by omega) rfl hm (by omega)
  simpa using this

theorem markQueue_ev (l : List S65) (a b c d : Int) (hl : l.length ≤ 1048577) : Ev (fun k => laws_markQueue.f k l a b c d 1) (1 + 4 * l.length, markS 1 l.length) := by
  unfold laws_markQueue.f
  exact Ev.bind' _ (markSlotS_ev l 1 (by omega) (by omega) hl) (Ev.now _)

theorem heldSlotS_ev (n : Nat) (m : Int) (hm : 0 ≤ m) (hm2 : m ≤ 4611686018427387904) (hn : n ≤ 1048577) : Ev (fun k => laws_heldSlotS.f k (markS m n) m) (m + 4 * n) := by
  have key : ∀ (l : List S65), l.length ≤ 1048577 → ∀ (d i : Nat) (m : Int), i + d = l.length → l.drop i = markS m d → 0 ≤ m → m + 4 * d ≤ 4611686018440000000 → Ev (fun k => laws_heldSlotS.l0 k l m (i : Int)) (m + 4 * d) := by
    intro l hl d
    induction d with
    | zero =>
      intro i m hi hs h0 h1
      refine Ev.step (fun k => by rw [laws_heldSlotS.l0]) ?_
      refine Ev.neg (by omega) (Ev.is fun _ => ?_)
      simp
    | succ d ih =>
      intro i m hi hs h0 h1
      rw [List.drop_eq_getElem_cons (by omega), markS, List.cons.injEq] at hs
      have e : rd_T65 l (i : Int) = l[i]'(by omega) := by simp [rd_T65, show i < l.length by omega]
      refine Ev.step (fun k => by rw [laws_heldSlotS.l0]) ?_
      rw [e, hs.1, w64 (n := m + 1) (by omega) (by omega), w64 (n := m + 1 + 1) (by omega) (by omega), w64 (n := m + 1 + 1 + 1) (by omega) (by omega), w64 (n := m + 1 + 1 + 1 + 1) (by omega) (by omega), wsucc i (by omega)]
      have e4 : m + 1 + 1 + 1 + 1 = m + 4 := by omega
      have e3 : m + 1 + 1 + 1 = m + 3 := by omega
      have e2 : m + 1 + 1 = m + 2 := by omega
      rw [e4, e3, e2]
      refine Ev.pos (by omega) (Ev.pos (by omega) (Ev.pos rfl (Ev.pos rfl (Ev.pos rfl (Ev.neg (by simp) ?_)))))
      have e5 : m + 4 * ((d + 1 : Nat) : Int) = m + 4 + 4 * (d : Int) := by omega
      rw [e5]
      exact ih (i + 1) (m + 4) (by omega) hs.2 (by omega) (by omega)
  unfold laws_heldSlotS.f
  exact key (markS m n) (by rw [markS_length]; exact hn) n 0 m (by rw [markS_length]; omega) rfl hm (by omega)

theorem heldQueue_ev (n : Nat) (a b c d : Int) (hn : n ≤ 1048577) : Ev (fun k => laws_heldQueue.f k (markS 1 n) a b c d 1) (1 + 4 * n) := by
  unfold laws_heldQueue.f
  exact Ev.bind' _ (heldSlotS_ev n 1 (by omega) (by omega) hn) (Ev.neg (by omega) (Ev.now _))

theorem FnExactRemoveAt : ∀ (l : List S75) (a b c d v : Int), l.length ≤ 9223372036854775807 → (Lit.int .i64 a).wf = true → (Lit.int .i64 b).wf = true → (Lit.int .i64 c).wf = true → (Lit.int .i64 d).wf = true → (Lit.int .i64 v).wf = true → ∃ k, laws_FnExactRemoveAt.f k l a b c d v = some true := by
  intro l a b c d v hm _ _ _ _ _ 
  refine Ev.rounds (r := true) ?_
  unfold laws_FnExactRemoveAt.f
  refine Ev.bind' _ (Ev.is fun _ => szQueue l a b c d hm) ?_
  by_cases h : l.length ≤ 1048576
  case neg => rw [if_neg h]; exact Ev.pos (by omega) (Ev.now _)
  rw [if_pos h]
  have hs : (slots l).length ≤ 1048577 := by rw [slots_length]; omega
  have hr : (removeAt (slots l) a b c d v).1.length ≤ 1048577 := by rw [removeAt_len]; exact hs
  refine Ev.neg (by omega) ?_
  refine Ev.bind' _ (toQueue_ev l a b c d h) ?_
  refine Ev.bind' _ (sRemove_ev (slots l) a b c d v hs) ?_
  refine Ev.bind' _ (toQueue_ev l a b c d h) ?_
  refine Ev.bind' _ (iRemove_ev (slots l) a b c d v hs) ?_
  refine Ev.bind' _ (eqQueue_ev _ _ _ _ _ hr) (Ev.pos rfl ?_)
  refine Ev.step (fun k => by rw [laws_FnExactRemoveAt.j0]) (Ev.neg (by simp) ?_)
  refine Ev.bind' _ (toQueue_ev l a b c d h) ?_
  refine Ev.bind' _ (eqQueue_ev (slots l) a b c d hs) (Ev.pos rfl ?_)
  refine Ev.bind' _ (markQueue_ev (slots l) a b c d hs) (Ev.neg (by omega) ?_)
  refine Ev.bind' _ (eqQueue_ev _ _ _ _ _ hr) (Ev.pos rfl ?_)
  refine Ev.step (fun k => by rw [laws_FnExactRemoveAt.j1]) (Ev.neg (by simp) ?_)
  refine Ev.bind' _ (markQueue_ev _ _ _ _ _ hr) ?_
  refine Ev.bind' _ (heldQueue_ev _ _ _ _ _ hr) (Ev.neg (by omega) (Ev.pos rfl ?_))
  refine Ev.bind' _ (toQueue_ev l a b c d h) ?_
  refine Ev.bind' _ (iRemove_ev (slots l) a b c d v hs) ?_
  refine Ev.bind' _ (eqQueue_ev _ _ _ _ _ hr) (Ev.pos rfl ?_)
  refine Ev.step (fun k => by rw [laws_FnExactRemoveAt.j2]) (Ev.neg (by simp) ?_)
  exact Ev.bind' _ (heldQueue_ev _ _ _ _ _ hr) (Ev.neg (by omega) (Ev.pos rfl (Ev.now _)))

end Go.Proofs.Ytgpgkedbanmheaa.Pure
