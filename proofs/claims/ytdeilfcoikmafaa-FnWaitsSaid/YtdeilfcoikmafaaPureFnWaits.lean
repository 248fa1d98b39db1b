/-
For all bytes: the waits of a drawn configuration double as far as the cap, from StepsToCap on they are the cap; a jittered wait lies between LeastWait and FullWait; WaitSum and Redials add them up (the printed law answers true).
-/
import Derived.Test.YtdeilfcoikmafaaMFnWaitsx11
namespace Go.Proofs.Ytdeilfcoikmafaa.Pure
open Go.RowKit Go.Proofs.Ytdeilfcoikmafaa.MFnWaits Go.Proofs.YtdeilfcoikmafaaW.PrintWords Go.Proofs.YtdeilfcoikmafaaW.PrintLast Go.Proofs.YtdeilfcoikmafaaW.PrintMore 
set_option linter.unusedVariables false
set_option linter.unusedSimpArgs false

theorem w64 {n : Int} (h0 : -9223372036854775808 ≤ n) (h1 : n ≤ 9223372036854775807) : wrap64 n = n := by unfold wrap64; omega
theorem wsucc (i : Nat) (h : i < 9223372036854775807) : wrap64 ((i : Int) + 1) = ((i + 1 : Nat) : Int) := by rw [w64 (by omega) (by omega)]; omega
theorem rd_nat (xs : List Int) (i : Nat) (h : i < xs.length) : rd xs (i : Int) = xs[i] := by simp [rd, h]
theorem rdOf_nat {α : Type} (d : α) (xs : List α) (i : Nat) (h : i < xs.length) : rdOf d xs (i : Int) = xs[i] := by simp [rdOf, h]
theorem Ev.pos {α : Type} {c : Prop} [Decidable c] {A B : Nat → Option α} {r : α} (h : c) (e : Ev A r) : Ev (fun k => if c then A k else B k) r := Ev.congr (fun _ => if_pos h) e
theorem Ev.neg {α : Type} {c : Prop} [Decidable c] {A B : Nat → Option α} {r : α} (h : ¬ c) (e : Ev B r) : Ev (fun k => if c then A k else B k) r := Ev.congr (fun _ => if_neg h) e
theorem Ev.bind' {α β : Type} {g : Nat → Option α} {f : Nat → α → Option β} {r : β} (a : α) (h : Ev g a) (k : Ev (fun n => f n a) r) : Ev (fun n => (g n).bind (f n)) r := Ev.bind h k
theorem Ev.some' {α β : Type} {a : α} {f : Nat → α → Option β} {r : β} (k : Ev (fun n => f n a) r) : Ev (fun n => (Option.some a).bind (f n)) r := Ev.bind (Ev.now a) k
theorem Ev.is {α : Type} {g : Nat → Option α} {r : α} (h : ∀ k, g k = some r) : Ev g r := ⟨0, fun k _ => h k⟩
theorem Ev.at1 {α : Type} {g : Nat → Option α} {r : α} (h : ∀ k, g (k + 1) = some r) : Ev g r := ⟨1, fun k hk => by obtain ⟨m, rfl⟩ : ∃ m, k = m + 1 := ⟨k - 1, by omega⟩; exact h m⟩
theorem Ev.at2 {α : Type} {g : Nat → Option α} {r : α} (h : ∀ k, g (k + 2) = some r) : Ev g r := ⟨2, fun k hk => by obtain ⟨m, rfl⟩ : ∃ m, k = m + 2 := ⟨k - 2, by omega⟩; exact h m⟩
theorem Ev.at3 {α : Type} {g : Nat → Option α} {r : α} (h : ∀ k, g (k + 3) = some r) : Ev g r := ⟨3, fun k hk => by obtain ⟨m, rfl⟩ : ∃ m, k = m + 3 := ⟨k - 3, by omega⟩; exact h m⟩
/-- What a loop over a list comes to: a state, a step that goes on or answers, an end. -/
def runE {α σ ρ : Type} (step : Nat → σ → α → Except ρ σ) (fin : σ → ρ) : Nat → List α → σ → ρ
  | _, [], s => fin s
  | i, x :: xs, s => match step i s x with
    | .error r => r
    | .ok s' => runE step fin (i + 1) xs s'
/-- A loop over a list, round by round (from K rounds on). -/
theorem loop_run {α σ ρ : Type} (xs : List α) (L : Nat → σ → Int → Option ρ) (step : Nat → σ → α → Except ρ σ) (fin : σ → ρ) (K : Nat)
    (hs : ∀ k, K ≤ k → ∀ s (i : Nat) (h : i < xs.length), L (k + 1) s i = match step i s xs[i] with | .error r => some r | .ok s' => L k s' ((i + 1 : Nat) : Int))
    (he : ∀ k s, L (k + 1) s (xs.length : Int) = some (fin s)) :
    ∀ (d k : Nat) (s : σ) (i : Nat), i ≤ xs.length → xs.length - i = d → d + K < k → L k s (i : Int) = some (runE step fin i (xs.drop i) s) := by
  intro d
  induction d with
  | zero =>
    intro k s i hi hd hk
    obtain ⟨k, rfl⟩ : ∃ m, k = m + 1 := ⟨k - 1, by omega⟩
    obtain rfl : i = xs.length := by omega
    rw [he, List.drop_length, runE]
  | succ d ih =>
    intro k s i hi hd hk
    obtain ⟨k, rfl⟩ : ∃ m, k = m + 1 := ⟨k - 1, by omega⟩
    have hlt : i < xs.length := by omega
    rw [hs k (by omega) s i hlt, List.drop_eq_getElem_cons hlt, runE]
    cases step i s xs[i] with
    | error r => rfl
    | ok s' => exact ih k s' (i + 1) (by omega) (by omega) (by omega)
/-- The same, from the start. -/
theorem loop_ev {α σ ρ : Type} (xs : List α) (L : Nat → σ → Int → Option ρ) (step : Nat → σ → α → Except ρ σ) (fin : σ → ρ) (K : Nat)
    (hs : ∀ k, K ≤ k → ∀ s (i : Nat) (h : i < xs.length), L (k + 1) s i = match step i s xs[i] with | .error r => some r | .ok s' => L k s' ((i + 1 : Nat) : Int))
    (he : ∀ k s, L (k + 1) s (xs.length : Int) = some (fin s)) (s : σ) : Ev (fun k => L k s 0) (runE step fin 0 xs s) :=
  ⟨xs.length + K + 1, fun k hk => by have := loop_run xs L step fin K hs he xs.length k s 0 (by omega) (by omega) (by omega); simpa using this⟩
theorem wf_b {n : Int} (h : (Lit.int .i64 n).wf = true) : -9223372036854775808 ≤ n ∧ n ≤ 9223372036854775807 := by
  simp [Lit.wf, IntKind.min, IntKind.max, IntKind.signed, IntKind.bits] at h
  omega
theorem Ev.ite {α : Type} {c : Prop} [Decidable c] {A B : Nat → Option α} {a b : α} (h1 : c → Ev A a) (h2 : ¬ c → Ev B b) : Ev (fun k => if c then A k else B k) (if c then a else b) := by
  by_cases h : c
  · rw [if_pos h]; exact Ev.pos h (h1 h)
  · rw [if_neg h]; exact Ev.neg h (h2 h)

theorem and255 (n : Int) : bits .and .i64 n 255 = n % 256 := by
  have h255 : (BitVec.ofInt 64 255).toNat = 2 ^ 8 - 1 := by decide
  have key : (BitVec.ofInt 64 n &&& BitVec.ofInt 64 255).toNat = (n % ((2 ^ 64 : Nat) : Int)).toNat % 2 ^ 8 := by
    rw [BitVec.toNat_and, BitVec.toNat_ofInt, h255, Nat.and_two_pow_sub_one_eq_mod]
  show IntKind.i64.wrap ((BitVec.ofInt 64 n &&& BitVec.ofInt 64 255).toNat : Nat) = n % 256
  rw [key, IntKind.wrap_i64]
  omega
/-- A place in the bytes. -/
def inCode (l : List Int) (i : Int) : Prop := 0 ≤ i ∧ i ≤ (l.length : Int)
theorem sByte (l : List Int) (hl : l.length ≤ 140737488351232) (i s : Int) (h : inCode l i) : ∃ b i' s', spec_l01Byte.f l i s = some (b, i', s') ∧ (0 ≤ b ∧ b ≤ 255) ∧ inCode l i' := by
  unfold inCode at *
  unfold spec_l01Byte.f
  by_cases hi : i < (l.length : Int)
  · rw [if_pos hi, if_pos h.1]
    refine ⟨_, _, _, rfl, ?_, ?_⟩
    · rw [and255]; omega
    · rw [w64 (by omega) (by omega)]; omega
  · rw [if_neg hi]
    refine ⟨_, _, _, rfl, ?_, h⟩
    rw [and255]; omega
theorem sBelow (l : List Int) (hl : l.length ≤ 140737488351232) (i s n : Int) (h : inCode l i) : ∃ b i' s', spec_l01Below.f l i s n = some (b, i', s') ∧ 0 ≤ b ∧ (0 < n → b < n) ∧ inCode l i' := by
  unfold spec_l01Below.f
  by_cases h0 : n ≤ 0
  · rw [if_pos h0]; exact ⟨0, i, s, rfl, by omega, fun e => by omega, h⟩
  rw [if_neg h0]
  by_cases h1 : n ≤ 256
  · rw [if_pos h1]
    obtain ⟨b, i1, s1, e, hb, hi⟩ := sByte l hl i s h
    rw [e, Option.bind_some, if_neg (by omega)]
    exact ⟨_, _, _, rfl, Int.tmod_nonneg _ hb.1, fun hn => Int.tmod_lt_of_pos _ hn, hi⟩
  · rw [if_neg h1]
    obtain ⟨b1, i1, s1, e1, hb1, hi1⟩ := sByte l hl i s h
    obtain ⟨b2, i2, s2, e2, hb2, hi2⟩ := sByte l hl i1 s1 hi1
    obtain ⟨b3, i3, s3, e3, hb3, hi3⟩ := sByte l hl i2 s2 hi2
    rw [e1, Option.bind_some, e2, Option.bind_some, e3, Option.bind_some, if_neg (by omega)]
    refine ⟨_, _, _, rfl, Int.tmod_nonneg _ ?_, fun hn => Int.tmod_lt_of_pos _ hn, hi3⟩
    dsimp only
    rw [w64 (n := b1 * 65536) (by omega) (by omega), w64 (n := b2 * 256) (by omega) (by omega), w64 (n := b1 * 65536 + b2 * 256) (by omega) (by omega), w64 (by omega) (by omega)]
    omega
theorem sNew (l : List Int) (hl : l.length ≤ 140737488351232) : ∃ s, Ev (fun k => spec_l01New.f k l) (l, 0, s) := by
  have key : ∀ (d i : Nat) (s : Int), i + d = 4000 → ∃ s', Ev (fun k => spec_l01New.l0 k l s (i : Int)) (l, 0, s') := by
    intro d
    induction d with
    | zero =>
      intro i s hi
      refine ⟨s, Ev.step (fun k => by rw [spec_l01New.l0]) ?_⟩
      by_cases h : (i : Int) < (l.length : Int)
      · exact Ev.pos h (Ev.neg (by omega) (Ev.now _))
      · exact Ev.neg h (Ev.now _)
    | succ d ih =>
      intro i s hi
      by_cases h : (i : Int) < (l.length : Int)
      · obtain ⟨s', e⟩ := ih (i + 1) (Go.bits .and .i64 (wrap64 ((wrap64 ((wrap64 (s * 149)) + (wrap64 (rd l (i : Int))))) + 11)) 1073741823) (by omega)
        refine ⟨s', Ev.step (fun k => by rw [spec_l01New.l0]) ?_⟩
        rw [wsucc i (by omega)]
        exact Ev.pos h (Ev.pos (by omega) (Ev.pos (by omega) e))
      · exact ⟨s, Ev.step (fun k => by rw [spec_l01New.l0]) (Ev.neg h (Ev.now _))⟩
  unfold spec_l01New.f
  exact key 4000 0 _ (by omega)
theorem sSize (l : List Int) (hl : l.length ≤ 140737488351232) (a : Int) (ha : 2 ≤ a) : ∃ t, spec_l01Size.f l a = some t ∧ 2 ≤ t ∧ t ≤ a := by
  unfold spec_l01Size.f
  rw [w64 (n := (l.length : Int) / 16) (by omega) (by omega), w64 (by omega) (by omega)]
  by_cases h : 2 + (l.length : Int) / 16 > a
  · rw [if_pos h]; exact ⟨a, rfl, ha, by omega⟩
  · rw [if_neg h]; exact ⟨_, rfl, by omega, by omega⟩

theorem sOnce (l : List Int) (hl : l.length ≤ 140737488351232) (i s n : Int) (h : inCode l i) : ∃ b i' s', spec_l01Once.f l i s n = some (b, i', s') ∧ inCode l i' := by
  unfold spec_l01Once.f
  obtain ⟨b, i1, s1, e, _, _, hi⟩ := sBelow l hl i s n h
  rw [e]
  exact ⟨_, _, _, rfl, hi⟩

theorem sPick (l : List Int) (hl : l.length ≤ 140737488351232) (i s : Int) (xs : List Int) (h : inCode l i) (hx : 0 < xs.length) : ∃ v i' s', spec_l01PickInt.f l i s xs = some (v, i', s') ∧ inCode l i' := by
  unfold spec_l01PickInt.f
  obtain ⟨b, i1, s1, e, h0, h1, hi⟩ := sBelow l hl i s (xs.length : Int) h
  rw [e, Option.bind_some, if_pos h0, if_pos (h1 (by omega))]
  exact ⟨_, _, _, rfl, hi⟩

theorem sDrawCfg (l : List Int) (hl : l.length ≤ 140737488351232) (i s : Int) (h : inCode l i) : ∃ a0 a1 a2 a3 a4 a5 a6 a7 a8 a9 a10 a11 a12 a13 i' s', spec_l04DrawConfig.f l i s = some (a0, a1, a2, a3, a4, a5, a6, a7, a8, a9, a10, a11, a12, a13, i', s') ∧ inCode l i' := by
  obtain ⟨b1, i1, s1, e1, _, _, h1⟩ := sBelow l hl i s 5 h
  obtain ⟨b2, i2, s2, e2, _, _, h2⟩ := sBelow l hl i1 s1 (wrap64 ((wrap64 (1 + b1)) + 1)) h1
  obtain ⟨b3, i3, s3, e3, h3⟩ := sPick l hl i2 s2 [5, 10, 30] h2 (by simp)
  obtain ⟨b4, i4, s4, e4, h4⟩ := sPick l hl i3 s3 [0, 40, 200] h3 (by simp)
  obtain ⟨b5, i5, s5, e5, h5⟩ := sPick l hl i4 s4 [0, 10, 50] h4 (by simp)
  obtain ⟨b6, i6, s6, e6, h6⟩ := sPick l hl i5 s5 [0, 7, 20] h5 (by simp)
  obtain ⟨b7, i7, s7, e7, h7⟩ := sPick l hl i6 s6 [0, 15, 60] h6 (by simp)
  obtain ⟨b8, i8, s8, e8, _, _, h8⟩ := sBelow l hl i7 s7 3 h7
  obtain ⟨b9, i9, s9, e9, _, _, h9⟩ := sBelow l hl i8 s8 9 h8
  obtain ⟨b10, i10, s10, e10, h10⟩ := sPick l hl i9 s9 [0, 20, 50, 100] h9 (by simp)
  obtain ⟨b11, i11, s11, e11, _, _, h11⟩ := sBelow l hl i10 s10 40 h10
  obtain ⟨b12, i12, s12, e12, _, _, h12⟩ := sBelow l hl i11 s11 4 h11
  obtain ⟨b13, i13, s13, e13, _, _, h13⟩ := sBelow l hl i12 s12 15 h12
  obtain ⟨b14, i14, s14, e14, _, _, h14⟩ := sBelow l hl i13 s13 20 h13
  refine ⟨b2, wrap64 (1 + b1), b3, b4, b5, b6, b7, wrap64 (1 + b8), wrap64 ((wrap64 (1 + b8)) * (wrap64 (1 + b9))), b10, wrap64 (10 + b11), wrap64 (1 + b12), wrap64 (1 + b13), wrap64 (1 + b14), i14, s14, ?_, h14⟩
  · unfold spec_l04DrawConfig.f spec_DefaultConfig.f
    simp only [Option.bind_some, e1, e2, e3, e4, e5, e6, e7, e8, e9, e10, e11, e12, e13, e14]
theorem sBend (l : List Int) (hl : l.length ≤ 140737488351232) (i s : Int) (a0 a1 a2 a3 a4 a5 a6 a7 a8 a9 a10 a11 a12 a13 : Int) (h : inCode l i) : ∃ r0 r1 r2 r3 r4 r5 r6 r7 r8 r9 r10 r11 r12 r13 i' s', spec_l04Bend.f l i s a0 a1 a2 a3 a4 a5 a6 a7 a8 a9 a10 a11 a12 a13 = some (r0, r1, r2, r3, r4, r5, r6, r7, r8, r9, r10, r11, r12, r13, i', s') ∧ inCode l i' := by
  obtain ⟨b1, i1, s1, e1, h0, hn, h1⟩ := sBelow l hl i s 14 h
  obtain ⟨b2, i2, s2, e2, h2⟩ := sPick l hl i1 s1 [-1, 0, 1, 12, 13, 20, 21, 100, 101, 1000000, 1000001, 1000000000, 1000000001] h1 (by simp)
  have hn' := hn (by omega)
  refine ⟨rd ([a0, a1, a2, a3, a4, a5, a6, a7, a8, a9, a10, a11, a12, a13].set b1.toNat b2) 0, rd ([a0, a1, a2, a3, a4, a5, a6, a7, a8, a9, a10, a11, a12, a13].set b1.toNat b2) 1, rd ([a0, a1, a2, a3, a4, a5, a6, a7, a8, a9, a10, a11, a12, a13].set b1.toNat b2) 2, rd ([a0, a1, a2, a3, a4, a5, a6, a7, a8, a9, a10, a11, a12, a13].set b1.toNat b2) 3, rd ([a0, a1, a2, a3, a4, a5, a6, a7, a8, a9, a10, a11, a12, a13].set b1.toNat b2) 4, rd ([a0, a1, a2, a3, a4, a5, a6, a7, a8, a9, a10, a11, a12, a13].set b1.toNat b2) 5, rd ([a0, a1, a2, a3, a4, a5, a6, a7, a8, a9, a10, a11, a12, a13].set b1.toNat b2) 6, rd ([a0, a1, a2, a3, a4, a5, a6, a7, a8, a9, a10, a11, a12, a13].set b1.toNat b2) 7, rd ([a0, a1, a2, a3, a4, a5, a6, a7, a8, a9, a10, a11, a12, a13].set b1.toNat b2) 8, rd ([a0, a1, a2, a3, a4, a5, a6, a7, a8, a9, a10, a11, a12, a13].set b1.toNat b2) 9, rd ([a0, a1, a2, a3, a4, a5, a6, a7, a8, a9, a10, a11, a12, a13].set b1.toNat b2) 10, rd ([a0, a1, a2, a3, a4, a5, a6, a7, a8, a9, a10, a11, a12, a13].set b1.toNat b2) 11, rd ([a0, a1, a2, a3, a4, a5, a6, a7, a8, a9, a10, a11, a12, a13].set b1.toNat b2) 12, rd ([a0, a1, a2, a3, a4, a5, a6, a7, a8, a9, a10, a11, a12, a13].set b1.toNat b2) 13, i2, s2, ?_, h2⟩
  · unfold spec_l04Bend.f spec_l04Values.f spec_l04Of.f
    rw [Option.bind_some, e1, Option.bind_some, e2, Option.bind_some, if_pos h0, if_pos (by simpa using hn')]
    simp only [List.length_set, List.length_cons, List.length_nil]
    rfl
theorem sDraw (l : List Int) (hl : l.length ≤ 140737488351232) (i s : Int) (h : inCode l i) : ∃ a0 a1 a2 a3 a4 a5 a6 a7 a8 a9 a10 a11 a12 a13 i' s', spec_l04Draw.f l i s = some (a0, a1, a2, a3, a4, a5, a6, a7, a8, a9, a10, a11, a12, a13, i', s') ∧ inCode l i' := by
  obtain ⟨c0, c1, c2, c3, c4, c5, c6, c7, c8, c9, c10, c11, c12, c13, i1, s1, e1, h1⟩ := sDrawCfg l hl i s h
  obtain ⟨o, i2, s2, e2, h2⟩ := sOnce l hl i1 s1 8 h1
  by_cases ho : o = true
  · obtain ⟨r0, r1, r2, r3, r4, r5, r6, r7, r8, r9, r10, r11, r12, r13, i3, s3, e3, h3⟩ := sBend l hl i2 s2 c0 c1 c2 c3 c4 c5 c6 c7 c8 c9 c10 c11 c12 c13 h2
    refine ⟨r0, r1, r2, r3, r4, r5, r6, r7, r8, r9, r10, r11, r12, r13, i3, s3, ?_, h3⟩
    unfold spec_l04Draw.f
    simp only [e1, Option.bind_some, e2, ho, if_true, e3]
  · refine ⟨c0, c1, c2, c3, c4, c5, c6, c7, c8, c9, c10, c11, c12, c13, i2, s2, ?_, h2⟩
    unfold spec_l04Draw.f
    simp only [e1, Option.bind_some, e2]
    rw [if_neg ho]

theorem sDrawRed_l0 (l : List Int) (hl : l.length ≤ 140737488351232) (a0 a1 a2 a3 a4 a5 a6 a7 a8 a9 a10 a11 a12 a13 : Int) : ∀ (d i : Nat) (out : List Int) (n p s : Int), (i : Int) + d = n → n ≤ 400 → out.length = i → inCode l p → ∃ xs, Ev (fun k => spec_DrawRedials.l0 k out n (i : Int) l p s a0 a1 a2 a3 a4 a5 a6 a7 a8 a9 a10 a11 a12 a13) (a0, a1, a2, a3, a4, a5, a6, a7, a8, a9, a10, a11, a12, a13, xs) ∧ (xs.length : Int) = n := by
  intro d
  induction d with
  | zero =>
    intro i out n p s hi hn ho hp
    exact ⟨out, Ev.step (fun k => by rw [spec_DrawRedials.l0]) (Ev.neg (by omega) (Ev.now _)), by omega⟩
  | succ d ih =>
    intro i out n p s hi hn ho hp
    obtain ⟨v, p1, s1, e1, _, _, hp1⟩ := sBelow l hl p s 1100 hp
    obtain ⟨xs, hx, hn'⟩ := ih (i + 1) (out ++ [wrap64 (v - 20)]) n p1 s1 (by omega) hn (by simp [ho]) hp1
    rw [← wsucc i (by omega)] at hx
    exact ⟨xs, Ev.step (fun k => by rw [spec_DrawRedials.l0]) (Ev.pos (by omega) (Ev.bind' _ (Ev.is fun _ => e1) (Ev.pos (show out.length < 17592186044416 by omega) hx))), hn'⟩
theorem sDrawRed (l : List Int) (hl : l.length ≤ 140737488351232) : ∃ a0 a1 a2 a3 a4 a5 a6 a7 a8 a9 a10 a11 a12 a13 xs, Ev (fun k => spec_DrawRedials.f k l) (a0, a1, a2, a3, a4, a5, a6, a7, a8, a9, a10, a11, a12, a13, xs) ∧ xs.length ≤ 400 := by
  obtain ⟨s0, e0⟩ := sNew l hl
  obtain ⟨t, et, ht, ht'⟩ := sSize l hl 20 (by omega)
  have h0 : inCode l 0 := ⟨by omega, by omega⟩
  obtain ⟨c0, c1, c2, c3, c4, c5, c6, c7, c8, c9, c10, c11, c12, c13, p0, q0, ec, hp0⟩ := sDraw l hl 0 s0 h0
  obtain ⟨n, p1, s1, e1, hn0, hn1, hp1⟩ := sBelow l hl p0 q0 t hp0
  obtain ⟨o, p2, s2, e2, hp2⟩ := sOnce l hl p1 s1 40 hp1
  by_cases h : o = true
  · obtain ⟨m, p3, s3, e3, hm0, hm1, hp3⟩ := sBelow l hl p2 s2 2 hp2
    have hm2 := hm1 (by omega)
    obtain ⟨xs, hr, hn'⟩ := sDrawRed_l0 l hl c0 c1 c2 c3 c4 c5 c6 1000000 1000000 c9 c10 c11 c12 c13 (300 + m).toNat 0 [] (300 + m) p3 s3 (by omega) (by omega) rfl hp3
    refine ⟨c0, c1, c2, c3, c4, c5, c6, 1000000, 1000000, c9, c10, c11, c12, c13, xs, ?_, by omega⟩
    unfold spec_DrawRedials.f
    refine Ev.bind' _ e0 (Ev.bind' _ (Ev.is fun _ => ec) (Ev.some' (Ev.bind' _ (Ev.is fun _ => et) (Ev.bind' _ (Ev.is fun _ => e1) (Ev.bind' _ (Ev.is fun _ => e2) (Ev.pos h (Ev.bind' _ (Ev.is fun _ => e3) ?_)))))))
    refine Ev.step (fun k => by rw [spec_DrawRedials.j0]) ?_
    rw [w64 (by omega) (by omega)]
    exact hr
  · have hn2 := hn1 (by omega)
    obtain ⟨xs, hr, hn'⟩ := sDrawRed_l0 l hl c0 c1 c2 c3 c4 c5 c6 c7 c8 c9 c10 c11 c12 c13 n.toNat 0 [] n p2 s2 (by omega) (by omega) rfl hp2
    refine ⟨c0, c1, c2, c3, c4, c5, c6, c7, c8, c9, c10, c11, c12, c13, xs, ?_, by omega⟩
    unfold spec_DrawRedials.f
    refine Ev.bind' _ e0 (Ev.bind' _ (Ev.is fun _ => ec) (Ev.some' (Ev.bind' _ (Ev.is fun _ => et) (Ev.bind' _ (Ev.is fun _ => e1) (Ev.bind' _ (Ev.is fun _ => e2) (Ev.neg h ?_))))))
    refine Ev.step (fun k => by rw [spec_DrawRedials.j0]) ?_
    exact hr

theorem lawBig (l : List Int) : laws_big.f l = some (decide ((l.length : Int) > 1048576)) := rfl

theorem lawAt (l : List Int) (hl : l.length ≤ 1048576) (hw : ∀ x ∈ l, (Lit.int .u8 x).wf = true) (a : Int) (h0 : 0 ≤ a) (h1 : a ≤ 1048576) : ∃ t, laws_at.f l a = some t ∧ 0 ≤ t ∧ t ≤ 255 := by
  unfold laws_at.f
  by_cases h : a < (l.length : Int)
  · rw [if_pos h, if_pos h0]
    have e : rd l a = l[a.toNat]'(by omega) := by
      have := rd_nat l a.toNat (by omega)
      rwa [show ((a.toNat : Nat) : Int) = a by omega] at this
    have hx := hw _ (List.getElem_mem (show a.toNat < l.length by omega))
    simp [Lit.wf, IntKind.min, IntKind.max, IntKind.signed, IntKind.bits] at hx
    rw [e]
    refine ⟨_, rfl, ?_⟩
    rw [w64 (by omega) (by omega)]
    omega
  · rw [if_neg h, w64 (n := a * 13) (by omega) (by omega), w64 (n := (l.length : Int) * 5) (by omega) (by omega), w64 (by omega) (by omega)]
    refine ⟨_, rfl, Int.tmod_nonneg _ (by omega), ?_⟩
    have := Int.tmod_lt_of_pos (a * 13 + (l.length : Int) * 5) (show (0 : Int) < 256 by omega)
    omega

def configOk (a0 a1 a2 a3 a4 a5 a6 a7 a8 a9 a10 a11 a12 a13 : Int) : Bool := decide ((1 ≤ a1 ∧ a1 ≤ 12) ∧ (0 ≤ a0 ∧ a0 ≤ a1) ∧ (0 ≤ a2 ∧ a2 ≤ 1000000000) ∧ (a2 ≠ 0) ∧ (0 ≤ a3 ∧ a3 ≤ 1000000000) ∧ (0 ≤ a4 ∧ a4 ≤ 1000000000) ∧ (0 ≤ a5 ∧ a5 ≤ 1000000000) ∧ (0 ≤ a6 ∧ a6 ≤ 1000000000) ∧ (0 ≤ a13 ∧ a13 ≤ 1000000000) ∧ (a13 ≠ 0) ∧
  (1 ≤ a8 ∧ a8 ≤ 1000000) ∧ (1 ≤ a7 ∧ a7 ≤ a8) ∧ (0 ≤ a9 ∧ a9 ≤ 100) ∧ (1 ≤ a10 ∧ a10 ≤ 1000000) ∧ (1 ≤ a11 ∧ a11 ≤ 20) ∧ (1 ≤ a12 ∧ a12 ≤ 1000000))

/-- How long a wait becomes in so many doublings, as far as the cap. -/
def dbl (c : Int) : Nat → Int → Int
  | 0, w => w
  | m + 1, w => if w < c then dbl c m (2 * w) else w
def fullW (b c n : Int) : Int := if n < 0 then -1 else if n = 0 then 0 else if c < dbl c (n - 1).toNat b then c else dbl c (n - 1).toNat b
def fullWait (a0 a1 a2 a3 a4 a5 a6 a7 a8 a9 a10 a11 a12 a13 : Int) (n : Int) : Int := if configOk a0 a1 a2 a3 a4 a5 a6 a7 a8 a9 a10 a11 a12 a13 = true then fullW a7 a8 n else -1
theorem dbl_done (c : Int) (m : Nat) (w : Int) (h : ¬ w < c) : dbl c m w = w := by cases m <;> simp [dbl, h]
theorem cfg_bounds (a0 a1 a2 a3 a4 a5 a6 a7 a8 a9 a10 a11 a12 a13 : Int) (h : configOk a0 a1 a2 a3 a4 a5 a6 a7 a8 a9 a10 a11 a12 a13 = true) : 1 ≤ a7 ∧ a7 ≤ a8 ∧ a8 ≤ 1000000 ∧ 0 ≤ a9 ∧ a9 ≤ 100 := by
  unfold configOk at h
  simp only [decide_eq_true_eq] at h
  omega

def cutW (full j : Int) : Int := wrap64 (Int.tdiv (wrap64 (full * j)) 100)
def leastWait (a0 a1 a2 a3 a4 a5 a6 a7 a8 a9 a10 a11 a12 a13 : Int) (n : Int) : Int := if fullWait a0 a1 a2 a3 a4 a5 a6 a7 a8 a9 a10 a11 a12 a13 n < 0 then -1 else wrap64 (fullWait a0 a1 a2 a3 a4 a5 a6 a7 a8 a9 a10 a11 a12 a13 n - cutW (fullWait a0 a1 a2 a3 a4 a5 a6 a7 a8 a9 a10 a11 a12 a13 n) a9)
def jitWait (a0 a1 a2 a3 a4 a5 a6 a7 a8 a9 a10 a11 a12 a13 : Int) (n draw : Int) : Int := if fullWait a0 a1 a2 a3 a4 a5 a6 a7 a8 a9 a10 a11 a12 a13 n < 0 then -1 else wrap64 (fullWait a0 a1 a2 a3 a4 a5 a6 a7 a8 a9 a10 a11 a12 a13 n - wrap64 (Int.tdiv (wrap64 (cutW (fullWait a0 a1 a2 a3 a4 a5 a6 a7 a8 a9 a10 a11 a12 a13 n) a9 * ((if 0 < draw then draw else 0) % 1001))) 1000))
theorem dbl_pos (c : Int) (m : Nat) (w : Int) (h : 1 ≤ w) : 1 ≤ dbl c m w := by
  induction m generalizing w with
  | zero => simpa [dbl] using h
  | succ m ih =>
    rw [dbl]
    split
    · exact ih _ (by omega)
    · exact h
theorem full_neg (a0 a1 a2 a3 a4 a5 a6 a7 a8 a9 a10 a11 a12 a13 : Int) (n : Int) : fullWait a0 a1 a2 a3 a4 a5 a6 a7 a8 a9 a10 a11 a12 a13 n < 0 ↔ ¬ (configOk a0 a1 a2 a3 a4 a5 a6 a7 a8 a9 a10 a11 a12 a13 = true ∧ 0 ≤ n) := by
  unfold fullWait fullW
  by_cases h : configOk a0 a1 a2 a3 a4 a5 a6 a7 a8 a9 a10 a11 a12 a13 = true
  · rw [if_pos h]
    obtain ⟨h7, h78, _, _, _⟩ := cfg_bounds a0 a1 a2 a3 a4 a5 a6 a7 a8 a9 a10 a11 a12 a13 h
    have := dbl_pos a8 (n - 1).toNat a7 h7
    by_cases h1 : n < 0
    · rw [if_pos h1]; simp [h]; omega
    · rw [if_neg h1]
      by_cases h2 : n = 0
      · rw [if_pos h2]; simp [h]; omega
      · rw [if_neg h2]
        simp only [h, true_and]
        split <;> omega
  · rw [if_neg h]; simp [h]

def stepsFrom (b c : Int) : Nat → Int → Int
  | 0, i => i
  | d + 1, i => if fullW b c i < c then stepsFrom b c d (i + 1) else i
def steps (a0 a1 a2 a3 a4 a5 a6 a7 a8 a9 a10 a11 a12 a13 : Int) : Int := if configOk a0 a1 a2 a3 a4 a5 a6 a7 a8 a9 a10 a11 a12 a13 = true then stepsFrom a7 a8 20 1 else -1
theorem dbl_ge (c : Int) (m : Nat) (w : Int) (h : c ≤ w * 2 ^ m) : c ≤ dbl c m w := by
  induction m generalizing w with
  | zero => simpa [dbl] using h
  | succ m ih =>
    rw [dbl]
    split
    · exact ih _ (by rw [Int.mul_comm 2 w, Int.mul_assoc, Int.mul_comm 2, ← Int.pow_succ]; exact h)
    · omega
theorem full_le (b c n : Int) (hn : 1 ≤ n) : fullW b c n ≤ c := by
  unfold fullW
  rw [if_neg (by omega), if_neg (by omega)]
  split <;> omega
theorem full_21 (b c : Int) (hb : 1 ≤ b) (hc : c ≤ 1000000) : fullW b c 21 = c := by
  have h := dbl_ge c 20 b (by omega)
  unfold fullW
  rw [if_neg (by omega), if_neg (by omega)]
  have e : ((21 : Int) - 1).toNat = 20 := rfl
  rw [e]
  split <;> omega
theorem steps_ge (b c : Int) : ∀ (d : Nat) (i : Int), i ≤ stepsFrom b c d i
  | 0, i => by rw [stepsFrom]; omega
  | d + 1, i => by
    rw [stepsFrom]
    split
    · have := steps_ge b c d (i + 1); omega
    · omega

def capTick (s : Int) : Int := if 1000000000 < s then 1000000000 else s
def wsum (b c n : Int) : Nat → Int → Int → Int
  | 0, s, i => if i ≤ n then capTick (wrap64 (s + wrap64 (wrap64 (wrap64 (n - i) + 1) * c))) else capTick s
  | d + 1, s, i => if i ≤ n then (if fullW b c i = c then capTick (wrap64 (s + wrap64 (wrap64 (wrap64 (n - i) + 1) * c))) else wsum b c n d (wrap64 (s + fullW b c i)) (i + 1)) else capTick s
def waitSum (a0 a1 a2 a3 a4 a5 a6 a7 a8 a9 a10 a11 a12 a13 : Int) (n : Int) : Int := if configOk a0 a1 a2 a3 a4 a5 a6 a7 a8 a9 a10 a11 a12 a13 = true ∧ (0 ≤ n ∧ n ≤ 1000000000) then wsum a7 a8 n 20 0 1 else -1

def addTick (t d : Int) : Int := if (0 ≤ t ∧ t ≤ 1000000000) ∧ (-1000000000 ≤ d ∧ d ≤ 1000000000) then (if t + d > 1000000000 then 1000000000 else if t + d < 0 then 0 else t + d) else -1

def redStep (a0 a1 a2 a3 a4 a5 a6 a7 a8 a9 a10 a11 a12 a13 : Int) (i : Nat) (out : List Int) (x : Int) : Except (List Int) (List Int) := .ok (out ++ [addTick (rd out i) (jitWait a0 a1 a2 a3 a4 a5 a6 a7 a8 a9 a10 a11 a12 a13 ((i + 1 : Nat) : Int) x)])
def redials (a0 a1 a2 a3 a4 a5 a6 a7 a8 a9 a10 a11 a12 a13 : Int) (xs : List Int) : List Int := if configOk a0 a1 a2 a3 a4 a5 a6 a7 a8 a9 a10 a11 a12 a13 = true ∧ xs.length ≤ 300 then runE (redStep a0 a1 a2 a3 a4 a5 a6 a7 a8 a9 a10 a11 a12 a13) id 0 xs [0] else []
theorem rd_last (out : List Int) (x : Int) (i : Nat) (h : out.length = i) : rd (out ++ [x]) (i : Int) = x := by
  subst h
  simp [rd]
theorem redials_len (a0 a1 a2 a3 a4 a5 a6 a7 a8 a9 a10 a11 a12 a13 : Int) : ∀ (xs : List Int) (i : Nat) (out : List Int), (runE (redStep a0 a1 a2 a3 a4 a5 a6 a7 a8 a9 a10 a11 a12 a13) id i xs out).length = out.length + xs.length
  | [], i, out => by simp [runE]
  | x :: xs, i, out => by
    rw [runE]
    simp only [redStep]
    have := redials_len a0 a1 a2 a3 a4 a5 a6 a7 a8 a9 a10 a11 a12 a13 xs (i + 1) (out ++ [addTick (rd out i) (jitWait a0 a1 a2 a3 a4 a5 a6 a7 a8 a9 a10 a11 a12 a13 ((i + 1 : Nat) : Int) x)])
    rw [this]
    simp
    omega

theorem dbl_succ (c : Int) : ∀ (m : Nat) (w : Int), dbl c (m + 1) w = if dbl c m w < c then 2 * dbl c m w else dbl c m w
  | 0, w => by
    rw [dbl]
    by_cases h : w < c <;> simp [dbl, h]
  | m + 1, w => by
    rw [dbl]
    by_cases h : w < c
    · rw [if_pos h, dbl_succ c m (2 * w)]
      have e : dbl c (m + 1) w = dbl c m (2 * w) := by rw [dbl, if_pos h]
      rw [e]
    · rw [if_neg h, dbl_done c (m + 1) w h, if_neg h]
theorem full_step (b c n : Int) (hb : 1 ≤ b) (hc : b ≤ c) (hn : 1 ≤ n) : 1 ≤ fullW b c n ∧ fullW b c n ≤ c ∧ (fullW b c n < c → fullW b c (n + 1) = if c < 2 * fullW b c n then c else 2 * fullW b c n) ∧ (¬ fullW b c n < c → fullW b c n = c ∧ fullW b c (n + 1) = c) := by
  obtain ⟨m, hm⟩ : ∃ m : Nat, (n - 1).toNat = m := ⟨_, rfl⟩
  have hm1 : (n + 1 - 1).toNat = m + 1 := by omega
  have hp := dbl_pos c m b hb
  have hs := dbl_succ c m b
  unfold fullW
  rw [if_neg (show ¬ n < 0 by omega), if_neg (show ¬ n = 0 by omega), if_neg (show ¬ n + 1 < 0 by omega), if_neg (show ¬ n + 1 = 0 by omega), hm, hm1, hs]
  generalize dbl c m b = D at hp ⊢
  refine ⟨?_, ?_, ?_, ?_⟩
  all_goals (repeat' split)
  all_goals (try intro h)
  all_goals (try intro h')
  all_goals omega
theorem full_mono (b c : Int) (hb : 1 ≤ b) (hc : b ≤ c) (n : Int) (hn : 1 ≤ n) : ∀ d : Nat, fullW b c n ≤ fullW b c (n + d)
  | 0 => by simp
  | d + 1 => by
    have h1 := full_mono b c hb hc n hn d
    have h2 := full_step b c (n + d) hb hc (by omega)
    have e : n + ((d + 1 : Nat) : Int) = n + d + 1 := by omega
    rw [e]
    by_cases h : fullW b c (n + d) < c
    · rw [h2.2.2.1 h]
      split <;> omega
    · have := h2.2.2.2 h
      omega
theorem steps_first (b c : Int) : ∀ (d : Nat) (i : Int), (∀ j, i ≤ j → j < stepsFrom b c d i → fullW b c j < c) ∧ (stepsFrom b c d i = i + d ∨ ¬ fullW b c (stepsFrom b c d i) < c) ∧ stepsFrom b c d i ≤ i + d
  | 0, i => by
    rw [stepsFrom]
    exact ⟨fun j h1 h2 => by omega, .inl (by simp), by simp⟩
  | d + 1, i => by
    rw [stepsFrom]
    by_cases h : fullW b c i < c
    · rw [if_pos h]
      obtain ⟨h1, h2, h3⟩ := steps_first b c d (i + 1)
      refine ⟨fun j hj1 hj2 => ?_, ?_, by omega⟩
      · by_cases e : j = i
        · rw [e]; exact h
        · exact h1 j (by omega) hj2
      · rcases h2 with e | e
        · exact .inl (by omega)
        · exact .inr e
    · rw [if_neg h]
      exact ⟨fun j h1 h2 => by omega, .inr h, by omega⟩
theorem steps_iff (b c : Int) (hb : 1 ≤ b) (hc : b ≤ c) (hc2 : c ≤ 1000000) (n : Int) (hn : 1 ≤ n) : fullW b c n = c ↔ stepsFrom b c 20 1 ≤ n := by
  obtain ⟨h1, h2, h3⟩ := steps_first b c 20 1
  have hg := steps_ge b c 20 1
  have hs : fullW b c (stepsFrom b c 20 1) = c := by
    have hle := full_le b c (stepsFrom b c 20 1) hg
    rcases h2 with e | e
    · rw [e]; exact full_21 b c hb hc2
    · omega
  constructor
  · intro h
    by_cases hlt : n < stepsFrom b c 20 1
    · have := h1 n hn hlt
      omega
    · omega
  · intro h
    have hm := full_mono b c hb hc (stepsFrom b c 20 1) hg (n - stepsFrom b c 20 1).toNat
    have hle := full_le b c n hn
    rw [show stepsFrom b c 20 1 + ((n - stepsFrom b c 20 1).toNat : Int) = n by omega] at hm
    omega
def sumF (b c : Int) : Nat → Int → Int
  | 0, _ => 0
  | m + 1, i => fullW b c i + sumF b c m (i + 1)
theorem sumF_snoc (b c : Int) : ∀ (m : Nat) (i : Int), sumF b c (m + 1) i = sumF b c m i + fullW b c (i + m)
  | 0, i => by simp [sumF]
  | m + 1, i => by
    rw [sumF, sumF_snoc b c m (i + 1), sumF]
    have e : i + 1 + (m : Int) = i + ((m + 1 : Nat) : Int) := by omega
    rw [e]
    omega
theorem sumF_cap (b c : Int) (hb : 1 ≤ b) (hc : b ≤ c) : ∀ (m : Nat) (i : Int), 1 ≤ i → fullW b c i = c → sumF b c m i = m * c
  | 0, i, _, _ => by simp [sumF]
  | m + 1, i, hi, h => by
    have h2 := full_step b c i hb hc hi
    have h3 := (h2.2.2.2 (by omega)).2
    rw [sumF, sumF_cap b c hb hc m (i + 1) (by omega) h3, h]
    have : ((m + 1 : Nat) : Int) * c = m * c + c := by rw [Int.natCast_add, Int.add_mul]; simp
    omega
theorem sumF_bound (b c : Int) (hb : 1 ≤ b) (hc : b ≤ c) (hc2 : c ≤ 1000000) : ∀ (m : Nat) (i : Int), 1 ≤ i → 0 ≤ sumF b c m i ∧ sumF b c m i ≤ m * 1000000
  | 0, i, _ => by simp [sumF]
  | m + 1, i, hi => by
    have h1 := full_step b c i hb hc hi
    have h2 := full_le b c i hi
    have h3 := sumF_bound b c hb hc hc2 m (i + 1) (by omega)
    rw [sumF]
    omega
theorem wsum_sum (b c n : Int) (hb : 1 ≤ b) (hc : b ≤ c) (hc2 : c ≤ 1000000) (hn : n ≤ 12) : ∀ (d : Nat) (s i : Int), i + d = 21 → 1 ≤ i → 0 ≤ s → s ≤ 1000000 * i → wsum b c n d s i = s + sumF b c (n - i + 1).toNat i
  | 0, s, i, hi, h1, hs, hs2 => by
    rw [wsum, if_neg (by omega)]
    have e : (n - i + 1).toNat = 0 := by omega
    rw [e, sumF]
    unfold capTick
    rw [if_neg (by omega)]
    omega
  | d + 1, s, i, hi, h1, hs, hs2 => by
    have hd : i + (d : Int) = 20 := by omega
    rw [wsum]
    by_cases h : i ≤ n
    · rw [if_pos h]
      obtain ⟨m, hm⟩ : ∃ m : Nat, (n - i + 1).toNat = m + 1 := ⟨(n - i).toNat, by omega⟩
      by_cases hf : fullW b c i = c
      · rw [if_pos hf, sumF_cap b c hb hc _ i h1 hf]
        have hmm : ((n - i + 1).toNat : Int) = n - i + 1 := by omega
        rw [hmm, w64 (n := n - i) (by omega) (by omega), w64 (n := n - i + 1) (by omega) (by omega)]
        have hk0 : 0 ≤ (n - i + 1) * c := Int.mul_nonneg (by omega) (by omega)
        have hk1 : (n - i + 1) * c ≤ 12 * 1000000 := Int.mul_le_mul (by omega) (by omega) (by omega) (by omega)
        rw [w64 (n := (n - i + 1) * c) (by omega) (by omega), w64 (n := s + (n - i + 1) * c) (by omega) (by omega)]
        unfold capTick
        rw [if_neg (by omega)]
      · have hb1 := full_step b c i hb hc h1
        have hb2 := full_le b c i h1
        rw [if_neg hf, w64 (n := s + fullW b c i) (by omega) (by omega), wsum_sum b c n hb hc hc2 hn d (s + fullW b c i) (i + 1) (by omega) (by omega) (by omega) (by omega), hm, sumF]
        have e : (n - (i + 1) + 1).toNat = m := by omega
        rw [e]
        omega
    · rw [if_neg h]
      have e : (n - i + 1).toNat = 0 := by omega
      rw [e, sumF]
      unfold capTick
      rw [if_neg (by omega)]
      omega

theorem sIn (a b c : Int) : spec_l01In.f a b c = some (decide (b ≤ a ∧ a ≤ c)) := by
  unfold spec_l01In.f; by_cases h : b ≤ a <;> simp [h]

theorem sTick (a : Int) : spec_TickOk.f a = some (decide (0 ≤ a ∧ a ≤ 1000000000)) := by unfold spec_TickOk.f; rw [sIn]; rfl

theorem sConfigOk (k : Nat) (a0 a1 a2 a3 a4 a5 a6 a7 a8 a9 a10 a11 a12 a13 : Int) : spec_ConfigOk.f (k + 2) a0 a1 a2 a3 a4 a5 a6 a7 a8 a9 a10 a11 a12 a13 = some (configOk a0 a1 a2 a3 a4 a5 a6 a7 a8 a9 a10 a11 a12 a13) := by
  unfold spec_ConfigOk.f configOk
  simp only [sTick, sIn, Option.bind_some]
  by_cases h1 : 1 ≤ a1 ∧ a1 ≤ 12
  case neg => simp [h1, spec_ConfigOk.j0]
  by_cases h2 : 0 ≤ a0 ∧ a0 ≤ a1
  case neg => simp [h1, h2, spec_ConfigOk.j0]
  simp only [h1, h2, and_self, decide_true, if_true, Bool.not_true, spec_ConfigOk.j0, sTick, Option.bind_some, Bool.false_eq_true, if_false, true_and]
  clear h1 h2
  by_cases h3 : 0 ≤ a2 ∧ a2 ≤ 1000000000
  case neg => simp [h3, spec_ConfigOk.j1]
  by_cases h4 : a2 = 0
  case pos => subst h4; simp [spec_ConfigOk.j1]
  by_cases h5 : 0 ≤ a3 ∧ a3 ≤ 1000000000
  case neg => simp [h3, h4, h5, spec_ConfigOk.j1]
  by_cases h6 : 0 ≤ a4 ∧ a4 ≤ 1000000000
  case neg => simp [h3, h4, h5, h6, spec_ConfigOk.j1]
  by_cases h7 : 0 ≤ a5 ∧ a5 ≤ 1000000000
  case neg => simp [h3, h4, h5, h6, h7, spec_ConfigOk.j1]
  by_cases h8 : 0 ≤ a6 ∧ a6 ≤ 1000000000
  case neg => simp [h3, h4, h5, h6, h7, h8, spec_ConfigOk.j1]
  by_cases h9 : 0 ≤ a13 ∧ a13 ≤ 1000000000
  case neg => simp [h3, h4, h5, h6, h7, h8, h9, spec_ConfigOk.j1]
  by_cases h10 : a13 = 0
  case pos => subst h10; simp [h3, h4, h5, h6, h7, h8, spec_ConfigOk.j1]
  simp only [h3, h4, h5, h6, h7, h8, h9, h10, and_self, decide_true, if_true, if_false, beq_eq_false_iff_ne.mpr h10, Bool.false_eq_true, spec_ConfigOk.j1, sIn, Option.bind_some, ne_eq, not_false_eq_true, true_and]
  by_cases g1 : 1 ≤ a8 ∧ a8 ≤ 1000000
  case neg => simp [g1]
  by_cases g2 : 1 ≤ a7 ∧ a7 ≤ a8
  case neg => simp [g1, g2]
  by_cases g3 : 0 ≤ a9 ∧ a9 ≤ 100
  case neg => simp [g1, g2, g3]
  by_cases g4 : 1 ≤ a10 ∧ a10 ≤ 1000000
  case neg => simp [g1, g2, g3, g4]
  by_cases g5 : 1 ≤ a11 ∧ a11 ≤ 20
  case neg => simp [g1, g2, g3, g4, g5]
  simp [g1, g2, g3, g4, g5]
theorem sConfigOk_ev (a0 a1 a2 a3 a4 a5 a6 a7 a8 a9 a10 a11 a12 a13 : Int) : Ev (fun k => spec_ConfigOk.f k a0 a1 a2 a3 a4 a5 a6 a7 a8 a9 a10 a11 a12 a13) (configOk a0 a1 a2 a3 a4 a5 a6 a7 a8 a9 a10 a11 a12 a13) := Ev.at2 (fun k => sConfigOk k a0 a1 a2 a3 a4 a5 a6 a7 a8 a9 a10 a11 a12 a13)

theorem sFull_l0 (a0 a1 a2 a3 a4 a5 a6 a7 a8 a9 a10 a11 a12 a13 : Int) (h8 : a8 ≤ 1000000) (n : Int) (hn : n ≤ 9223372036854775807) : ∀ (d k : Nat) (w i : Int), 1 ≤ i → i ≤ n → 1 ≤ w → w ≤ 2000000 → a8 ≤ w * 2 ^ d → d < k → spec_FullWait.l0 k n w i a0 a1 a2 a3 a4 a5 a6 a7 a8 a9 a10 a11 a12 a13 = some (if a8 < dbl a8 (n - i).toNat w then a8 else dbl a8 (n - i).toNat w) := by
  intro d
  induction d with
  | zero =>
    intro k w i hi hin hw hw2 hd hk
    obtain ⟨k, rfl⟩ : ∃ m, k = m + 1 := ⟨k - 1, by omega⟩
    have hc : ¬ w < a8 := by simp at hd; omega
    simp only [spec_FullWait.l0]
    rw [dbl_done _ _ _ hc, if_neg hc]
    simp only [gt_iff_lt, ite_self]
    split <;> rfl
  | succ d ih =>
    intro k w i hi hin hw hw2 hd hk
    obtain ⟨k, rfl⟩ : ∃ m, k = m + 1 := ⟨k - 1, by omega⟩
    simp only [spec_FullWait.l0]
    by_cases h1 : i < n
    · by_cases h2 : w < a8
      · rw [if_pos h1, if_pos h2, w64 (by omega) (by omega), w64 (by omega) (by omega), ih k (2 * w) (i + 1) (by omega) (by omega) (by omega) (by omega) (by rw [Int.mul_comm 2 w, Int.mul_assoc, Int.mul_comm 2, ← Int.pow_succ]; exact hd) (by omega)]
        obtain ⟨m, hm⟩ : ∃ m : Nat, (n - i).toNat = m + 1 := ⟨(n - i).toNat - 1, by omega⟩
        have hm2 : (n - (i + 1)).toNat = m := by omega
        rw [hm, hm2, dbl, if_pos h2]
      · rw [if_pos h1, if_neg h2, dbl_done _ _ _ h2]
        simp only [gt_iff_lt]
        split <;> rfl
    · rw [if_neg h1]
      have hm : (n - i).toNat = 0 := by omega
      rw [hm, dbl]
      simp only [gt_iff_lt]
      split <;> rfl
theorem sFull (a0 a1 a2 a3 a4 a5 a6 a7 a8 a9 a10 a11 a12 a13 : Int) (n : Int) (hn : n ≤ 9223372036854775807) (k : Nat) (hk : 30 ≤ k) : spec_FullWait.f k a0 a1 a2 a3 a4 a5 a6 a7 a8 a9 a10 a11 a12 a13 n = some (fullWait a0 a1 a2 a3 a4 a5 a6 a7 a8 a9 a10 a11 a12 a13 n) := by
  obtain ⟨k, rfl⟩ : ∃ m, k = m + 2 := ⟨k - 2, by omega⟩
  unfold spec_FullWait.f fullWait
  rw [sConfigOk, Option.bind_some]
  simp only [spec_FullWait.j0]
  by_cases h : configOk a0 a1 a2 a3 a4 a5 a6 a7 a8 a9 a10 a11 a12 a13 = true
  · obtain ⟨h7, h78, h8, _, _⟩ := cfg_bounds a0 a1 a2 a3 a4 a5 a6 a7 a8 a9 a10 a11 a12 a13 h
    rw [if_pos h, if_pos h, fullW]
    by_cases h1 : n < 0
    · simp [h1]
    · by_cases h2 : n = 0
      · simp [h2]
      · simp only [h1, h2, decide_false, Bool.false_eq_true, if_false]
        rw [sFull_l0 a0 a1 a2 a3 a4 a5 a6 a7 a8 a9 a10 a11 a12 a13 h8 n hn 20 (k + 1) a7 1 (by omega) (by omega) h7 (by omega) (by omega) (by omega)]
  · rw [if_neg h, if_neg h]; simp
theorem sFull_ev (a0 a1 a2 a3 a4 a5 a6 a7 a8 a9 a10 a11 a12 a13 : Int) (n : Int) (hn : n ≤ 9223372036854775807) : Ev (fun k => spec_FullWait.f k a0 a1 a2 a3 a4 a5 a6 a7 a8 a9 a10 a11 a12 a13 n) (fullWait a0 a1 a2 a3 a4 a5 a6 a7 a8 a9 a10 a11 a12 a13 n) := ⟨30, fun k hk => sFull a0 a1 a2 a3 a4 a5 a6 a7 a8 a9 a10 a11 a12 a13 n hn k hk⟩

theorem iIn (a b c : Int) : impl_in.f a b c = some (decide (b ≤ a ∧ a ≤ c)) := by
  unfold impl_in.f; by_cases h : b ≤ a <;> simp [h]

theorem iTick (a : Int) : impl_TickOk.f a = some (decide (0 ≤ a ∧ a ≤ 1000000000)) := by unfold impl_TickOk.f; rw [iIn]; rfl

theorem iConfigOk_j1 (k : Nat) (x5 : Bool) (a0 a1 a2 a3 a4 a5 a6 a7 a8 a9 a10 a11 a12 a13 : Int) : impl_ConfigOk.j1 (k + 1) x5 a0 a1 a2 a3 a4 a5 a6 a7 a8 a9 a10 a11 a12 a13 = some (x5 && decide ((1 ≤ a8 ∧ a8 ≤ 1000000) ∧ (1 ≤ a7 ∧ a7 ≤ a8) ∧ (0 ≤ a9 ∧ a9 ≤ 100) ∧ (1 ≤ a10 ∧ a10 ≤ 1000000) ∧ (1 ≤ a11 ∧ a11 ≤ 20) ∧ (1 ≤ a12 ∧ a12 ≤ 1000000))) := by
  simp only [impl_ConfigOk.j1, iIn, Option.bind_some]
  by_cases g2 : 1 ≤ a7 ∧ a7 ≤ a8
  case neg => cases x5 <;> simp [g2]
  by_cases g1 : a8 ≤ 1000000
  case neg => cases x5 <;> simp [g1, g2]
  have g0 : 1 ≤ a8 := by omega
  cases x5
  case false => simp [g1, g2]
  by_cases g3 : 0 ≤ a9 ∧ a9 ≤ 100
  case neg => simp [g0, g1, g2, g3]
  by_cases g4 : 1 ≤ a10 ∧ a10 ≤ 1000000
  case neg => simp [g0, g1, g2, g3, g4]
  by_cases g5 : 1 ≤ a12 ∧ a12 ≤ 1000000
  case neg => simp [g0, g1, g2, g3, g4, g5]
  simp [g0, g1, g2, g3, g4, g5]
theorem iConfigOk (k : Nat) (a0 a1 a2 a3 a4 a5 a6 a7 a8 a9 a10 a11 a12 a13 : Int) : impl_ConfigOk.f (k + 8) a0 a1 a2 a3 a4 a5 a6 a7 a8 a9 a10 a11 a12 a13 = some (configOk a0 a1 a2 a3 a4 a5 a6 a7 a8 a9 a10 a11 a12 a13) := by
  unfold impl_ConfigOk.f configOk
  simp only [Option.bind_some, List.length_cons, List.length_nil]
  by_cases h3 : 0 ≤ a2 ∧ a2 ≤ 1000000000
  case neg => simp [impl_ConfigOk.l0, iTick, rd, h3]
  by_cases h5 : 0 ≤ a3 ∧ a3 ≤ 1000000000
  case neg => simp [impl_ConfigOk.l0, iTick, rd, h3, h5, wrap64]
  by_cases h6 : 0 ≤ a4 ∧ a4 ≤ 1000000000
  case neg => simp [impl_ConfigOk.l0, iTick, rd, h3, h5, h6, wrap64]
  by_cases h7 : 0 ≤ a5 ∧ a5 ≤ 1000000000
  case neg => simp [impl_ConfigOk.l0, iTick, rd, h3, h5, h6, h7, wrap64]
  by_cases h8 : 0 ≤ a6 ∧ a6 ≤ 1000000000
  case neg => simp [impl_ConfigOk.l0, iTick, rd, h3, h5, h6, h7, h8, wrap64]
  by_cases h9 : 0 ≤ a13 ∧ a13 ≤ 1000000000
  case neg => simp [impl_ConfigOk.l0, iTick, rd, h3, h5, h6, h7, h8, h9, wrap64]
  by_cases h1 : 1 ≤ a1 ∧ a1 ≤ 12
  case neg => simp [impl_ConfigOk.l0, iTick, iIn, rd, h3, h5, h6, h7, h8, h9, h1, wrap64, iConfigOk_j1]
  by_cases h2 : 0 ≤ a0 ∧ a0 ≤ a1
  case neg => simp [impl_ConfigOk.l0, iTick, iIn, rd, h3, h5, h6, h7, h8, h9, h1, h2, wrap64, iConfigOk_j1]
  by_cases h4 : a2 = 0
  case pos => subst h4; simp [impl_ConfigOk.l0, iTick, iIn, rd, h5, h6, h7, h8, h9, h1, h2, wrap64, iConfigOk_j1]
  have h4' : 1 ≤ a2 := by omega
  by_cases h10 : a13 = 0
  case pos => subst h10; simp [impl_ConfigOk.l0, iTick, iIn, rd, h3, h5, h6, h7, h8, h1, h2, h4', wrap64, iConfigOk_j1]
  have h10' : 1 ≤ a13 := by omega
  simp [impl_ConfigOk.l0, iTick, iIn, rd, h3, h4, h5, h6, h7, h8, h9, h1, h2, h4', h10, h10', wrap64, iConfigOk_j1]
theorem iConfigOk_ev (a0 a1 a2 a3 a4 a5 a6 a7 a8 a9 a10 a11 a12 a13 : Int) : Ev (fun k => impl_ConfigOk.f k a0 a1 a2 a3 a4 a5 a6 a7 a8 a9 a10 a11 a12 a13) (configOk a0 a1 a2 a3 a4 a5 a6 a7 a8 a9 a10 a11 a12 a13) := ⟨8, fun k hk => by obtain ⟨m, rfl⟩ : ∃ m, k = m + 8 := ⟨k - 8, by omega⟩; exact iConfigOk m a0 a1 a2 a3 a4 a5 a6 a7 a8 a9 a10 a11 a12 a13⟩

theorem iFull_l0 (a0 a1 a2 a3 a4 a5 a6 a7 a8 a9 a10 a11 a12 a13 : Int) (h8 : a8 ≤ 1000000) (n : Int) (hn : n ≤ 9223372036854775807) : ∀ (d k : Nat) (w i : Int), 1 ≤ i → i ≤ n → 1 ≤ w → w ≤ 2000000 → a8 ≤ w * 2 ^ d → d < k → impl_FullWait.l0 k n w i a0 a1 a2 a3 a4 a5 a6 a7 a8 a9 a10 a11 a12 a13 = some (if a8 < dbl a8 (n - i).toNat w then a8 else dbl a8 (n - i).toNat w) := by
  intro d
  induction d with
  | zero =>
    intro k w i hi hin hw hw2 hd hk
    obtain ⟨k, rfl⟩ : ∃ m, k = m + 1 := ⟨k - 1, by omega⟩
    have hc : ¬ w < a8 := by simp at hd; omega
    simp only [impl_FullWait.l0]
    rw [dbl_done _ _ _ hc, if_neg hc]
    simp only [ite_self, mn]
  | succ d ih =>
    intro k w i hi hin hw hw2 hd hk
    obtain ⟨k, rfl⟩ : ∃ m, k = m + 1 := ⟨k - 1, by omega⟩
    simp only [impl_FullWait.l0]
    by_cases h1 : i < n
    · by_cases h2 : w < a8
      · rw [if_pos h1, if_pos h2, Int.mul_comm w 2, w64 (by omega) (by omega), w64 (by omega) (by omega), ih k (2 * w) (i + 1) (by omega) (by omega) (by omega) (by omega) (by rw [Int.mul_comm 2 w, Int.mul_assoc, Int.mul_comm 2, ← Int.pow_succ]; exact hd) (by omega)]
        obtain ⟨m, hm⟩ : ∃ m : Nat, (n - i).toNat = m + 1 := ⟨(n - i).toNat - 1, by omega⟩
        have hm2 : (n - (i + 1)).toNat = m := by omega
        rw [hm, hm2, dbl, if_pos h2]
      · rw [if_pos h1, if_neg h2, dbl_done _ _ _ h2, mn]
    · rw [if_neg h1]
      have hm : (n - i).toNat = 0 := by omega
      rw [hm, dbl, mn]
theorem iFull (a0 a1 a2 a3 a4 a5 a6 a7 a8 a9 a10 a11 a12 a13 : Int) (n : Int) (hn : n ≤ 9223372036854775807) (k : Nat) (hk : 30 ≤ k) : impl_FullWait.f k a0 a1 a2 a3 a4 a5 a6 a7 a8 a9 a10 a11 a12 a13 n = some (fullWait a0 a1 a2 a3 a4 a5 a6 a7 a8 a9 a10 a11 a12 a13 n) := by
  obtain ⟨k, rfl⟩ : ∃ m, k = m + 8 := ⟨k - 8, by omega⟩
  unfold impl_FullWait.f fullWait
  rw [iConfigOk, Option.bind_some]
  simp only [impl_FullWait.j0]
  by_cases h : configOk a0 a1 a2 a3 a4 a5 a6 a7 a8 a9 a10 a11 a12 a13 = true
  · obtain ⟨h7, h78, h8, _, _⟩ := cfg_bounds a0 a1 a2 a3 a4 a5 a6 a7 a8 a9 a10 a11 a12 a13 h
    rw [if_pos h, if_pos h, fullW]
    by_cases h1 : n < 0
    · simp [h1]
    · by_cases h2 : n = 0
      · simp [h2]
      · simp only [h1, h2, decide_false, Bool.false_eq_true, if_false]
        rw [iFull_l0 a0 a1 a2 a3 a4 a5 a6 a7 a8 a9 a10 a11 a12 a13 h8 n hn 20 (k + 7) a7 1 (by omega) (by omega) h7 (by omega) (by omega) (by omega)]
  · rw [if_neg h, if_neg h]; simp
theorem iFull_ev (a0 a1 a2 a3 a4 a5 a6 a7 a8 a9 a10 a11 a12 a13 : Int) (n : Int) (hn : n ≤ 9223372036854775807) : Ev (fun k => impl_FullWait.f k a0 a1 a2 a3 a4 a5 a6 a7 a8 a9 a10 a11 a12 a13 n) (fullWait a0 a1 a2 a3 a4 a5 a6 a7 a8 a9 a10 a11 a12 a13 n) := ⟨30, fun k hk => iFull a0 a1 a2 a3 a4 a5 a6 a7 a8 a9 a10 a11 a12 a13 n hn k hk⟩

theorem iLeast_ev (a0 a1 a2 a3 a4 a5 a6 a7 a8 a9 a10 a11 a12 a13 : Int) (n : Int) (hn : n ≤ 9223372036854775807) : Ev (fun k => impl_LeastWait.f k a0 a1 a2 a3 a4 a5 a6 a7 a8 a9 a10 a11 a12 a13 n) (leastWait a0 a1 a2 a3 a4 a5 a6 a7 a8 a9 a10 a11 a12 a13 n) := by
  unfold impl_LeastWait.f leastWait
  refine Ev.bind' _ (iFull_ev a0 a1 a2 a3 a4 a5 a6 a7 a8 a9 a10 a11 a12 a13 n hn) ?_
  refine Ev.ite (fun _ => Ev.now _) (fun _ => ?_)
  unfold impl_Config_cut.f
  exact Ev.some' (Ev.now _)

theorem iJit_ev (a0 a1 a2 a3 a4 a5 a6 a7 a8 a9 a10 a11 a12 a13 : Int) (n draw : Int) (hn : n ≤ 9223372036854775807) : Ev (fun k => impl_JitteredWait.f k a0 a1 a2 a3 a4 a5 a6 a7 a8 a9 a10 a11 a12 a13 n draw) (jitWait a0 a1 a2 a3 a4 a5 a6 a7 a8 a9 a10 a11 a12 a13 n draw) := by
  unfold impl_JitteredWait.f jitWait
  refine Ev.bind' _ (iFull_ev a0 a1 a2 a3 a4 a5 a6 a7 a8 a9 a10 a11 a12 a13 n hn) ?_
  refine Ev.ite (fun _ => Ev.now _) (fun _ => ?_)
  unfold impl_Config_cut.f
  exact Ev.some' (Ev.now _)

theorem iSteps_l0 (a0 a1 a2 a3 a4 a5 a6 a7 a8 a9 a10 a11 a12 a13 : Int) (h : configOk a0 a1 a2 a3 a4 a5 a6 a7 a8 a9 a10 a11 a12 a13 = true) : ∀ (d : Nat) (i : Int), i + d = 21 → 1 ≤ i → Ev (fun k => impl_StepsToCap.l0 k i a0 a1 a2 a3 a4 a5 a6 a7 a8 a9 a10 a11 a12 a13) (stepsFrom a7 a8 d i) := by
  obtain ⟨h7, h78, h8, _, _⟩ := cfg_bounds a0 a1 a2 a3 a4 a5 a6 a7 a8 a9 a10 a11 a12 a13 h
  intro d
  induction d with
  | zero =>
    intro i hi h1
    obtain rfl : i = 21 := by omega
    refine Ev.step (fun k => by rw [impl_StepsToCap.l0]) ?_
    refine Ev.bind' _ (iFull_ev a0 a1 a2 a3 a4 a5 a6 a7 a8 a9 a10 a11 a12 a13 21 (by omega)) ?_
    refine Ev.neg ?_ (Ev.now _)
    unfold fullWait
    rw [if_pos h, full_21 a7 a8 h7 h8]
    omega
  | succ d ih =>
    intro i hi h1
    refine Ev.step (fun k => by rw [impl_StepsToCap.l0]) ?_
    refine Ev.bind' _ (iFull_ev a0 a1 a2 a3 a4 a5 a6 a7 a8 a9 a10 a11 a12 a13 i (by omega)) ?_
    have e : fullWait a0 a1 a2 a3 a4 a5 a6 a7 a8 a9 a10 a11 a12 a13 i = fullW a7 a8 i := if_pos h
    rw [e, stepsFrom, w64 (by omega) (by omega)]
    by_cases h2 : fullW a7 a8 i < a8
    · rw [if_pos h2]; exact Ev.pos h2 (ih (i + 1) (by omega) (by omega))
    · rw [if_neg h2]; exact Ev.neg h2 (Ev.now _)
theorem iSteps_ev (a0 a1 a2 a3 a4 a5 a6 a7 a8 a9 a10 a11 a12 a13 : Int) : Ev (fun k => impl_StepsToCap.f k a0 a1 a2 a3 a4 a5 a6 a7 a8 a9 a10 a11 a12 a13) (steps a0 a1 a2 a3 a4 a5 a6 a7 a8 a9 a10 a11 a12 a13) := by
  unfold impl_StepsToCap.f steps
  refine Ev.bind' _ (iConfigOk_ev a0 a1 a2 a3 a4 a5 a6 a7 a8 a9 a10 a11 a12 a13) ?_
  by_cases h : configOk a0 a1 a2 a3 a4 a5 a6 a7 a8 a9 a10 a11 a12 a13 = true
  · rw [if_pos h]; exact Ev.pos h (iSteps_l0 a0 a1 a2 a3 a4 a5 a6 a7 a8 a9 a10 a11 a12 a13 h 20 1 (by omega) (by omega))
  · rw [if_neg h]; exact Ev.neg h (Ev.now _)

theorem iWaitSum_l0 (a0 a1 a2 a3 a4 a5 a6 a7 a8 a9 a10 a11 a12 a13 : Int) (h : configOk a0 a1 a2 a3 a4 a5 a6 a7 a8 a9 a10 a11 a12 a13 = true) (n : Int) : ∀ (d : Nat) (s i : Int), i + d = 21 → 1 ≤ i → Ev (fun k => impl_WaitSum.l0 k n s (stepsFrom a7 a8 d i) i a0 a1 a2 a3 a4 a5 a6 a7 a8 a9 a10 a11 a12 a13) (wsum a7 a8 n d s i) := by
  obtain ⟨h7, h78, h8, _, _⟩ := cfg_bounds a0 a1 a2 a3 a4 a5 a6 a7 a8 a9 a10 a11 a12 a13 h
  intro d
  induction d with
  | zero =>
    intro s i hi h1
    obtain rfl : i = 21 := by omega
    refine Ev.step (fun k => by rw [impl_WaitSum.l0]) ?_
    rw [wsum, stepsFrom]
    exact Ev.ite (fun h2 => Ev.neg (by omega) (Ev.pos (by omega) (Ev.now _))) (fun h2 => Ev.neg (by omega) (Ev.now _))
  | succ d ih =>
    intro s i hi h1
    refine Ev.step (fun k => by rw [impl_WaitSum.l0]) ?_
    rw [wsum]
    have e : fullWait a0 a1 a2 a3 a4 a5 a6 a7 a8 a9 a10 a11 a12 a13 i = fullW a7 a8 i := if_pos h
    have hle := full_le a7 a8 i h1
    have hge := steps_ge a7 a8 (d + 1) i
    by_cases h2 : i ≤ n
    · rw [if_pos h2]
      refine Ev.pos h2 ?_
      by_cases h4 : fullW a7 a8 i = a8
      · have hs : stepsFrom a7 a8 (d + 1) i = i := by rw [stepsFrom, if_neg (by omega)]
        rw [if_pos h4, hs]
        exact Ev.neg (by omega) (Ev.pos (by omega) (Ev.now _))
      · have hs : stepsFrom a7 a8 (d + 1) i = stepsFrom a7 a8 d (i + 1) := by rw [stepsFrom, if_pos (by omega)]
        have hg2 := steps_ge a7 a8 d (i + 1)
        rw [if_neg h4, hs, w64 (n := i + 1) (by omega) (by omega)]
        refine Ev.pos (by omega) ?_
        refine Ev.bind' _ (iFull_ev a0 a1 a2 a3 a4 a5 a6 a7 a8 a9 a10 a11 a12 a13 i (by omega)) ?_
        rw [e]
        exact ih _ _ (by omega) (by omega)
    · rw [if_neg h2]
      exact Ev.neg h2 (Ev.neg (by omega) (Ev.now _))
theorem iWaitSum_ev (a0 a1 a2 a3 a4 a5 a6 a7 a8 a9 a10 a11 a12 a13 : Int) (n : Int) : Ev (fun k => impl_WaitSum.f k a0 a1 a2 a3 a4 a5 a6 a7 a8 a9 a10 a11 a12 a13 n) (waitSum a0 a1 a2 a3 a4 a5 a6 a7 a8 a9 a10 a11 a12 a13 n) := by
  unfold impl_WaitSum.f waitSum
  refine Ev.bind' _ (iConfigOk_ev a0 a1 a2 a3 a4 a5 a6 a7 a8 a9 a10 a11 a12 a13) ?_
  by_cases h : configOk a0 a1 a2 a3 a4 a5 a6 a7 a8 a9 a10 a11 a12 a13 = true
  · refine Ev.pos h ?_
    refine Ev.bind' _ (Ev.is fun _ => iTick n) ?_
    refine Ev.step (fun k => by rw [impl_WaitSum.j0]) ?_
    by_cases h2 : 0 ≤ n ∧ n ≤ 1000000000
    · rw [if_pos ⟨h, h2⟩]
      refine Ev.neg (by simp [h2]) ?_
      refine Ev.bind' _ (iSteps_ev a0 a1 a2 a3 a4 a5 a6 a7 a8 a9 a10 a11 a12 a13) ?_
      have e : steps a0 a1 a2 a3 a4 a5 a6 a7 a8 a9 a10 a11 a12 a13 = stepsFrom a7 a8 20 1 := if_pos h
      rw [e]
      exact iWaitSum_l0 a0 a1 a2 a3 a4 a5 a6 a7 a8 a9 a10 a11 a12 a13 h n 20 0 1 (by omega) (by omega)
    · rw [if_neg (fun e => h2 e.2)]
      exact Ev.pos (by simp [h2]) (Ev.now _)
  · rw [if_neg (fun e => h e.1)]
    exact Ev.neg h (Ev.step (fun k => by rw [impl_WaitSum.j0]) (Ev.pos rfl (Ev.now _)))

theorem iAddTick (t d : Int) : impl_AddTick.f t d = some (addTick t d) := by
  unfold impl_AddTick.f addTick
  simp only [iTick, iIn, Option.bind_some]
  by_cases h1 : 0 ≤ t ∧ t ≤ 1000000000
  · by_cases h2 : -1000000000 ≤ d ∧ d ≤ 1000000000
    · rw [w64 (by omega) (by omega)]
      simp only [h1, h2, and_self, decide_true, if_true]
      unfold mx mn
      congr 1
      repeat' split
      all_goals omega
    · simp [h1, h2]
  · simp [h1]

theorem iRed_l0 (a0 a1 a2 a3 a4 a5 a6 a7 a8 a9 a10 a11 a12 a13 : Int) (xs : List Int) (hx : xs.length ≤ 300) : ∀ (d i : Nat) (out : List Int), i ≤ xs.length → xs.length - i = d → out.length = i + 1 → Ev (fun k => impl_Redials.l0 k out xs (xs.length : Int) (i : Int) a0 a1 a2 a3 a4 a5 a6 a7 a8 a9 a10 a11 a12 a13) (runE (redStep a0 a1 a2 a3 a4 a5 a6 a7 a8 a9 a10 a11 a12 a13) id i (xs.drop i) out) := by
  intro d
  induction d with
  | zero =>
    intro i out hi hd ho
    obtain rfl : i = xs.length := by omega
    rw [List.drop_length, runE]
    refine Ev.step (fun k => by rw [impl_Redials.l0]) ?_
    exact Ev.neg (by omega) (Ev.now _)
  | succ d ih =>
    intro i out hi hd ho
    rw [List.drop_eq_getElem_cons (by omega), runE]
    simp only [redStep]
    refine Ev.step (fun k => by rw [impl_Redials.l0]) ?_
    refine Ev.pos (by omega) (Ev.pos (by omega) (Ev.pos (by omega) (Ev.pos (by omega) ?_)))
    rw [wsucc i (by omega), rd_nat xs i (by omega)]
    refine Ev.bind' _ (iJit_ev a0 a1 a2 a3 a4 a5 a6 a7 a8 a9 a10 a11 a12 a13 _ _ (by omega)) ?_
    refine Ev.bind' _ (Ev.is fun _ => iAddTick _ _) ?_
    refine Ev.pos (by omega) ?_
    exact ih (i + 1) _ (by omega) (by omega) (by simp [ho])
theorem iRed_ev (a0 a1 a2 a3 a4 a5 a6 a7 a8 a9 a10 a11 a12 a13 : Int) (xs : List Int) : Ev (fun k => impl_Redials.f k a0 a1 a2 a3 a4 a5 a6 a7 a8 a9 a10 a11 a12 a13 xs) (redials a0 a1 a2 a3 a4 a5 a6 a7 a8 a9 a10 a11 a12 a13 xs) := by
  unfold impl_Redials.f redials
  refine Ev.bind' _ (iConfigOk_ev a0 a1 a2 a3 a4 a5 a6 a7 a8 a9 a10 a11 a12 a13) ?_
  by_cases h : configOk a0 a1 a2 a3 a4 a5 a6 a7 a8 a9 a10 a11 a12 a13 = true
  · refine Ev.pos h (Ev.step (fun k => by rw [impl_Redials.j0]) ?_)
    by_cases h2 : (xs.length : Int) > 300
    · rw [if_neg (fun e => by omega)]
      exact Ev.pos (by simpa using h2) (Ev.now _)
    · rw [if_pos ⟨h, by omega⟩]
      refine Ev.neg (by simpa using h2) ?_
      exact iRed_l0 a0 a1 a2 a3 a4 a5 a6 a7 a8 a9 a10 a11 a12 a13 xs (by omega) xs.length 0 [0] (by omega) (by omega) rfl
  · rw [if_neg (fun e => h e.1)]
    exact Ev.neg h (Ev.step (fun k => by rw [impl_Redials.j0]) (Ev.pos rfl (Ev.now _)))

theorem fullWait_ok (a0 a1 a2 a3 a4 a5 a6 a7 a8 a9 a10 a11 a12 a13 : Int) (h : configOk a0 a1 a2 a3 a4 a5 a6 a7 a8 a9 a10 a11 a12 a13 = true) (n : Int) : fullWait a0 a1 a2 a3 a4 a5 a6 a7 a8 a9 a10 a11 a12 a13 n = fullW a7 a8 n := by unfold fullWait; rw [if_pos h]
/-- What the jitter takes off at most. -/
def offW (a0 a1 a2 a3 a4 a5 a6 a7 a8 a9 a10 a11 a12 a13 : Int) (n : Int) : Int := fullW a7 a8 n * a9 / 100
theorem cut_val (F j : Int) (hF : 0 ≤ F ∧ F ≤ 1000000) (hj : 0 ≤ j ∧ j ≤ 100) : cutW F j = F * j / 100 ∧ 0 ≤ F * j / 100 ∧ F * j / 100 ≤ F := by
  have h0 : 0 ≤ F * j := Int.mul_nonneg hF.1 hj.1
  have h1 : F * j ≤ F * 100 := Int.mul_le_mul_of_nonneg_left hj.2 hF.1
  unfold cutW
  rw [w64 (n := F * j) (by omega) (by omega), Int.tdiv_eq_ediv_of_nonneg h0, w64 (by omega) (by omega)]
  exact ⟨rfl, by omega, by omega⟩
theorem wait_facts (a0 a1 a2 a3 a4 a5 a6 a7 a8 a9 a10 a11 a12 a13 : Int) (h : configOk a0 a1 a2 a3 a4 a5 a6 a7 a8 a9 a10 a11 a12 a13 = true) (n : Int) (hn : 1 ≤ n) : 0 ≤ offW a0 a1 a2 a3 a4 a5 a6 a7 a8 a9 a10 a11 a12 a13 n ∧ offW a0 a1 a2 a3 a4 a5 a6 a7 a8 a9 a10 a11 a12 a13 n ≤ fullW a7 a8 n ∧ leastWait a0 a1 a2 a3 a4 a5 a6 a7 a8 a9 a10 a11 a12 a13 n = fullW a7 a8 n - offW a0 a1 a2 a3 a4 a5 a6 a7 a8 a9 a10 a11 a12 a13 n ∧ (∀ draw, leastWait a0 a1 a2 a3 a4 a5 a6 a7 a8 a9 a10 a11 a12 a13 n ≤ jitWait a0 a1 a2 a3 a4 a5 a6 a7 a8 a9 a10 a11 a12 a13 n draw ∧ jitWait a0 a1 a2 a3 a4 a5 a6 a7 a8 a9 a10 a11 a12 a13 n draw ≤ fullW a7 a8 n) ∧ jitWait a0 a1 a2 a3 a4 a5 a6 a7 a8 a9 a10 a11 a12 a13 n 0 = fullW a7 a8 n ∧ jitWait a0 a1 a2 a3 a4 a5 a6 a7 a8 a9 a10 a11 a12 a13 n 1000 = leastWait a0 a1 a2 a3 a4 a5 a6 a7 a8 a9 a10 a11 a12 a13 n := by
  obtain ⟨h7, h78, h8, h9, h9'⟩ := cfg_bounds a0 a1 a2 a3 a4 a5 a6 a7 a8 a9 a10 a11 a12 a13 h
  have hs := full_step a7 a8 n h7 h78 hn
  have hF : 0 ≤ fullW a7 a8 n ∧ fullW a7 a8 n ≤ 1000000 := by omega
  obtain ⟨c1, c2, c3⟩ := cut_val (fullW a7 a8 n) a9 hF ⟨h9, h9'⟩
  have hl : leastWait a0 a1 a2 a3 a4 a5 a6 a7 a8 a9 a10 a11 a12 a13 n = fullW a7 a8 n - offW a0 a1 a2 a3 a4 a5 a6 a7 a8 a9 a10 a11 a12 a13 n := by
    unfold leastWait offW
    rw [fullWait_ok a0 a1 a2 a3 a4 a5 a6 a7 a8 a9 a10 a11 a12 a13 h, if_neg (by omega), c1, w64 (by omega) (by omega)]
  have hj : ∀ draw, jitWait a0 a1 a2 a3 a4 a5 a6 a7 a8 a9 a10 a11 a12 a13 n draw = fullW a7 a8 n - offW a0 a1 a2 a3 a4 a5 a6 a7 a8 a9 a10 a11 a12 a13 n * ((if 0 < draw then draw else 0) % 1001) / 1000 ∧ 0 ≤ offW a0 a1 a2 a3 a4 a5 a6 a7 a8 a9 a10 a11 a12 a13 n * ((if 0 < draw then draw else 0) % 1001) / 1000 ∧ offW a0 a1 a2 a3 a4 a5 a6 a7 a8 a9 a10 a11 a12 a13 n * ((if 0 < draw then draw else 0) % 1001) / 1000 ≤ offW a0 a1 a2 a3 a4 a5 a6 a7 a8 a9 a10 a11 a12 a13 n := by
    intro draw
    unfold jitWait offW
    rw [fullWait_ok a0 a1 a2 a3 a4 a5 a6 a7 a8 a9 a10 a11 a12 a13 h, if_neg (by omega), c1]
    generalize hd : (if 0 < draw then draw else 0) % 1001 = d
    have hd0 : 0 ≤ d ∧ d ≤ 1000 := by rw [← hd]; omega
    generalize fullW a7 a8 n * a9 / 100 = cut at c2 c3 ⊢
    have q0 : 0 ≤ cut * d := Int.mul_nonneg c2 hd0.1
    have q1 : cut * d ≤ cut * 1000 := Int.mul_le_mul_of_nonneg_left hd0.2 c2
    rw [w64 (n := cut * d) (by omega) (by omega), Int.tdiv_eq_ediv_of_nonneg q0, w64 (n := cut * d / 1000) (by omega) (by omega), w64 (by omega) (by omega)]
    exact ⟨rfl, by omega, by omega⟩
  refine ⟨c2, c3, hl, fun draw => ?_, ?_, ?_⟩
  · obtain ⟨e, e0, e1⟩ := hj draw
    rw [e, hl]
    omega
  · obtain ⟨e, _, _⟩ := hj 0
    rw [e]
    simp
  · obtain ⟨e, _, _⟩ := hj 1000
    rw [e, hl]
    have : ((if (0 : Int) < 1000 then (1000 : Int) else 0) % 1001) = 1000 := by decide
    rw [this]
    omega
theorem waitSum_step (a0 a1 a2 a3 a4 a5 a6 a7 a8 a9 a10 a11 a12 a13 : Int) (h : configOk a0 a1 a2 a3 a4 a5 a6 a7 a8 a9 a10 a11 a12 a13 = true) (n : Int) (hn : 1 ≤ n) (hn2 : n ≤ 11) : waitSum a0 a1 a2 a3 a4 a5 a6 a7 a8 a9 a10 a11 a12 a13 n = addTick (waitSum a0 a1 a2 a3 a4 a5 a6 a7 a8 a9 a10 a11 a12 a13 (n - 1)) (fullW a7 a8 n) := by
  obtain ⟨h7, h78, h8, _, _⟩ := cfg_bounds a0 a1 a2 a3 a4 a5 a6 a7 a8 a9 a10 a11 a12 a13 h
  unfold waitSum
  rw [if_pos ⟨h, by omega⟩, if_pos ⟨h, by omega⟩, wsum_sum a7 a8 n h7 h78 h8 (by omega) 20 0 1 (by omega) (by omega) (by omega) (by omega), wsum_sum a7 a8 (n - 1) h7 h78 h8 (by omega) 20 0 1 (by omega) (by omega) (by omega) (by omega)]
  obtain ⟨m, hm⟩ : ∃ m : Nat, (n - 1 - 1 + 1).toNat = m := ⟨_, rfl⟩
  have e1 : (n - 1 + 1).toNat = m + 1 := by omega
  have hb := sumF_bound a7 a8 h7 h78 h8 m 1 (by omega)
  have hs := full_step a7 a8 n h7 h78 hn
  rw [e1, hm, sumF_snoc, show (1 : Int) + (m : Int) = n by omega]
  unfold addTick
  rw [if_pos ⟨by omega, by omega⟩, if_neg (by omega), if_neg (by omega)]
  omega
theorem red_facts (a0 a1 a2 a3 a4 a5 a6 a7 a8 a9 a10 a11 a12 a13 : Int) : ∀ (xs : List Int) (i : Nat) (out : List Int), out.length = i + 1 → (∀ t : Nat, t ≤ i → rd (runE (redStep a0 a1 a2 a3 a4 a5 a6 a7 a8 a9 a10 a11 a12 a13) id i xs out) (t : Int) = rd out (t : Int)) ∧ ∀ (t : Nat) (ht : t < xs.length), rd (runE (redStep a0 a1 a2 a3 a4 a5 a6 a7 a8 a9 a10 a11 a12 a13) id i xs out) ((i + t + 1 : Nat) : Int) = addTick (rd (runE (redStep a0 a1 a2 a3 a4 a5 a6 a7 a8 a9 a10 a11 a12 a13) id i xs out) ((i + t : Nat) : Int)) (jitWait a0 a1 a2 a3 a4 a5 a6 a7 a8 a9 a10 a11 a12 a13 ((i + t + 1 : Nat) : Int) xs[t])
  | [], i, out, ho => ⟨fun t _ => by simp [runE], fun t ht => by simp at ht⟩
  | x :: xs, i, out, ho => by
    rw [runE]
    simp only [redStep]
    obtain ⟨h1, h2⟩ := red_facts a0 a1 a2 a3 a4 a5 a6 a7 a8 a9 a10 a11 a12 a13 xs (i + 1) (out ++ [addTick (rd out (i : Int)) (jitWait a0 a1 a2 a3 a4 a5 a6 a7 a8 a9 a10 a11 a12 a13 ((i + 1 : Nat) : Int) x)]) (by simp [ho])
    have hpre : ∀ t : Nat, t ≤ i → rd (out ++ [addTick (rd out (i : Int)) (jitWait a0 a1 a2 a3 a4 a5 a6 a7 a8 a9 a10 a11 a12 a13 ((i + 1 : Nat) : Int) x)]) (t : Int) = rd out (t : Int) := fun t ht => by
      rw [rd_nat _ t (by simp; omega), rd_nat _ t (by omega), List.getElem_append_left (by omega)]
    refine ⟨fun t ht => (h1 t (by omega)).trans (hpre t ht), fun t ht => ?_⟩
    cases t with
    | zero =>
      have e0 : i + 0 = i := rfl
      simp only [e0]
      rw [h1 (i + 1) (by omega), h1 i (by omega), hpre i (by omega), rd_last out _ (i + 1) ho]
      rfl
    | succ t =>
      have := h2 t (by simpa using ht)
      have e1 : i + 1 + t + 1 = i + (t + 1) + 1 := by omega
      have e2 : i + 1 + t = i + (t + 1) := by omega
      rw [e1, e2] at this
      simpa using this
theorem waits_l1 (a0 a1 a2 a3 a4 a5 a6 a7 a8 a9 a10 a11 a12 a13 : Int) (xs list : List Int) (hn : xs.length ≤ 300) (hl : list.length = xs.length + 1) (hf : ∀ (t : Nat) (ht : t < xs.length), rd list ((t + 1 : Nat) : Int) = addTick (rd list (t : Int)) (jitWait a0 a1 a2 a3 a4 a5 a6 a7 a8 a9 a10 a11 a12 a13 ((t + 1 : Nat) : Int) xs[t])) : ∀ (d i : Nat), i + d = xs.length → Ev (fun k => laws_FnWaits.l1 k xs list (i : Int) a0 a1 a2 a3 a4 a5 a6 a7 a8 a9 a10 a11 a12 a13) true := by
  intro d
  induction d with
  | zero =>
    intro i hi
    refine Ev.step (fun k => by rw [laws_FnWaits.l1]) ?_
    exact Ev.neg (by omega) (Ev.now _)
  | succ d ih =>
    intro i hi
    refine Ev.step (fun k => by rw [laws_FnWaits.l1]) ?_
    rw [wsucc i (by omega), rd_nat xs i (by omega)]
    refine Ev.pos (by omega) (Ev.pos (by omega) (Ev.pos (by omega) (Ev.pos (by omega) (Ev.pos (by omega) (Ev.bind' _ (iJit_ev a0 a1 a2 a3 a4 a5 a6 a7 a8 a9 a10 a11 a12 a13 _ _ (by omega)) (Ev.bind' _ (Ev.is fun _ => iAddTick _ _) (Ev.pos (hf i (by omega)) ?_)))))))
    exact ih (i + 1) (by omega)
theorem waits_end (a0 a1 a2 a3 a4 a5 a6 a7 a8 a9 a10 a11 a12 a13 : Int) (h : configOk a0 a1 a2 a3 a4 a5 a6 a7 a8 a9 a10 a11 a12 a13 = true) (xs : List Int) (hx : xs.length ≤ 400) : Ev (fun k => (impl_Redials.f k a0 a1 a2 a3 a4 a5 a6 a7 a8 a9 a10 a11 a12 a13 xs).bind fun t427 => (if (xs.length : Int) > 300 then (some ((t427.length : Int) == 0)) else (if (t427.length : Int) = (wrap64 ((xs.length : Int) + 1)) then (if 0 < (t427.length : Int) then (laws_FnWaits.j3 k xs t427 ((rd t427 0) != 0) a0 a1 a2 a3 a4 a5 a6 a7 a8 a9 a10 a11 a12 a13) else (none)) else (laws_FnWaits.j3 k xs t427 true a0 a1 a2 a3 a4 a5 a6 a7 a8 a9 a10 a11 a12 a13)))) true := by
  refine Ev.bind' _ (iRed_ev a0 a1 a2 a3 a4 a5 a6 a7 a8 a9 a10 a11 a12 a13 xs) ?_
  unfold redials
  by_cases hn : xs.length ≤ 300
  · rw [if_pos ⟨h, hn⟩]
    have hlen := redials_len a0 a1 a2 a3 a4 a5 a6 a7 a8 a9 a10 a11 a12 a13 xs 0 [0]
    obtain ⟨f1, f2⟩ := red_facts a0 a1 a2 a3 a4 a5 a6 a7 a8 a9 a10 a11 a12 a13 xs 0 [0] rfl
    have h0 : rd (runE (redStep a0 a1 a2 a3 a4 a5 a6 a7 a8 a9 a10 a11 a12 a13) id 0 xs [0]) 0 = 0 := f1 0 (by omega)
    have hl' : (runE (redStep a0 a1 a2 a3 a4 a5 a6 a7 a8 a9 a10 a11 a12 a13) id 0 xs [0]).length = xs.length + 1 := by rw [hlen]; simp; omega
    refine Ev.neg (by omega) (Ev.pos ?_ (Ev.pos (by omega) ?_))
    · rw [w64 (by omega) (by omega)]; omega
    · refine Ev.step (fun k => by rw [laws_FnWaits.j3]) (Ev.neg (by simp [h0]) ?_)
      refine waits_l1 a0 a1 a2 a3 a4 a5 a6 a7 a8 a9 a10 a11 a12 a13 xs _ hn hl' (fun t ht => ?_) xs.length 0 (by omega)
      have := f2 t ht
      simpa using this
  · rw [if_neg (fun e => hn e.2)]
    exact Ev.pos (by omega) (Ev.now _)
theorem waits_l0 (a0 a1 a2 a3 a4 a5 a6 a7 a8 a9 a10 a11 a12 a13 : Int) (h : configOk a0 a1 a2 a3 a4 a5 a6 a7 a8 a9 a10 a11 a12 a13 = true) (code xs : List Int) (hc : code.length ≤ 1048576) (hw : ∀ x ∈ code, (Lit.int .u8 x).wf = true) (hx : xs.length ≤ 400) : ∀ (d i : Nat), i + d = 12 → 1 ≤ i → Ev (fun k => laws_FnWaits.l0 k code xs (steps a0 a1 a2 a3 a4 a5 a6 a7 a8 a9 a10 a11 a12 a13) (i : Int) a0 a1 a2 a3 a4 a5 a6 a7 a8 a9 a10 a11 a12 a13) true := by
  obtain ⟨h7, h78, h8, h9, h9'⟩ := cfg_bounds a0 a1 a2 a3 a4 a5 a6 a7 a8 a9 a10 a11 a12 a13 h
  intro d
  induction d with
  | zero =>
    intro i hi _
    refine Ev.step (fun k => by rw [laws_FnWaits.l0]) ?_
    exact Ev.neg (by omega) (waits_end a0 a1 a2 a3 a4 a5 a6 a7 a8 a9 a10 a11 a12 a13 h xs hx)
  | succ d ih =>
    intro i hi h1
    have hs := full_step a7 a8 (i : Int) h7 h78 (by omega)
    have hle := full_le a7 a8 (i : Int) (by omega)
    have hiff := steps_iff a7 a8 h7 h78 h8 (i : Int) (by omega)
    have hst : steps a0 a1 a2 a3 a4 a5 a6 a7 a8 a9 a10 a11 a12 a13 = stepsFrom a7 a8 20 1 := by unfold steps; rw [if_pos h]
    obtain ⟨w0, w1, w2, w3, w4, w5⟩ := wait_facts a0 a1 a2 a3 a4 a5 a6 a7 a8 a9 a10 a11 a12 a13 h (i : Int) (by omega)
    obtain ⟨t, et, ht0, ht1⟩ := lawAt code hc hw (i : Int) (by omega) (by omega)
    have hF : fullWait a0 a1 a2 a3 a4 a5 a6 a7 a8 a9 a10 a11 a12 a13 (i : Int) = fullW a7 a8 (i : Int) := fullWait_ok a0 a1 a2 a3 a4 a5 a6 a7 a8 a9 a10 a11 a12 a13 h _
    have hF' : fullWait a0 a1 a2 a3 a4 a5 a6 a7 a8 a9 a10 a11 a12 a13 ((i + 1 : Nat) : Int) = fullW a7 a8 ((i : Int) + 1) := by rw [fullWait_ok a0 a1 a2 a3 a4 a5 a6 a7 a8 a9 a10 a11 a12 a13 h]; rfl
    have hj2 : Ev (fun k => laws_FnWaits.j2 k code xs (steps a0 a1 a2 a3 a4 a5 a6 a7 a8 a9 a10 a11 a12 a13) (i : Int) (fullWait a0 a1 a2 a3 a4 a5 a6 a7 a8 a9 a10 a11 a12 a13 (i : Int)) false a0 a1 a2 a3 a4 a5 a6 a7 a8 a9 a10 a11 a12 a13) true := by
      refine Ev.step (fun k => by rw [laws_FnWaits.j2]) (Ev.neg (by simp) ?_)
      rw [w64 (n := (i : Int) - 1) (by omega) (by omega), wsucc i (by omega)]
      refine Ev.bind' _ (iWaitSum_ev a0 a1 a2 a3 a4 a5 a6 a7 a8 a9 a10 a11 a12 a13 _) (Ev.bind' _ (iWaitSum_ev a0 a1 a2 a3 a4 a5 a6 a7 a8 a9 a10 a11 a12 a13 _) (Ev.bind' _ (Ev.is fun _ => iAddTick _ _) (Ev.pos ?_ (ih (i + 1) (by omega) (by omega)))))
      rw [hF]
      exact waitSum_step a0 a1 a2 a3 a4 a5 a6 a7 a8 a9 a10 a11 a12 a13 h (i : Int) (by omega) (by omega)
    have hj1 : ∀ b : Bool, b = false → Ev (fun k => laws_FnWaits.j1 k code xs (steps a0 a1 a2 a3 a4 a5 a6 a7 a8 a9 a10 a11 a12 a13) (i : Int) (fullWait a0 a1 a2 a3 a4 a5 a6 a7 a8 a9 a10 a11 a12 a13 (i : Int)) b a0 a1 a2 a3 a4 a5 a6 a7 a8 a9 a10 a11 a12 a13) true := fun b hb => by
      subst hb
      refine Ev.step (fun k => by rw [laws_FnWaits.j1]) (Ev.neg (by simp) ?_)
      have hx1 := w3 (wrap64 (t * 4))
      refine Ev.bind' _ (Ev.is fun _ => et) (Ev.bind' _ (iJit_ev a0 a1 a2 a3 a4 a5 a6 a7 a8 a9 a10 a11 a12 a13 _ _ (by omega)) (Ev.bind' _ (iLeast_ev a0 a1 a2 a3 a4 a5 a6 a7 a8 a9 a10 a11 a12 a13 _ (by omega)) (Ev.neg (by omega) (Ev.neg (by omega) (Ev.bind' _ (iJit_ev a0 a1 a2 a3 a4 a5 a6 a7 a8 a9 a10 a11 a12 a13 _ _ (by omega)) (Ev.pos (by omega) (Ev.bind' _ (iJit_ev a0 a1 a2 a3 a4 a5 a6 a7 a8 a9 a10 a11 a12 a13 _ _ (by omega)) (Ev.bind' _ (iLeast_ev a0 a1 a2 a3 a4 a5 a6 a7 a8 a9 a10 a11 a12 a13 _ (by omega)) ?_))))))))
      rw [w5]
      simp only [bne_self_eq_false]
      exact hj2
    refine Ev.step (fun k => by rw [laws_FnWaits.l0]) ?_
    rw [wsucc i (by omega)]
    refine Ev.pos (by omega) (Ev.bind' _ (iFull_ev a0 a1 a2 a3 a4 a5 a6 a7 a8 a9 a10 a11 a12 a13 _ (by omega)) (Ev.bind' _ (iFull_ev a0 a1 a2 a3 a4 a5 a6 a7 a8 a9 a10 a11 a12 a13 _ (by omega)) (Ev.bind' _ (sFull_ev a0 a1 a2 a3 a4 a5 a6 a7 a8 a9 a10 a11 a12 a13 _ (by omega)) (Ev.pos rfl ?_))))
    rw [hF', w64 (n := 2 * fullWait a0 a1 a2 a3 a4 a5 a6 a7 a8 a9 a10 a11 a12 a13 (i : Int)) (by omega) (by omega)]
    have hn1 : ¬ fullW a7 a8 ((i : Int) + 1) < fullWait a0 a1 a2 a3 a4 a5 a6 a7 a8 a9 a10 a11 a12 a13 (i : Int) := by
      rw [hF]
      by_cases q : fullW a7 a8 (i : Int) < a8
      · rw [hs.2.2.1 q]; split <;> omega
      · have := hs.2.2.2 q; omega
    refine Ev.neg hn1 (Ev.neg (by omega) (Ev.neg ?_ ?_))
    · rw [hF, hst]
      by_cases q : fullW a7 a8 (i : Int) = a8
      · simp [q, hiff.1 q]
      · have : ¬ stepsFrom a7 a8 20 1 ≤ (i : Int) := fun e => q (hiff.2 e)
        simp [q, this]
    · by_cases q : 2 * fullWait a0 a1 a2 a3 a4 a5 a6 a7 a8 a9 a10 a11 a12 a13 (i : Int) ≤ a8
      · refine Ev.pos q (hj1 _ ?_)
        rw [hF] at q ⊢
        have := hs.2.2.1 (by omega)
        rw [this, if_neg (by omega)]
        simp
      · exact Ev.neg q (hj1 _ rfl)
theorem FnWaits : laws_FnWaits.Pure := by
  intro code _ hl hw
  refine Ev.rounds (r := true) ?_
  unfold laws_FnWaits.f
  refine Ev.bind' _ (Ev.is fun _ => lawBig code) ?_
  by_cases hb : (code.length : Int) > 1048576
  · exact Ev.pos (by simpa using hb) (Ev.now _)
  refine Ev.neg (by simpa using hb) ?_
  obtain ⟨a0, a1, a2, a3, a4, a5, a6, a7, a8, a9, a10, a11, a12, a13, xs, hr, hxl⟩ := sDrawRed code (by omega)
  refine Ev.bind' _ hr (Ev.bind' _ (sConfigOk_ev a0 a1 a2 a3 a4 a5 a6 a7 a8 a9 a10 a11 a12 a13) ?_)
  by_cases h : configOk a0 a1 a2 a3 a4 a5 a6 a7 a8 a9 a10 a11 a12 a13 = true
  · refine Ev.pos h (Ev.bind' _ (iSteps_ev a0 a1 a2 a3 a4 a5 a6 a7 a8 a9 a10 a11 a12 a13) ?_)
    exact waits_l0 a0 a1 a2 a3 a4 a5 a6 a7 a8 a9 a10 a11 a12 a13 h code xs (by omega) hw hxl 11 1 (by omega) (by omega)
  · refine Ev.neg h (Ev.bind' _ (iRed_ev a0 a1 a2 a3 a4 a5 a6 a7 a8 a9 a10 a11 a12 a13 xs) ?_)
    unfold redials
    rw [if_neg (fun e => h e.1)]
    exact Ev.now _

end Go.Proofs.Ytdeilfcoikmafaa.Pure
