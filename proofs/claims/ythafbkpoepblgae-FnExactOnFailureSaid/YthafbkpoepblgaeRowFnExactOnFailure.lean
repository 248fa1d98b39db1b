/-
The given statement Rows.FnExactOnFailureSaid holds: called with any arguments the law FnExactOnFailure returns true, and each argument reads afterwards as it did. No condition of our own.
-/
import Derived.Test.YthafbkpoepblgaeRows
import Derived.Test.YthafbkpoepblgaeMFnExactOnFailurex11
import Derived.Test.YthafbkpoepblgaePureFnExactOnFailure
import Derived.WalkKit
import Derived.ProofKit
import Derived.OpenShut
import Derived.ShutString
import Derived.ChangeOld
import Derived.Below
import Derived.SizedLaws
import Derived.Lib.SmallJoins
import Derived.Deep.Fields
import Derived.Deep.Slices
namespace Go.Proofs.Ythafbkpoepblgae.fnExactOnFailure
open Go.ChangeShapes Go.WideShapes Go.ChangeAt Go.RowKit Go.Deep Go.Proofs.YthafbkpoepblgaeW
open Go.ChangeMaps (open_string shut_string)
set_option linter.unusedVariables false
set_option linter.unusedSimpArgs false
theorem own : ownKnob Try.prog.godebug = none := by kernel_rfl
theorem laidOut : laidOutB Try.prog = true := by kernel_rfl
section
variable {H : Type} {enc : TypeId × Value → H} {P : Program} {w : World} {base : Nat} {spare : Nat → Bool} {held : Bool}
/-- A struct by value, field by field (fields of one cell). -/
theorem agg_fields {r : Reach} {b0 : Nat} {t : TypeId} {fs : Array Field} {v : Value} {d : DataW H} {p : List MemPlace} (hs : P.underlying t = some (.struct fs)) (hone : oneCellFields P fs = true) (hC : P.cellsOf t = fs.size)
    (hv : Value.okWide P w r b0 t v) (h : DataW.Trod enc P w base spare held t v d p) :
    ∃ l : List Value, v = .agg ⟨l⟩ ∧ l.length = fs.size ∧ ∀ (j : Nat) (f : Field), fs[j]? = some f → ∃ (c : Value) (y : DataW H × List MemPlace) (n : Nat), l[j]? = some c ∧ DataW.trod enc P w base spare held n f.type [c] = some y := by
  obtain ⟨cs, rfl, hsz⟩ := okWide_struct hs hv
  obtain ⟨l⟩ := cs
  obtain ⟨fuel, hf⟩ := h
  obtain ⟨xs, n, _, hx, _, hlen, hg⟩ := DataW.trod_struct hs hf
  have hl : l.length = fs.size := by rw [← hC, ← hsz]; rfl
  refine ⟨l, rfl, hl, fun j f hj => ?_⟩
  obtain ⟨ho, hk⟩ := hone_of hone j f hj
  have hjl : j < fs.size := (Array.getElem?_eq_some_iff.1 hj).1
  have h1 := hg j f hj
  rw [ho, hk] at h1
  have hone' : (((Value.agg ⟨l⟩).cells.toList).drop j).take 1 = [l[j]'(by omega)] := by
    show (l.drop j).take 1 = _
    rw [List.drop_eq_getElem_cons (by omega)]
    rfl
  rw [hone'] at h1
  exact ⟨_, _, _, List.getElem?_eq_getElem (by omega), h1.trans (List.getElem?_eq_getElem (by omega))⟩
theorem field_int {l : List Value} {j : Nat} {t : TypeId} {k : IntKind} (h : ∃ (c : Value) (y : DataW H × List MemPlace) (n : Nat), l[j]? = some c ∧ DataW.trod enc P w base spare held n t [c] = some y) (hu : P.underlying t = some (.int k)) : ∃ a, l[j]? = some (.int k a) ∧ (Lit.int k a).wf = true := by
  obtain ⟨c, y, n, hc, ht⟩ := h
  obtain ⟨a, e, _, wa⟩ := DataW.trod_int hu ht
  simp only [List.cons.injEq, and_true] at e
  exact ⟨a, by rw [hc, e], wa⟩
theorem field_bool {l : List Value} {j : Nat} {t : TypeId} (h : ∃ (c : Value) (y : DataW H × List MemPlace) (n : Nat), l[j]? = some c ∧ DataW.trod enc P w base spare held n t [c] = some y) (hu : P.underlying t = some .bool) : ∃ a, l[j]? = some (.bool a) := by
  obtain ⟨c, y, n, hc, ht⟩ := h
  obtain ⟨a, e, _⟩ := DataW.trod_bool hu ht
  simp only [List.cons.injEq, and_true] at e
  exact ⟨a, by rw [hc, e]⟩
end
section
variable {H : Type} {enc : TypeId × Value → H} {P : Program} {w : World} {base : Nat} {spare : Nat → Bool} {held : Bool}
theorem list_of_each {α : Type} {R : Nat → α → Prop} : ∀ (n : Nat), (∀ i, i < n → ∃ x, R i x) → ∃ xs : List α, xs.length = n ∧ ∀ i x, xs[i]? = some x → R i x
  | 0, _ => ⟨[], rfl, fun i x h => by simp at h⟩
  | n + 1, h => by
    obtain ⟨xs, hl, hx⟩ := list_of_each n (fun i hi => h i (by omega))
    obtain ⟨y, hy⟩ := h n (by omega)
    refine ⟨xs ++ [y], by simp [hl], fun i x hi => ?_⟩
    by_cases hin : i < n
    · rw [List.getElem?_append_left (by omega)] at hi
      exact hx i x hi
    · have hlt := (List.getElem?_eq_some_iff.1 hi).1
      simp at hlt
      obtain rfl : i = n := by omega
      rw [List.getElem?_append_right (by omega), hl] at hi
      simp at hi
      rw [← hi]; exact hy
/-- A slice of structs (fields of one cell) reads as a row of elements. -/
theorem slice_C {α : Type} (d : PrintWords.Kd α) {t e : TypeId} {fs : Array Field} {fuel : Nat} {c : Value} {y : DataW H × List MemPlace} (ht : P.underlying t = some (.slice e)) (he : P.underlying e = some (.struct fs)) (hone : oneCellFields P fs = true) (hC : P.cellsOf e = fs.size) (hd : d.sz = fs.size)
    (hel : ∀ (l : List Value), l.length = fs.size → (∀ (j : Nat) (f : Field), fs[j]? = some f → ∃ (c : Value) (y : DataW H × List MemPlace) (n : Nat), l[j]? = some c ∧ DataW.trod enc P w base spare held n f.type [c] = some y) → ∃ x : α, d.K w x l)
    (h : DataW.trod enc P w base spare held fuel t [c] = some y) : ∃ (A : Option Addr) (cap : Nat) (xs : List α), c = .slice A xs.length cap ∧ xs.length ≤ cap ∧ PrintWords.Kd.C d w A xs.length xs := by
  rcases open_slice ht h with ⟨hcs, _⟩ | ⟨a, len, cap, m, n, D, Pl, hcs, _, hl, hm, hmm, _, hi⟩
  · simp only [List.cons.injEq, and_true] at hcs
    exact ⟨none, 0, [], hcs, Nat.le_refl _, rfl, by simp, fun h => by simp at h⟩
  · simp only [List.cons.injEq, and_true] at hcs
    have hlm : len ≤ m := by rw [hmm]; split <;> omega
    obtain ⟨xs, hxl, hx⟩ := list_of_each (R := fun i x => ∃ cs : List Value, cs.length = d.sz ∧ d.K w x cs ∧ ∀ j u, cs[j]? = some u → w.cell? (a.add (i * d.sz + j)) = some u) len (fun i hil => by
      obtain ⟨cs', hc, ht'⟩ := hi i (by omega)
      rw [hC] at hc
      obtain ⟨ys, n', hn', hy, hlen, hyl, hf⟩ := DataW.trod_struct he ht'
      obtain ⟨_, hcl, hat⟩ := World.cells?_some hc
      obtain ⟨x, hK⟩ := hel cs' hcl (fun j f hj => by
        obtain ⟨ho, hk⟩ := hone_of hone j f hj
        have hjl : j < fs.size := (Array.getElem?_eq_some_iff.1 hj).1
        have h1 := hf j f hj
        rw [ho, hk] at h1
        have hone' : (cs'.drop j).take 1 = [cs'[j]'(by omega)] := by
          rw [List.drop_eq_getElem_cons (by omega)]
          rfl
        rw [hone'] at h1
        exact ⟨_, _, _, List.getElem?_eq_getElem (by omega), h1.trans (List.getElem?_eq_getElem (by omega))⟩)
      refine ⟨x, cs', by rw [hd]; exact hcl, hK, fun j u hu => ?_⟩
      have hjl : j < cs'.length := (List.getElem?_eq_some_iff.1 hu).1
      rw [hd, ← Go.Deep.add_add, hat j (by omega), hu])
    subst hxl
    refine ⟨some a, cap, xs, hcs, hl, rfl, ?_, fun _ => ⟨a, rfl, hx⟩⟩
    simp only [maxLen] at hm
    omega
/-- A slice of whole numbers in a struct's field. -/
theorem slice_ints {t e : TypeId} {k : IntKind} {fuel : Nat} {c : Value} {y : DataW H × List MemPlace} (ht : P.underlying t = some (.slice e)) (he : P.underlying e = some (.int k)) (hC : P.cellsOf e = 1)
    (h : DataW.trod enc P w base (fun _ => true) held fuel t [c] = some y) : ∃ (A : Option Addr) (cap : Nat) (xs : List Int), c = .slice A xs.length cap ∧ xs.length ≤ cap ∧ PrintWords.Kd.C (PrintWords.Kd.int k) w A xs.length xs ∧ ∀ n ∈ xs, (Lit.int k n).wf = true := by
  have key : ∃ (a : Option Addr) (len cap : Nat) (zs : List Int), c = .slice a len cap ∧ ((a = none ∧ len = 0 ∧ cap = 0 ∧ zs = []) ∨ ∃ x, a = some x ∧ len ≤ cap ∧ cap ≤ maxLen ∧ zs.length = cap ∧ (∀ i, i < zs.length → w.cell? (x.add i) = some (.int k (zs.getD i 0))) ∧ ∀ n ∈ zs, (Lit.int k n).wf = true) := by
    rcases open_ints ht he hC h with ⟨hcs, _⟩ | ⟨x, l, cp, zs, hcs, _, hl, hm, hz, _, hcell, hwz⟩
    · simp only [List.cons.injEq, and_true] at hcs
      exact ⟨none, 0, 0, [], hcs, .inl ⟨rfl, rfl, rfl, rfl⟩⟩
    · simp only [List.cons.injEq, and_true] at hcs
      exact ⟨some x, l, cp, zs, hcs, .inr ⟨_, rfl, hl, hm, by simpa using hz, hcell, hwz⟩⟩
  obtain ⟨a, len, cap, zs, rfl, h1⟩ := key
  obtain ⟨l0, rfl, hr0, hm0, hw0, hc0⟩ := PrintWords.ReadsInt.ofRowC h1
  exact ⟨a, cap, l0, rfl, hc0, PrintWords.Kd.C_of_reads (d := (0 : Int)) (h1 := fun _ => rfl) hr0, hw0⟩
end
section
variable {H : Type} {enc : TypeId × Value → H} {w : World} {base : Nat} {spare : Nat → Bool} {held : Bool}
theorem list_Config (l : List Value) (h : l.length = 14) (a0 : Int) (a1 : Int) (a2 : Int) (a3 : Int) (a4 : Int) (a5 : Int) (a6 : Int) (a7 : Int) (a8 : Int) (a9 : Int) (a10 : Int) (a11 : Int) (a12 : Int) (a13 : Int) (h0 : l[0]? = some (.int .i64 a0)) (h1 : l[1]? = some (.int .i64 a1)) (h2 : l[2]? = some (.int .i64 a2)) (h3 : l[3]? = some (.int .i64 a3)) (h4 : l[4]? = some (.int .i64 a4)) (h5 : l[5]? = some (.int .i64 a5)) (h6 : l[6]? = some (.int .i64 a6)) (h7 : l[7]? = some (.int .i64 a7)) (h8 : l[8]? = some (.int .i64 a8)) (h9 : l[9]? = some (.int .i64 a9)) (h10 : l[10]? = some (.int .i64 a10)) (h11 : l[11]? = some (.int .i64 a11)) (h12 : l[12]? = some (.int .i64 a12)) (h13 : l[13]? = some (.int .i64 a13)) : l = [.int .i64 a0, .int .i64 a1, .int .i64 a2, .int .i64 a3, .int .i64 a4, .int .i64 a5, .int .i64 a6, .int .i64 a7, .int .i64 a8, .int .i64 a9, .int .i64 a10, .int .i64 a11, .int .i64 a12, .int .i64 a13] := by
  match l, h with
  | [c0, c1, c2, c3, c4, c5, c6, c7, c8, c9, c10, c11, c12, c13], _ =>
    simp at *
    simp [*]
theorem open_Config {r : Reach} {b0 : Nat} {v : Value} {d : DataW H} {p : List MemPlace} (hv : Value.okWide Try.prog w r b0 23 v) (h : DataW.Trod enc Try.prog w base spare held 23 v d p) :
    ∃ (a0 : Int) (a1 : Int) (a2 : Int) (a3 : Int) (a4 : Int) (a5 : Int) (a6 : Int) (a7 : Int) (a8 : Int) (a9 : Int) (a10 : Int) (a11 : Int) (a12 : Int) (a13 : Int), v = .agg #[.int .i64 a0, .int .i64 a1, .int .i64 a2, .int .i64 a3, .int .i64 a4, .int .i64 a5, .int .i64 a6, .int .i64 a7, .int .i64 a8, .int .i64 a9, .int .i64 a10, .int .i64 a11, .int .i64 a12, .int .i64 a13] ∧ (Lit.int .i64 a0).wf = true ∧ (Lit.int .i64 a1).wf = true ∧ (Lit.int .i64 a2).wf = true ∧ (Lit.int .i64 a3).wf = true ∧ (Lit.int .i64 a4).wf = true ∧ (Lit.int .i64 a5).wf = true ∧ (Lit.int .i64 a6).wf = true ∧ (Lit.int .i64 a7).wf = true ∧ (Lit.int .i64 a8).wf = true ∧ (Lit.int .i64 a9).wf = true ∧ (Lit.int .i64 a10).wf = true ∧ (Lit.int .i64 a11).wf = true ∧ (Lit.int .i64 a12).wf = true ∧ (Lit.int .i64 a13).wf = true := by
  obtain ⟨l, rfl, hl, hf⟩ := agg_fields Try.underlying23 (by kernel_rfl) (by kernel_rfl) hv h
  obtain ⟨a0, e0, w0⟩ := field_int (hf 0 _ rfl) Try.underlying3
  obtain ⟨a1, e1, w1⟩ := field_int (hf 1 _ rfl) Try.underlying3
  obtain ⟨a2, e2, w2⟩ := field_int (hf 2 _ rfl) Try.underlying3
  obtain ⟨a3, e3, w3⟩ := field_int (hf 3 _ rfl) Try.underlying3
  obtain ⟨a4, e4, w4⟩ := field_int (hf 4 _ rfl) Try.underlying3
  obtain ⟨a5, e5, w5⟩ := field_int (hf 5 _ rfl) Try.underlying3
  obtain ⟨a6, e6, w6⟩ := field_int (hf 6 _ rfl) Try.underlying3
  obtain ⟨a7, e7, w7⟩ := field_int (hf 7 _ rfl) Try.underlying3
  obtain ⟨a8, e8, w8⟩ := field_int (hf 8 _ rfl) Try.underlying3
  obtain ⟨a9, e9, w9⟩ := field_int (hf 9 _ rfl) Try.underlying3
  obtain ⟨a10, e10, w10⟩ := field_int (hf 10 _ rfl) Try.underlying3
  obtain ⟨a11, e11, w11⟩ := field_int (hf 11 _ rfl) Try.underlying3
  obtain ⟨a12, e12, w12⟩ := field_int (hf 12 _ rfl) Try.underlying3
  obtain ⟨a13, e13, w13⟩ := field_int (hf 13 _ rfl) Try.underlying3
  obtain rfl := list_Config l hl a0 a1 a2 a3 a4 a5 a6 a7 a8 a9 a10 a11 a12 a13 e0 e1 e2 e3 e4 e5 e6 e7 e8 e9 e10 e11 e12 e13
  exact ⟨a0, a1, a2, a3, a4, a5, a6, a7, a8, a9, a10, a11, a12, a13, rfl, w0, w1, w2, w3, w4, w5, w6, w7, w8, w9, w10, w11, w12, w13⟩
theorem list_Breaker (l : List Value) (h : l.length = 3) (v0 : Value) (v1 : Value) (v2 : Value) (h0 : l[0]? = some v0) (h1 : l[1]? = some v1) (h2 : l[2]? = some v2) : l = [v0, v1, v2] := by
  match l, h with
  | [c0, c1, c2], _ =>
    simp at *
    simp [*]
theorem open_Breaker {r : Reach} {b0 : Nat} {v : Value} {d : DataW H} {p : List MemPlace} (hv : Value.okWide Try.prog w r b0 26 v) (h : DataW.Trod enc Try.prog w base (fun _ => true) held 26 v d p) :
    ∃ (a0 : Int) (A1 : Option Addr) (c1 : Nat) (l1 : List Int) (a2 : Int), v = .agg #[.int .i64 a0, .slice A1 l1.length c1, .int .i64 a2] ∧ (Lit.int .i64 a0).wf = true ∧ l1.length ≤ c1 ∧ PrintWords.Kd.C (PrintWords.Kd.int .i64) w A1 l1.length l1 ∧ (∀ n ∈ l1, (Lit.int .i64 n).wf = true) ∧ (Lit.int .i64 a2).wf = true := by
  obtain ⟨l, rfl, hl, hf⟩ := agg_fields Try.underlying26 (by kernel_rfl) (by kernel_rfl) hv h
  obtain ⟨a0, e0, w0⟩ := field_int (hf 0 _ rfl) Try.underlying3
  obtain ⟨x1, y1, n1, e1, t1⟩ := hf 1 _ rfl
  obtain ⟨A1, c1, l1, rfl, hc1, hC1, hw1⟩ := slice_ints Try.underlying24 Try.underlying3 (by kernel_rfl) t1
  obtain ⟨a2, e2, w2⟩ := field_int (hf 2 _ rfl) Try.underlying3
  obtain rfl := list_Breaker l hl _ _ _ e0 e1 e2
  exact ⟨a0, A1, c1, l1, a2, rfl, w0, hc1, hC1, hw1, w2⟩
end
set_option maxRecDepth 100000 in
theorem lifted (os : Os) (started : os.Started) (H : Type) (enc : TypeId × Value → H) :
    ReturnsInHanded {} Try.checked os 3 .any (Rows.fnExactOnFailureSpec.pre6 enc Try.prog Try.f3 Rows.fnExactOnFailureRow.domain false) (Rows.fnExactOnFailureSpec.post enc Try.prog Try.f3 false true false false) := by
  refine returnsInHanded_of_change_sized (C := Try.checked) own started (by kernel_rfl) Try.func3
    (ChangeSpec.witness6 (enc := enc) (C := Try.checked) false ⟨#[], #[.agg #[.int .i64 0, .int .i64 0, .int .i64 0, .int .i64 0, .int .i64 0, .int .i64 0, .int .i64 0, .int .i64 0, .int .i64 0, .int .i64 0, .int .i64 0, .int .i64 0, .int .i64 0, .int .i64 0], .agg #[.int .i64 0, .slice none 0 0, .int .i64 0], .int .i64 0], []⟩ 8 (by kernel_rfl) (by kernel_rfl) (by kernel_rfl) (by kernel_rfl)) ?_
  intro W base args ds gs before hval0 hW hcnd hsz0 _
  have hsz : (DataW.weightsEach Try.prog (Try.f3.params.toList ++ Rows.fnExactOnFailureSpec.plain.varTypes Try.prog) (ds ++ gs)).all (· ≤ reachBytes) = true := hsz0
  have hval : ∀ (j : Nat) t v, Try.f3.params[j]? = some t → args[j]? = some v → Value.okWide Try.prog W .any base t v := hval0
  have hW' := hW
  obtain ⟨p, q, hA0, hV, rfl, hfz, hnd⟩ := hW
  have hA : DataW.TrodAll enc Try.prog W 0 (fun _ => true) true Try.f3.params.toList args.toList ds p := hA0
  rw [Try.params3] at hA hval hsz
  obtain ⟨v0, vs0, d0, ds0, p0, q0, hargs, rfl, rfl, h0, r0⟩ := trodAll_cons hA
  obtain ⟨v1, vs1, d1, ds1, p1, q1, rfl, rfl, rfl, h1, r1⟩ := trodAll_cons r0
  obtain ⟨v2, vs2, d2, ds2, p2, q2, rfl, rfl, rfl, h2, r2⟩ := trodAll_cons r1
  obtain ⟨rfl, rfl, rfl⟩ := trodAll_nil r2
  obtain rfl : args = #[v0, v1, v2] := by cases args; simp_all
  obtain ⟨rfl, rfl⟩ := trodVars_none hV
  have k0 := h0
  have lt0 : ∀ x ∈ p0, x.block < W.heap.size := by obtain ⟨m, hm⟩ := k0; exact DataW.trod_lt m _ _ _ hm
  have k1 := h1
  have lt1 : ∀ x ∈ p1, x.block < W.heap.size := by obtain ⟨m, hm⟩ := k1; exact DataW.trod_lt m _ _ _ hm
  obtain ⟨a0_0, a0_1, a0_2, a0_3, a0_4, a0_5, a0_6, a0_7, a0_8, a0_9, a0_10, a0_11, a0_12, a0_13, rfl, w0_0, w0_1, w0_2, w0_3, w0_4, w0_5, w0_6, w0_7, w0_8, w0_9, w0_10, w0_11, w0_12, w0_13⟩ := open_Config (hval 0 23 v0 rfl rfl) h0
  obtain ⟨a1_0, A1_1, c1_1, l1_1, a1_2, rfl, w1_0, hc1_1, hC1_1, hw1_1, w1_2⟩ := open_Breaker (hval 1 26 v1 rfl rfl) h1
  obtain ⟨a2, rfl, rfl, rfl, w2⟩ := open_int Try.underlying3 (hval 2 3 v2 rfl rfl) h2
  clear hA0 hval0 hsz0 hsz
  obtain ⟨k, hk⟩ := Pure.FnExactOnFailure a0_0 a0_1 a0_2 a0_3 a0_4 a0_5 a0_6 a0_7 a0_8 a0_9 a0_10 a0_11 a0_12 a0_13 a1_0 l1_1 a1_2 a2 hC1_1.2.1 w0_0 w0_1 w0_2 w0_3 w0_4 w0_5 w0_6 w0_7 w0_8 w0_9 w0_10 w0_11 w0_12 w0_13 w1_0 hw1_1 w1_2 w2
  refine (MFnExactOnFailure.laws_FnExactOnFailure.calls k a0_0 a0_1 a0_2 a0_3 a0_4 a0_5 a0_6 a0_7 a0_8 a0_9 a0_10 a0_11 a0_12 a0_13 a1_0 A1_1 c1_1 l1_1 a1_2 a2 true W hC1_1 hc1_1 hk).mono fun e W' ⟨he, bel⟩ => ?_
  subst he
  exact ⟨_, rfl, _, _, _, [], _, [], hW', trodAll_mk1 (shut_bool Try.underlying4 _), (trodAll_cons_mk (Below.trod laidOut (by kernel_rfl) (of_decide_eq_true (by kernel_rfl)) k0 bel lt0) (trodAll_cons_mk (Below.trod laidOut (by kernel_rfl) (of_decide_eq_true (by kernel_rfl)) k1 bel lt1) (trodAll_cons_mk (shut_int Try.underlying3 w2) trodAll_mk0))), rfl, bel.frame _, fun h => by cases h⟩
theorem over : Rows.fnExactOnFailureRow.holds Try.pinned (OpenSpec.ofChange Rows.fnExactOnFailureSpec) :=
  OpenClaim.holds_of_wide 3 Try.f3 rfl rfl rfl rfl rfl rfl rfl ⟨rfl, rfl, rfl, rfl, rfl⟩ rfl rfl rfl rfl rfl (by kernel_rfl) Try.func3 (by kernel_rfl)
    (of_decide_eq_true (by kernel_rfl)) (by unfold Func.isWrapper; first | (rw [if_pos (by decide +kernel)]; kernel_rfl) | (rw [if_neg (by decide +kernel)]; exact ⟨rfl, rfl⟩))
    (fun os started H enc _ => lifted os started H enc)
theorem proved : Rows.FnExactOnFailureSaid := over
#print axioms proved
end Go.Proofs.Ythafbkpoepblgae.fnExactOnFailure
namespace Go.Proofs.Ythafbkpoepblgae
/-- The row, under a short name, for the claim. -/
theorem fnExactOnFailure_holds : Rows.FnExactOnFailureSaid := fnExactOnFailure.proved
end Go.Proofs.Ythafbkpoepblgae
