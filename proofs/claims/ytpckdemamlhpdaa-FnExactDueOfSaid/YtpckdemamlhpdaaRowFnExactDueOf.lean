/-
The given statement Rows.FnExactDueOfSaid holds: called with any arguments the law FnExactDueOf returns true, and each argument reads afterwards as it did. No condition of our own.
-/
import Derived.Test.YtpckdemamlhpdaaRows
import Derived.Test.YtpckdemamlhpdaaMFnExactDueOfx5
import Derived.Test.YtpckdemamlhpdaaPureFnExactDueOf
import Derived.WalkKit
import Derived.ProofKit
import Derived.OpenShut
import Derived.ShutString
import Derived.ChangeOld
import Derived.Below
import Derived.SizedLaws
import Derived.Lib.SmallJoins
import Derived.Deep.Fields
import Derived.Deep.Slices
namespace Go.Proofs.Ytpckdemamlhpdaa.fnExactDueOf
open Go.ChangeShapes Go.WideShapes Go.ChangeAt Go.RowKit Go.Deep Go.Proofs.YtpckdemamlhpdaaW
open Go.ChangeMaps (open_string shut_string)
set_option linter.unusedVariables false
set_option linter.unusedSimpArgs false
theorem own : ownKnob Try.prog.godebug = none := by kernel_rfl
theorem laidOut : laidOutB Try.prog = true := by kernel_rfl
section
variable {H : Type} {enc : TypeId × Value → H} {P : Program} {w : World} {base : Nat} {spare : Nat → Bool} {held : Bool}
/-- A struct by value, field by field (fields of one cell). -/
theorem agg_fields {r : Reach} {b0 : Nat} {t : TypeId} {fs : Array Field} {v : Value} {d : DataW H} {p : List MemPlace} (hs : P.underlying t = some (.struct fs)) (hone : oneCellFields P fs = true) (hC : P.cellsOf t = fs.size)
    (hv : Value.okWide P w r b0 t v) (h : DataW.Trod enc P w base spare held t v d p) :
    ∃ l : List Value, v = .agg ⟨l⟩ ∧ l.length = fs.size ∧ ∀ (j : Nat) (f : Field), fs[j]? = some f → ∃ (c : Value) (y : DataW H × List MemPlace) (n : Nat), l[j]? = some c ∧ DataW.trod enc P w base spare held n f.type [c] = some y := by
  obtain ⟨cs, rfl, hsz⟩ := okWide_struct hs hv
  obtain ⟨l⟩ := cs
  obtain ⟨fuel, hf⟩ := h
  obtain ⟨xs, n, _, hx, _, hlen, hg⟩ := DataW.trod_struct hs hf
  have hl : l.length = fs.size := by rw [← hC, ← hsz]; rfl
  refine ⟨l, rfl, hl, fun j f hj => ?_⟩
  obtain ⟨ho, hk⟩ := hone_of hone j f hj
  have hjl : j < fs.size := (Array.getElem?_eq_some_iff.1 hj).1
  have h1 := hg j f hj
  rw [ho, hk] at h1
  have hone' : (((Value.agg ⟨l⟩).cells.toList).drop j).take 1 = [l[j]'(by omega)] := by
    show (l.drop j).take 1 = _
    rw [List.drop_eq_getElem_cons (by omega)]
    rfl
  rw [hone'] at h1
  exact ⟨_, _, _, List.getElem?_eq_getElem (by omega), h1.trans (List.getElem?_eq_getElem (by omega))⟩
theorem field_int {l : List Value} {j : Nat} {t : TypeId} {k : IntKind} (h : ∃ (c : Value) (y : DataW H × List MemPlace) (n : Nat), l[j]? = some c ∧ DataW.trod enc P w base spare held n t [c] = some y) (hu : P.underlying t = some (.int k)) : ∃ a, l[j]? = some (.int k a) ∧ (Lit.int k a).wf = true := by
  obtain ⟨c, y, n, hc, ht⟩ := h
  obtain ⟨a, e, _, wa⟩ := DataW.trod_int hu ht
  simp only [List.cons.injEq, and_true] at e
  exact ⟨a, by rw [hc, e], wa⟩
theorem field_bool {l : List Value} {j : Nat} {t : TypeId} (h : ∃ (c : Value) (y : DataW H × List MemPlace) (n : Nat), l[j]? = some c ∧ DataW.trod enc P w base spare held n t [c] = some y) (hu : P.underlying t = some .bool) : ∃ a, l[j]? = some (.bool a) := by
  obtain ⟨c, y, n, hc, ht⟩ := h
  obtain ⟨a, e, _⟩ := DataW.trod_bool hu ht
  simp only [List.cons.injEq, and_true] at e
  exact ⟨a, by rw [hc, e]⟩
end
section
variable {H : Type} {enc : TypeId × Value → H} {P : Program} {w : World} {base : Nat} {spare : Nat → Bool} {held : Bool}
theorem list_of_each {α : Type} {R : Nat → α → Prop} : ∀ (n : Nat), (∀ i, i < n → ∃ x, R i x) → ∃ xs : List α, xs.length = n ∧ ∀ i x, xs[i]? = some x → R i x
  | 0, _ => ⟨[], rfl, fun i x h => by simp at h⟩
  | n + 1, h => by
    obtain ⟨xs, hl, hx⟩ := list_of_each n (fun i hi => h i (by omega))
    obtain ⟨y, hy⟩ := h n (by omega)
    refine ⟨xs ++ [y], by simp [hl], fun i x hi => ?_⟩
    by_cases hin : i < n
    · rw [List.getElem?_append_left (by omega)] at hi
      exact hx i x hi
    · have hlt := (List.getElem?_eq_some_iff.1 hi).1
      simp at hlt
      obtain rfl : i = n := by omega
      rw [List.getElem?_append_right (by omega), hl] at hi
      simp at hi
      rw [← hi]; exact hy
/-- A slice of structs (fields of one cell) reads as a row of elements. -/
theorem slice_C {α : Type} (d : PrintWords.Kd α) {t e : TypeId} {fs : Array Field} {fuel : Nat} {c : Value} {y : DataW H × List MemPlace} (ht : P.underlying t = some (.slice e)) (he : P.underlying e = some (.struct fs)) (hone : oneCellFields P fs = true) (hC : P.cellsOf e = fs.size) (hd : d.sz = fs.size)
    (hel : ∀ (l : List Value), l.length = fs.size → (∀ (j : Nat) (f : Field), fs[j]? = some f → ∃ (c : Value) (y : DataW H × List MemPlace) (n : Nat), l[j]? = some c ∧ DataW.trod enc P w base spare held n f.type [c] = some y) → ∃ x : α, d.K w x l)
    (h : DataW.trod enc P w base spare held fuel t [c] = some y) : ∃ (A : Option Addr) (cap : Nat) (xs : List α), c = .slice A xs.length cap ∧ xs.length ≤ cap ∧ PrintWords.Kd.C d w A xs.length xs := by
  rcases open_slice ht h with ⟨hcs, _⟩ | ⟨a, len, cap, m, n, D, Pl, hcs, _, hl, hm, hmm, _, hi⟩
  · simp only [List.cons.injEq, and_true] at hcs
    exact ⟨none, 0, [], hcs, Nat.le_refl _, rfl, by simp, fun h => by simp at h⟩
  · simp only [List.cons.injEq, and_true] at hcs
    have hlm : len ≤ m := by rw [hmm]; split <;> omega
    obtain ⟨xs, hxl, hx⟩ := list_of_each (R := fun i x => ∃ cs : List Value, cs.length = d.sz ∧ d.K w x cs ∧ ∀ j u, cs[j]? = some u → w.cell? (a.add (i * d.sz + j)) = some u) len (fun i hil => by
      obtain ⟨cs', hc, ht'⟩ := hi i (by omega)
      rw [hC] at hc
      obtain ⟨ys, n', hn', hy, hlen, hyl, hf⟩ := DataW.trod_struct he ht'
      obtain ⟨_, hcl, hat⟩ := World.cells?_some hc
      obtain ⟨x, hK⟩ := hel cs' hcl (fun j f hj => by
        obtain ⟨ho, hk⟩ := hone_of hone j f hj
        have hjl : j < fs.size := (Array.getElem?_eq_some_iff.1 hj).1
        have h1 := hf j f hj
        rw [ho, hk] at h1
        have hone' : (cs'.drop j).take 1 = [cs'[j]'(by omega)] := by
          rw [List.drop_eq_getElem_cons (by omega)]
          rfl
        rw [hone'] at h1
        exact ⟨_, _, _, List.getElem?_eq_getElem (by omega), h1.trans (List.getElem?_eq_getElem (by omega))⟩)
      refine ⟨x, cs', by rw [hd]; exact hcl, hK, fun j u hu => ?_⟩
      have hjl : j < cs'.length := (List.getElem?_eq_some_iff.1 hu).1
      rw [hd, ← Go.Deep.add_add, hat j (by omega), hu])
    subst hxl
    refine ⟨some a, cap, xs, hcs, hl, rfl, ?_, fun _ => ⟨a, rfl, hx⟩⟩
    simp only [maxLen] at hm
    omega
/-- A slice of whole numbers in a struct's field. -/
theorem slice_ints {t e : TypeId} {k : IntKind} {fuel : Nat} {c : Value} {y : DataW H × List MemPlace} (ht : P.underlying t = some (.slice e)) (he : P.underlying e = some (.int k)) (hC : P.cellsOf e = 1)
    (h : DataW.trod enc P w base (fun _ => true) held fuel t [c] = some y) : ∃ (A : Option Addr) (cap : Nat) (xs : List Int), c = .slice A xs.length cap ∧ xs.length ≤ cap ∧ PrintWords.Kd.C (PrintWords.Kd.int k) w A xs.length xs ∧ ∀ n ∈ xs, (Lit.int k n).wf = true := by
  have key : ∃ (a : Option Addr) (len cap : Nat) (zs : List Int), c = .slice a len cap ∧ ((a = none ∧ len = 0 ∧ cap = 0 ∧ zs = []) ∨ ∃ x, a = some x ∧ len ≤ cap ∧ cap ≤ maxLen ∧ zs.length = cap ∧ (∀ i, i < zs.length → w.cell? (x.add i) = some (.int k (zs.getD i 0))) ∧ ∀ n ∈ zs, (Lit.int k n).wf = true) := by
    rcases open_ints ht he hC h with ⟨hcs, _⟩ | ⟨x, l, cp, zs, hcs, _, hl, hm, hz, _, hcell, hwz⟩
    · simp only [List.cons.injEq, and_true] at hcs
      exact ⟨none, 0, 0, [], hcs, .inl ⟨rfl, rfl, rfl, rfl⟩⟩
    · simp only [List.cons.injEq, and_true] at hcs
      exact ⟨some x, l, cp, zs, hcs, .inr ⟨_, rfl, hl, hm, by simpa using hz, hcell, hwz⟩⟩
  obtain ⟨a, len, cap, zs, rfl, h1⟩ := key
  obtain ⟨l0, rfl, hr0, hm0, hw0, hc0⟩ := PrintWords.ReadsInt.ofRowC h1
  exact ⟨a, cap, l0, rfl, hc0, PrintWords.Kd.C_of_reads (d := (0 : Int)) (h1 := fun _ => rfl) hr0, hw0⟩
end
section
variable {H : Type} {enc : TypeId × Value → H} {w : World} {base : Nat} {spare : Nat → Bool} {held : Bool}
theorem list_Due (l : List Value) (h : l.length = 3) (a0 : Int) (a1 : Int) (a2 : Int) (h0 : l[0]? = some (.int .i64 a0)) (h1 : l[1]? = some (.int .i64 a1)) (h2 : l[2]? = some (.int .i64 a2)) : l = [.int .i64 a0, .int .i64 a1, .int .i64 a2] := by
  match l, h with
  | [c0, c1, c2], _ =>
    simp at *
    simp [*]
theorem list_Heap (l : List Value) (h : l.length = 2) (v0 : Value) (v1 : Value) (h0 : l[0]? = some v0) (h1 : l[1]? = some v1) : l = [v0, v1] := by
  match l, h with
  | [c0, c1], _ =>
    simp at *
    simp [*]
theorem open_Heap {r : Reach} {b0 : Nat} {v : Value} {d : DataW H} {p : List MemPlace} (hv : Value.okWide Try.prog w r b0 32 v) (h : DataW.Trod enc Try.prog w base (fun _ => true) held 32 v d p) :
    ∃ (A0 : Option Addr) (c0 : Nat) (l0 : List MFnExactDueOf.S94) (a1 : Int), v = .agg #[.slice A0 l0.length c0, .int .i64 a1] ∧ l0.length ≤ c0 ∧ PrintWords.Kd.C MFnExactDueOf.k94 w A0 l0.length l0 ∧ (Lit.int .i64 a1).wf = true := by
  obtain ⟨l, rfl, hl, hf⟩ := agg_fields Try.underlying32 (by kernel_rfl) (by kernel_rfl) hv h
  obtain ⟨x0, y0, n0, e0, t0⟩ := hf 0 _ rfl
  obtain ⟨A0, c0, l0, rfl, hc0, hC0⟩ := slice_C MFnExactDueOf.k94 Try.underlying30 Try.underlying94 (by kernel_rfl) (by kernel_rfl) rfl (fun m hm g => by
    obtain ⟨b0, g0, _⟩ := field_int (g 0 _ rfl) Try.underlying3
    obtain ⟨b1, g1, _⟩ := field_int (g 1 _ rfl) Try.underlying3
    obtain ⟨b2, g2, _⟩ := field_int (g 2 _ rfl) Try.underlying3
    obtain rfl := list_Due m hm b0 b1 b2 g0 g1 g2
    exact ⟨⟨b0, b1, b2⟩, MFnExactDueOf.k94_mk _ _⟩) t0
  obtain ⟨a1, e1, w1⟩ := field_int (hf 1 _ rfl) Try.underlying3
  obtain rfl := list_Heap l hl _ _ e0 e1
  exact ⟨A0, c0, l0, a1, rfl, hc0, hC0, w1⟩
end
set_option maxRecDepth 100000 in
theorem lifted (os : Os) (started : os.Started) (H : Type) (enc : TypeId × Value → H) :
    ReturnsInHanded {} Try.checked os 8 .any (Rows.fnExactDueOfSpec.pre6 enc Try.prog Try.f8 Rows.fnExactDueOfRow.domain false) (Rows.fnExactDueOfSpec.post enc Try.prog Try.f8 false true false false) := by
  refine returnsInHanded_of_change_sized (C := Try.checked) own started (by kernel_rfl) Try.func8
    (ChangeSpec.witness6 (enc := enc) (C := Try.checked) false ⟨#[], #[.agg #[.slice none 0 0, .int .i64 0], .int .i64 0], []⟩ 8 (by kernel_rfl) (by kernel_rfl) (by kernel_rfl) (by kernel_rfl)) ?_
  intro W base args ds gs before hval0 hW hcnd hsz0 _
  have hsz : (DataW.weightsEach Try.prog (Try.f8.params.toList ++ Rows.fnExactDueOfSpec.plain.varTypes Try.prog) (ds ++ gs)).all (· ≤ reachBytes) = true := hsz0
  have hval : ∀ (j : Nat) t v, Try.f8.params[j]? = some t → args[j]? = some v → Value.okWide Try.prog W .any base t v := hval0
  have hW' := hW
  obtain ⟨p, q, hA0, hV, rfl, hfz, hnd⟩ := hW
  have hA : DataW.TrodAll enc Try.prog W 0 (fun _ => true) true Try.f8.params.toList args.toList ds p := hA0
  rw [Try.params8] at hA hval hsz
  obtain ⟨v0, vs0, d0, ds0, p0, q0, hargs, rfl, rfl, h0, r0⟩ := trodAll_cons hA
  obtain ⟨v1, vs1, d1, ds1, p1, q1, rfl, rfl, rfl, h1, r1⟩ := trodAll_cons r0
  obtain ⟨rfl, rfl, rfl⟩ := trodAll_nil r1
  obtain rfl : args = #[v0, v1] := by cases args; simp_all
  obtain ⟨rfl, rfl⟩ := trodVars_none hV
  have k0 := h0
  have lt0 : ∀ x ∈ p0, x.block < W.heap.size := by obtain ⟨m, hm⟩ := k0; exact DataW.trod_lt m _ _ _ hm
  obtain ⟨A0_0, c0_0, l0_0, a0_1, rfl, hc0_0, hC0_0, w0_1⟩ := open_Heap (hval 0 32 v0 rfl rfl) h0
  obtain ⟨a1, rfl, rfl, rfl, w1⟩ := open_int Try.underlying3 (hval 1 3 v1 rfl rfl) h1
  clear hA0 hval0 hsz0 hsz
  obtain ⟨k, hk⟩ := Pure.FnExactDueOf l0_0 a0_1 a1 hC0_0.2.1 w0_1 w1
  refine (MFnExactDueOf.laws_FnExactDueOf.calls k A0_0 c0_0 l0_0 a0_1 a1 true W hC0_0 hc0_0 hk).mono fun e W' ⟨he, bel⟩ => ?_
  subst he
  exact ⟨_, rfl, _, _, _, [], _, [], hW', trodAll_mk1 (shut_bool Try.underlying4 _), (trodAll_cons_mk (Below.trod laidOut (by kernel_rfl) (of_decide_eq_true (by kernel_rfl)) k0 bel lt0) (trodAll_cons_mk (shut_int Try.underlying3 w1) trodAll_mk0)), rfl, bel.frame _, fun h => by cases h⟩
theorem over : Rows.fnExactDueOfRow.holds Try.pinned (OpenSpec.ofChange Rows.fnExactDueOfSpec) :=
  OpenClaim.holds_of_wide 8 Try.f8 rfl rfl rfl rfl rfl rfl rfl ⟨rfl, rfl, rfl, rfl, rfl⟩ rfl rfl rfl rfl rfl (by kernel_rfl) Try.func8 (by kernel_rfl)
    (of_decide_eq_true (by kernel_rfl)) (by unfold Func.isWrapper; first | (rw [if_pos (by decide +kernel)]; kernel_rfl) | (rw [if_neg (by decide +kernel)]; exact ⟨rfl, rfl⟩))
    (fun os started H enc _ => lifted os started H enc)
theorem proved : Rows.FnExactDueOfSaid := over
#print axioms proved
end Go.Proofs.Ytpckdemamlhpdaa.fnExactDueOf
namespace Go.Proofs.Ytpckdemamlhpdaa
/-- The row, under a short name, for the claim. -/
theorem fnExactDueOf_holds : Rows.FnExactDueOfSaid := fnExactDueOf.proved
end Go.Proofs.Ytpckdemamlhpdaa
