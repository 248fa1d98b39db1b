/-
The given card's statement Rows.FnExactConfigTextCardSaid holds: called with any arguments, Go's table of powers of ten lying as its initialiser lays it, the law FnExactConfigText returns true, and each argument reads afterwards as it did; what is laid is tied to the program's text by the given tie. No condition of our own. (THE TIED CARD)
-/
import Derived.Test.YthafbkpoepblgaaDoorTie
import Derived.Test.YthafbkpoepblgaaDoorCards
import Derived.Test.YthafbkpoepblgaaDoorTab
import Derived.LaidMore
import Derived.MakeChecks
import Derived.Stop.Joined
import Derived.Stop.LaidErr
import Derived.Lib.LaidTab
import Derived.SevenTiedAt
import Derived.Test.YthafbkpoepblgaaDoorRows
import Derived.Test.YthafbkpoepblgaaDoorMFnExactConfigTextx5
import Derived.Test.YthafbkpoepblgaaDoorPureFnExactConfigText
import Derived.WalkKit
import Derived.ProofKit
import Derived.OpenShut
import Derived.ShutString
import Derived.ChangeOld
import Derived.Below
import Derived.SizedLaws
import Derived.Lib.SmallJoins
import Derived.Deep.Fields
import Derived.Deep.Slices
namespace Go.Proofs.YthafbkpoepblgaaDoor.fnExactConfigText
open Go.ChangeShapes Go.WideShapes Go.ChangeAt Go.RowKit Go.Deep Go.Proofs.YthafbkpoepblgaaDoorW
open Go.ChangeMaps (open_string shut_string)
set_option linter.unusedVariables false
set_option linter.unusedSimpArgs false
theorem own : ownKnob Tryd.prog.godebug = none := by kernel_rfl
theorem laidOut : laidOutB Tryd.prog = true := by kernel_rfl
section
variable {H : Type} {enc : TypeId × Value → H} {P : Program} {w : World} {base : Nat} {spare : Nat → Bool} {held : Bool}
/-- A struct by value, field by field (fields of one cell). -/
theorem agg_fields {r : Reach} {b0 : Nat} {t : TypeId} {fs : Array Field} {v : Value} {d : DataW H} {p : List MemPlace} (hs : P.underlying t = some (.struct fs)) (hone : oneCellFields P fs = true) (hC : P.cellsOf t = fs.size)
    (hv : Value.okWide P w r b0 t v) (h : DataW.Trod enc P w base spare held t v d p) :
    ∃ l : List Value, v = .agg ⟨l⟩ ∧ l.length = fs.size ∧ ∀ (j : Nat) (f : Field), fs[j]? = some f → ∃ (c : Value) (y : DataW H × List MemPlace) (n : Nat), l[j]? = some c ∧ DataW.trod enc P w base spare held n f.type [c] = some y := by
  obtain ⟨cs, rfl, hsz⟩ := okWide_struct hs hv
  obtain ⟨l⟩ := cs
  obtain ⟨fuel, hf⟩ := h
  obtain ⟨xs, n, _, hx, _, hlen, hg⟩ := DataW.trod_struct hs hf
  have hl : l.length = fs.size := by rw [← hC, ← hsz]; rfl
  refine ⟨l, rfl, hl, fun j f hj => ?_⟩
  obtain ⟨ho, hk⟩ := hone_of hone j f hj
  have hjl : j < fs.size := (Array.getElem?_eq_some_iff.1 hj).1
  have h1 := hg j f hj
  rw [ho, hk] at h1
  have hone' : (((Value.agg ⟨l⟩).cells.toList).drop j).take 1 = [l[j]'(by omega)] := by
    show (l.drop j).take 1 = _
    rw [List.drop_eq_getElem_cons (by omega)]
    rfl
  rw [hone'] at h1
  exact ⟨_, _, _, List.getElem?_eq_getElem (by omega), h1.trans (List.getElem?_eq_getElem (by omega))⟩
theorem field_int {l : List Value} {j : Nat} {t : TypeId} {k : IntKind} (h : ∃ (c : Value) (y : DataW H × List MemPlace) (n : Nat), l[j]? = some c ∧ DataW.trod enc P w base spare held n t [c] = some y) (hu : P.underlying t = some (.int k)) : ∃ a, l[j]? = some (.int k a) ∧ (Lit.int k a).wf = true := by
  obtain ⟨c, y, n, hc, ht⟩ := h
  obtain ⟨a, e, _, wa⟩ := DataW.trod_int hu ht
  simp only [List.cons.injEq, and_true] at e
  exact ⟨a, by rw [hc, e], wa⟩
theorem field_bool {l : List Value} {j : Nat} {t : TypeId} (h : ∃ (c : Value) (y : DataW H × List MemPlace) (n : Nat), l[j]? = some c ∧ DataW.trod enc P w base spare held n t [c] = some y) (hu : P.underlying t = some .bool) : ∃ a, l[j]? = some (.bool a) := by
  obtain ⟨c, y, n, hc, ht⟩ := h
  obtain ⟨a, e, _⟩ := DataW.trod_bool hu ht
  simp only [List.cons.injEq, and_true] at e
  exact ⟨a, by rw [hc, e]⟩
end
section
variable {H : Type} {enc : TypeId × Value → H} {w : World} {base : Nat} {spare : Nat → Bool} {held : Bool}
theorem list_Config (l : List Value) (h : l.length = 14) (a0 : Int) (a1 : Int) (a2 : Int) (a3 : Int) (a4 : Int) (a5 : Int) (a6 : Int) (a7 : Int) (a8 : Int) (a9 : Int) (a10 : Int) (a11 : Int) (a12 : Int) (a13 : Int) (h0 : l[0]? = some (.int .i64 a0)) (h1 : l[1]? = some (.int .i64 a1)) (h2 : l[2]? = some (.int .i64 a2)) (h3 : l[3]? = some (.int .i64 a3)) (h4 : l[4]? = some (.int .i64 a4)) (h5 : l[5]? = some (.int .i64 a5)) (h6 : l[6]? = some (.int .i64 a6)) (h7 : l[7]? = some (.int .i64 a7)) (h8 : l[8]? = some (.int .i64 a8)) (h9 : l[9]? = some (.int .i64 a9)) (h10 : l[10]? = some (.int .i64 a10)) (h11 : l[11]? = some (.int .i64 a11)) (h12 : l[12]? = some (.int .i64 a12)) (h13 : l[13]? = some (.int .i64 a13)) : l = [.int .i64 a0, .int .i64 a1, .int .i64 a2, .int .i64 a3, .int .i64 a4, .int .i64 a5, .int .i64 a6, .int .i64 a7, .int .i64 a8, .int .i64 a9, .int .i64 a10, .int .i64 a11, .int .i64 a12, .int .i64 a13] := by
  match l, h with
  | [c0, c1, c2, c3, c4, c5, c6, c7, c8, c9, c10, c11, c12, c13], _ =>
    simp at *
    simp [*]
theorem open_Config {r : Reach} {b0 : Nat} {v : Value} {d : DataW H} {p : List MemPlace} (hv : Value.okWide Tryd.prog w r b0 23 v) (h : DataW.Trod enc Tryd.prog w base spare held 23 v d p) :
    ∃ (a0 : Int) (a1 : Int) (a2 : Int) (a3 : Int) (a4 : Int) (a5 : Int) (a6 : Int) (a7 : Int) (a8 : Int) (a9 : Int) (a10 : Int) (a11 : Int) (a12 : Int) (a13 : Int), v = .agg #[.int .i64 a0, .int .i64 a1, .int .i64 a2, .int .i64 a3, .int .i64 a4, .int .i64 a5, .int .i64 a6, .int .i64 a7, .int .i64 a8, .int .i64 a9, .int .i64 a10, .int .i64 a11, .int .i64 a12, .int .i64 a13] ∧ (Lit.int .i64 a0).wf = true ∧ (Lit.int .i64 a1).wf = true ∧ (Lit.int .i64 a2).wf = true ∧ (Lit.int .i64 a3).wf = true ∧ (Lit.int .i64 a4).wf = true ∧ (Lit.int .i64 a5).wf = true ∧ (Lit.int .i64 a6).wf = true ∧ (Lit.int .i64 a7).wf = true ∧ (Lit.int .i64 a8).wf = true ∧ (Lit.int .i64 a9).wf = true ∧ (Lit.int .i64 a10).wf = true ∧ (Lit.int .i64 a11).wf = true ∧ (Lit.int .i64 a12).wf = true ∧ (Lit.int .i64 a13).wf = true := by
  obtain ⟨l, rfl, hl, hf⟩ := agg_fields Tryd.underlying23 (by kernel_rfl) (by kernel_rfl) hv h
  obtain ⟨a0, e0, w0⟩ := field_int (hf 0 _ rfl) Tryd.underlying3
  obtain ⟨a1, e1, w1⟩ := field_int (hf 1 _ rfl) Tryd.underlying3
  obtain ⟨a2, e2, w2⟩ := field_int (hf 2 _ rfl) Tryd.underlying3
  obtain ⟨a3, e3, w3⟩ := field_int (hf 3 _ rfl) Tryd.underlying3
  obtain ⟨a4, e4, w4⟩ := field_int (hf 4 _ rfl) Tryd.underlying3
  obtain ⟨a5, e5, w5⟩ := field_int (hf 5 _ rfl) Tryd.underlying3
  obtain ⟨a6, e6, w6⟩ := field_int (hf 6 _ rfl) Tryd.underlying3
  obtain ⟨a7, e7, w7⟩ := field_int (hf 7 _ rfl) Tryd.underlying3
  obtain ⟨a8, e8, w8⟩ := field_int (hf 8 _ rfl) Tryd.underlying3
  obtain ⟨a9, e9, w9⟩ := field_int (hf 9 _ rfl) Tryd.underlying3
  obtain ⟨a10, e10, w10⟩ := field_int (hf 10 _ rfl) Tryd.underlying3
  obtain ⟨a11, e11, w11⟩ := field_int (hf 11 _ rfl) Tryd.underlying3
  obtain ⟨a12, e12, w12⟩ := field_int (hf 12 _ rfl) Tryd.underlying3
  obtain ⟨a13, e13, w13⟩ := field_int (hf 13 _ rfl) Tryd.underlying3
  obtain rfl := list_Config l hl a0 a1 a2 a3 a4 a5 a6 a7 a8 a9 a10 a11 a12 a13 e0 e1 e2 e3 e4 e5 e6 e7 e8 e9 e10 e11 e12 e13
  exact ⟨a0, a1, a2, a3, a4, a5, a6, a7, a8, a9, a10, a11, a12, a13, rfl, w0, w1, w2, w3, w4, w5, w6, w7, w8, w9, w10, w11, w12, w13⟩
end
theorem tab_of {W : World} (h : laidMetH Tryd.prog Rows.fnExactConfigTextRow.laid W) : Tab.TabT W := by
  rw [MakeChecks.laidMetH_plain _ _ _ (by kernel_rfl)] at h
  exact Go.Lib.tabIs_of_head (name := "internal/strconv.uint64pow10") (k := .u64) (zs := Go.Lib.pow10Tab) (g := 0) (t := 51) (e := 44) (n := 20) (by kernel_rfl) (by kernel_rfl) Tryd.underlying51 Tryd.underlying44 (by kernel_rfl) (by kernel_rfl) h.tail.tail
theorem door_met (os : Os) (args : Array Value) : laidMetH Tryd.prog Rows.fnExactConfigTextRow.laid ((World.doorLaid Tryd.prog 400 os).forCall (fun _ _ => 0) ⟨#[], args, []⟩).memory :=
  laidMetH_of_parts3 (fuel := 8) (laidMet_of_run' 8 (by kernel_rfl) (by kernel_rfl)) (by kernel_rfl) (by kernel_rfl)
set_option maxRecDepth 100000 in
theorem lifted (os : Os) (started : os.Started) (H : Type) (enc : TypeId × Value → H) :
    ReturnsInHanded {} Tryd.checked os 3 .any (fun w args => (Rows.fnExactConfigTextSpec.pre enc Tryd.prog Tryd.f3 [] false w args ∧ laidMetH Tryd.prog Rows.fnExactConfigTextRow.laid w) ∧ sizedMet enc Tryd.prog Tryd.f3 (OpenSpec.ofChange Rows.fnExactConfigTextSpec) false w args) (Rows.fnExactConfigTextSpec.post enc Tryd.prog Tryd.f3 false true false false) := by
  refine returnsInHanded_of_change_and (C := Tryd.checked) (X := fun w _ => laidMetH Tryd.prog Rows.fnExactConfigTextRow.laid w) (fun _ _ _ hh h => h.of_heap hh) own started (by kernel_rfl) Tryd.func3
    (ChangeSpec.witness_shaped (enc := enc) (C := Tryd.checked) (os := os) (X := fun w _ => laidMetH Tryd.prog Rows.fnExactConfigTextRow.laid w) false (World.doorLaid Tryd.prog 400 os) #[.agg #[.int .i64 0, .int .i64 0, .int .i64 0, .int .i64 0, .int .i64 0, .int .i64 0, .int .i64 0, .int .i64 0, .int .i64 0, .int .i64 0, .int .i64 0, .int .i64 0, .int .i64 0, .int .i64 0]] 8 rfl (World.shaped_of_RefB (by kernel_rfl) (by kernel_rfl)) (by kernel_rfl) (by kernel_rfl) (by kernel_rfl) (door_met os _)) ?_
  intro W base args ds gs before hval0 hW hcnd hsz0 hL _
  have hT := tab_of hL
  have hsz : (DataW.weightsEach Tryd.prog (Tryd.f3.params.toList ++ Rows.fnExactConfigTextSpec.plain.varTypes Tryd.prog) (ds ++ gs)).all (· ≤ reachBytes) = true := hsz0
  have hval : ∀ (j : Nat) t v, Tryd.f3.params[j]? = some t → args[j]? = some v → Value.okWide Tryd.prog W .any base t v := hval0
  have hW' := hW
  obtain ⟨p, q, hA0, hV, rfl, hfz, hnd⟩ := hW
  have hA : DataW.TrodAll enc Tryd.prog W 0 (fun _ => true) true Tryd.f3.params.toList args.toList ds p := hA0
  rw [Tryd.params3] at hA hval hsz
  obtain ⟨v0, vs0, d0, ds0, p0, q0, hargs, rfl, rfl, h0, r0⟩ := trodAll_cons hA
  obtain ⟨rfl, rfl, rfl⟩ := trodAll_nil r0
  obtain rfl : args = #[v0] := by cases args; simp_all
  obtain ⟨rfl, rfl⟩ := trodVars_none hV
  have k0 := h0
  have lt0 : ∀ x ∈ p0, x.block < W.heap.size := by obtain ⟨m, hm⟩ := k0; exact DataW.trod_lt m _ _ _ hm
  obtain ⟨a0_0, a0_1, a0_2, a0_3, a0_4, a0_5, a0_6, a0_7, a0_8, a0_9, a0_10, a0_11, a0_12, a0_13, rfl, w0_0, w0_1, w0_2, w0_3, w0_4, w0_5, w0_6, w0_7, w0_8, w0_9, w0_10, w0_11, w0_12, w0_13⟩ := open_Config (hval 0 23 v0 rfl rfl) h0
  clear hA0 hval0 hsz0 hsz
  obtain ⟨k, hk⟩ := Pure.FnExactConfigText a0_0 a0_1 a0_2 a0_3 a0_4 a0_5 a0_6 a0_7 a0_8 a0_9 a0_10 a0_11 a0_12 a0_13 w0_0 w0_1 w0_2 w0_3 w0_4 w0_5 w0_6 w0_7 w0_8 w0_9 w0_10 w0_11 w0_12 w0_13
  refine (MFnExactConfigText.laws_FnExactConfigText.calls k a0_0 a0_1 a0_2 a0_3 a0_4 a0_5 a0_6 a0_7 a0_8 a0_9 a0_10 a0_11 a0_12 a0_13 true W hT (Pure.cfg_rng a0_0 a0_1 a0_2 a0_3 a0_4 a0_5 a0_6 a0_7 a0_8 a0_9 a0_10 a0_11 a0_12 a0_13 (Pure.wf_b w0_0) (Pure.wf_b w0_1) (Pure.wf_b w0_2) (Pure.wf_b w0_3) (Pure.wf_b w0_4) (Pure.wf_b w0_5) (Pure.wf_b w0_6) (Pure.wf_b w0_7) (Pure.wf_b w0_8) (Pure.wf_b w0_9) (Pure.wf_b w0_10) (Pure.wf_b w0_11) (Pure.wf_b w0_12) (Pure.wf_b w0_13)) hk).mono fun e W' ⟨he, bel⟩ => ?_
  subst he
  exact ⟨_, rfl, _, _, _, [], _, [], hW', trodAll_mk1 (shut_bool Tryd.underlying4 _), (trodAll_cons_mk (Below.trod laidOut (by kernel_rfl) (of_decide_eq_true (by kernel_rfl)) k0 bel lt0) trodAll_mk0), rfl, bel.frame _, fun h => by cases h⟩
theorem over : Rows.fnExactConfigTextRow.holds Tryd.pinned (OpenSpec.ofChange Rows.fnExactConfigTextSpec) :=
  OpenClaim.holds_of_wide 3 Tryd.f3 rfl rfl rfl rfl rfl rfl rfl ⟨rfl, rfl, rfl, rfl, rfl⟩ rfl rfl rfl rfl rfl (by kernel_rfl) Tryd.func3 (by kernel_rfl)
    (of_decide_eq_true (by kernel_rfl)) (by unfold Func.isWrapper; first | (rw [if_pos (by decide +kernel)]; kernel_rfl) | (rw [if_neg (by decide +kernel)]; exact ⟨rfl, rfl⟩))
    (fun os started H enc _ => lifted os started H enc)
theorem proved : Rows.FnExactConfigTextCardSaid :=
  Claim7.holds_tied_plain_at .later [] [.data, .data, .data] true (true, "669f32feb3e197297e460989e041a76b874a4dc769d3b402164fc04130d8efc5") false
    over (fun _ h => by cases h) (by kernel_rfl) (fun _ h => by cases h) fnExactConfigText_row_tie rfl ⟨rfl, rfl⟩ (by kernel_rfl) rfl
    (fun f fn hf hfn => by
      obtain rfl : f = 3 := Option.some.inj ((show Tryd.prog.funcNamed "loop.example/g00722/laws.FnExactConfigText" = some 3 by kernel_rfl).symm.trans hf) |>.symm
      obtain rfl : fn = Tryd.f3 := (Option.some.inj (Tryd.func3.symm.trans hfn)).symm
      exact ⟨by kernel_rfl, fun j t ht => by
        have hm : t ∈ Tryd.f3.params.toList := by simpa using Array.mem_of_getElem? ht
        have hall : (Tryd.f3.params.toList.all fun u => !Tryd.prog.wantsStandIn u) = true := by kernel_rfl
        exact (show Tryd.prog.wantsStandIn t = false by simpa using List.all_eq_true.1 hall t hm)⟩)
    (by kernel_rfl)
#print axioms proved
end Go.Proofs.YthafbkpoepblgaaDoor.fnExactConfigText
namespace Go.Proofs.YthafbkpoepblgaaDoor
/-- The card, under a short name, for the claim. -/
theorem fnExactConfigText_holds : Rows.FnExactConfigTextCardSaid := fnExactConfigText.proved
end Go.Proofs.YthafbkpoepblgaaDoor
