/-
slices.DeleteFunc at []int with the program's closure of impl.OnFailure ('before now - c.Window'): the shelf's contract laid in plain words, and what it says of a row of the caller's own: the row is written in place; what comes back begins where it began and holds the numbers kept.
-/
import Derived.Shelf.SlicesE.DeleteFunc
import Derived.Test.YthafbkpoepblgaeUFnExactOnFailureMore
import Derived.Test.YthafbkpoepblgaeProg
namespace Go.Proofs
open Go.Shelf
def Try.l10_ren : Go.Shelf.Ren := ⟨fun | 10 => 24 | 6 => 33 | n => n, fun | 22 => 24 | 23 => 3 | 25 => 41 | 3 => 3 | 4 => 4 | 0 => 0 | n => n, fun | n => n⟩
theorem Try.l10 : Go.Proofs.SlLaysH.n10 Try.prog Try.l10_ren := {
  mixed := by kernel_rfl
  f6 := ⟨Try.f33.name, by decide, Try.func33.trans (congrArg some (by kernel_rfl))⟩
  f10 := ⟨Try.f24.name, by decide, Try.func24.trans (congrArg some (by kernel_rfl))⟩
  t0 := Try.underlying0
  a0 := Try.isAgg0
  z0 := Try.sizeOf0
  v0 := Try.zeroValue0
  t3 := Try.underlying3
  a3 := Try.isAgg3
  z3 := Try.sizeOf3
  v3 := Try.zeroValue3
  t4 := Try.underlying4
  a4 := Try.isAgg4
  z4 := Try.sizeOf4
  v4 := Try.zeroValue4
  t22 := Try.underlying24
  a22 := Try.isAgg24
  z22 := Try.sizeOf24
  v22 := Try.zeroValue24
  a23 := Try.isAgg3
  z23 := Try.sizeOf3
  t25 := Try.underlying41
  a25 := Try.isAgg41
  z25 := Try.sizeOf41
  v25 := Try.zeroValue41 }
end Go.Proofs
namespace Go.Proofs.Ythafbkpoepblgae.Del
open Go.Shelf Go.RowKit Go.Lib Go.Sort Go.Proofs.YthafbkpoepblgaeW.PrintWords
set_option maxHeartbeats 4000000 in
theorem gives (a2 a10 x : Int) (gN gC : Nat) (W : World) (c1 : W.cell? ⟨gN, 0, none⟩ = some (.int .i64 a2)) (c2 : W.cell? ⟨gC, 10, none⟩ = some (.int .i64 a10)) :
    FnGives Try.prog 25 #[.pointer (some ⟨gN, 0, none⟩), .pointer (some ⟨gC, 0, none⟩)] #[.int .i64 x] (.bool (decide (x < wrap64 (a2 - a10)))) W := by
  show Calls Try.prog 25 #[.int .i64 x, .pointer (some ⟨gN, 0, none⟩), .pointer (some ⟨gC, 0, none⟩)] W _
  have hu31 := Try.underlying31
  go_enter Try.func25, Try.ntmps25
  go_wp2
  all_goals (go_ret; exact ⟨rfl, 0, rfl⟩)
theorem predAt (a2 a10 : Int) (gN gC : Nat) (w : World) (c1 : w.cell? ⟨gN, 0, none⟩ = some (.int .i64 a2)) (c2 : w.cell? ⟨gC, 10, none⟩ = some (.int .i64 a10)) :
    PredAt Try.prog 25 #[.pointer (some ⟨gN, 0, none⟩), .pointer (some ⟨gC, 0, none⟩)] (Value.int .i64) (fun x => decide (x < wrap64 (a2 - a10))) w :=
  fun W x hb => gives a2 a10 x gN gC W ((hb.cell (World.block_lt_of_cell? w _ c1)).trans c1) ((hb.cell (World.block_lt_of_cell? w _ c2)).trans c2)
theorem predOver (a2 a10 : Int) (gN gC blk off size : Nat) (w : World) (n1 : gN ≠ blk) (n2 : gC ≠ blk) (c1 : w.cell? ⟨gN, 0, none⟩ = some (.int .i64 a2)) (c2 : w.cell? ⟨gC, 10, none⟩ = some (.int .i64 a10)) :
    PredOver Try.prog 25 #[.pointer (some ⟨gN, 0, none⟩), .pointer (some ⟨gC, 0, none⟩)] (Value.int .i64) (fun x => decide (x < wrap64 (a2 - a10))) blk off size w := by
  intro n os dk x _
  have hl1 := World.block_lt_of_cell? w _ c1
  have hl2 := World.block_lt_of_cell? w _ c2
  refine gives a2 a10 x gN gC _ ?_ ?_
  · unfold sortWorld
    rw [cell?_grow _ _ _ (by rw [size_putRow]; exact hl1), cell?_putRow_other _ _ blk off _ _ (Or.inl n1)]
    exact c1
  · unfold sortWorld
    rw [cell?_grow _ _ _ (by rw [size_putRow]; exact hl2), cell?_putRow_other _ _ blk off _ _ (Or.inl n2)]
    exact c2
theorem put_self (w : World) (q g : Nat) (arr : Array Int) (cur : Array Value) (e : TypeId) (h : w.heap[g]? = some (.cells cur e (0, 0))) :
    (putRow (Value.int .i64) (Sort.ahead w q) g 0 arr).heap[g]? = some (.cells (putCells (Value.int .i64) 0 arr cur) e (0, 0)) := by
  show ((w.heap).modify g _)[g]? = _
  rw [Array.getElem?_modify, if_pos rfl, h]
  rfl
theorem put_other (w : World) (q g k : Nat) (arr : Array Int) (h : k ≠ g) : (putRow (Value.int .i64) (Sort.ahead w q) g 0 arr).heap[k]? = w.heap[k]? := by
  show ((w.heap).modify g _)[k]? = _
  rw [Array.getElem?_modify, if_neg (fun e => h e.symm)]
theorem put_take (r : List Int) (m : Nat) (cur : Array Value) (hc : r.length ≤ cur.size) : (putCells (Value.int .i64) 0 (r ++ List.replicate (m - r.length) 0).toArray cur).toList.take (r.length * 1) = r.map (Value.int .i64) := by
  apply List.ext_getElem?
  intro j
  rw [Nat.mul_one, List.getElem?_take]
  by_cases hj : j < r.length
  · rw [if_pos hj, Array.getElem?_toList, putCells, Array.getElem?_mapIdx, List.getElem?_map, List.getElem?_eq_getElem hj, Array.getElem?_eq_getElem (by omega)]
    simp only [Option.map_some, Nat.zero_le, true_and, Nat.zero_add, Nat.sub_zero, List.size_toArray, List.length_append, List.length_replicate]
    rw [if_pos (by omega)]
    congr 2
    rw [getElem!_pos _ j (by simp; omega)]
    simp [List.getElem_append_left hj]
  · rw [if_neg hj, List.getElem?_eq_none (by simp; omega)]
theorem kept_len (lim : Int) (l : List Int) : (l.filter fun x => !decide (x < lim)).length ≤ l.length := List.length_filter_le _ _
set_option maxHeartbeats 400000 in
theorem delNil (fv : Value) (c0 : Nat) (w : World) : Calls Try.prog 24 #[.slice none 0 c0, fv] w fun e w' => e = .returned (.slice none 0 c0) ∧ w' = w := by
  have hIF := AnyE.slices_IndexFunc_empty (P := Try.prog) (ρ := Try.l10_ren) { Try.l10 with } none c0 fv w
  rw [show Try.l10_ren.f 6 = 33 from rfl] at hIF
  go_enter Try.func24, Try.ntmps24
  go_wp2_with (go_at_call 33; refine hIF.mono ?_; rintro e w' ⟨rfl, rfl⟩)
  go_ret
  exact ⟨rfl, rfl⟩
set_option maxHeartbeats 400000 in
/-- The call of slices.DeleteFunc with the closure: the row is the caller's own (above w0). -/
theorem delF (A0 : Option Addr) (c0 : Nat) (l0 : List Int) (a2 a10 : Int) (gN gC : Nat) (w0 w : World) (ok : Nat → Prop) (r : List Int)
    (hO : (Kd.int .i64).R 3 w w0.heap.size ok (.slice A0 l0.length c0) l0) (c1 : w.cell? ⟨gN, 0, none⟩ = some (.int .i64 a2)) (c2 : w.cell? ⟨gC, 10, none⟩ = some (.int .i64 a10))
    (n1 : some gN ≠ (.slice A0 l0.length c0 : Value).ownBlock) (n2 : some gC ≠ (.slice A0 l0.length c0 : Value).ownBlock) (hB : Below w0.heap.size w0 w) (h : r = l0.filter fun x => !decide (x < wrap64 (a2 - a10))) :
    Calls Try.prog 24 #[.slice A0 l0.length c0, .func (.func 25) #[] #[.pointer (some ⟨gN, 0, none⟩), .pointer (some ⟨gC, 0, none⟩)]] w fun e w' =>
      ∃ v : Value, e = .returned v ∧ (Kd.int .i64).R 3 w' w0.heap.size ok v r ∧ Below w0.heap.size w0 w' ∧ w.grownBy w' (.slice A0 l0.length c0 : Value).ownBlock ∧ v.ownBlock = (.slice A0 l0.length c0 : Value).ownBlock := by
  subst h
  have hok := hO.1
  have hown := Kd.own_of_R (enc := Value.int .i64) (h1 := fun _ => rfl) hO
  rcases hown.2 with ⟨hv, hn⟩ | ⟨g, cap, cur, hv, hg, hh, hnc, hcap, hcs, htk⟩
  · -- no row at all
    injection hv with hv1 hv2 hv3
    subst hv1
    obtain rfl : l0 = [] := List.eq_nil_of_length_eq_zero hn
    have hR : (Kd.int .i64).R 3 w w0.heap.size ok (.slice none 0 c0) [] := hO
    refine (delNil _ c0 w).mono ?_
    rintro e w' ⟨rfl, rfl⟩
    exact ⟨_, rfl, hR, hB, ⟨rfl, rfl, rfl, Nat.le_refl _, fun _ _ _ => rfl⟩, rfl⟩
  · injection hv with hv1 hv2 hv3
    subst hv1
    subst hv3
    have hs : cur.size = c0 := by rw [hcs, Nat.mul_one]
    have hH : Holds (Value.int .i64) w g 0 l0.toArray := by
      intro j hj
      have hj' : j < l0.length := by simpa using hj
      refine ⟨?_, blk_frozen hh _⟩
      rw [blk_cell hh, Nat.zero_add]
      have e1 : (cur.toList.take (l0.length * 1))[j]? = (l0.map (Value.int .i64))[j]? := by rw [htk]; rfl
      rw [Nat.mul_one, List.getElem?_take, if_pos hj', Array.getElem?_toList, List.getElem?_map, List.getElem?_eq_getElem hj'] at e1
      rw [e1, getElem!_pos _ j hj]
      simp
    have hmax : c0 ≤ maxLen := hcap
    have hN' : gN ≠ g := fun e => n1 (by rw [e]; rfl)
    have hC' : gC ≠ g := fun e => n2 (by rw [e]; rfl)
    have hcon := AnyE.slices_DeleteFunc Try.l10 (Value.int .i64) (fun _ => rfl) (fun x => decide (x < wrap64 (a2 - a10))) 25 #[.pointer (some ⟨gN, 0, none⟩), .pointer (some ⟨gC, 0, none⟩)] (enters_of Try.func25 (by kernel_rfl) rfl) 0 Try.zeroValue3
      g 0 c0 l0.toArray w (predAt a2 a10 gN gC w c1 c2) (predOver a2 a10 gN gC g 0 _ w hN' hC' c1 c2) hH (by simp only [maxLen] at hmax; simp; omega) (by simpa using hnc)
    change Calls Try.prog 24 _ _ _ at hcon
    simp only [List.size_toArray] at hcon
    refine hcon.mono ?_
    rintro e w' ⟨rfl, q, rfl⟩
    have hle := kept_len (wrap64 (a2 - a10)) l0
    refine ⟨_, rfl, Kd.R_of_own (enc := Value.int .i64) (h1 := fun _ => rfl) ⟨by simp [encs], Or.inr ⟨g, c0, _, rfl, hg, put_self w q g _ cur 3 hh, by omega, hcap, by rw [putCells, Array.size_mapIdx, hcs], put_take _ _ cur (by omega)⟩⟩ (fun k hk => hok k hk), ?_, ?_, rfl⟩
    · exact ⟨hB.os, hB.tape, hB.output, by rw [size_putRow]; exact hB.size, fun k hk => (put_other w q g k _ (by omega)).trans (hB.block k hk)⟩
    · exact ⟨rfl, rfl, rfl, by rw [size_putRow]; exact Nat.le_refl _, fun k _ hne => put_other w q g k _ (fun e => hne (by rw [e]; rfl))⟩
end Go.Proofs.Ythafbkpoepblgae.Del
