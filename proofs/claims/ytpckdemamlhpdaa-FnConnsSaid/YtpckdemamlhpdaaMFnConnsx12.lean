-- Written by a program of this session over the kit's print, with stand-ins for the functions that the print leaves; Lean checks it.
import Derived.Test.YtpckdemamlhpdaaMFnConnsx0
import Derived.Test.YtpckdemamlhpdaaMFnConnsx8
import Derived.Test.YtpckdemamlhpdaaMFnConnsx11
namespace Go.Proofs.Ytpckdemamlhpdaa.MFnConns
open Go.RowKit Go.Proofs.YtpckdemamlhpdaaW.PrintWords Go.Proofs.YtpckdemamlhpdaaW.PrintLast Go.Proofs.YtpckdemamlhpdaaW.PrintMore
attribute [local go_sem] max2_int min2_int max_two min_two max_three min_three max_four min_four   -- for this text's walks alone
set_option linter.unusedVariables false
set_option linter.unusedSimpArgs false

/-! ### spec_l01Byte: function 81 -/
def spec_l01Byte.f (s0_0 : List Int) (s0_1 : Int) (s0_2 : Int) : Option (Int × Int × Int) := if s0_1 < (s0_0.length : Int) then (if 0 ≤ s0_1 then (some (Go.bits .and .i64 (wrap64 ((Go.bits .and .i64 (Go.bits .xor .i64 ((wrap64 ((wrap64 (s0_2 * 6364136223846793005)) + 1442695040888963407)) / 8589934592) ((wrap64 ((wrap64 (s0_2 * 6364136223846793005)) + 1442695040888963407)) / 35184372088832)) 255) + (wrap64 (rd s0_0 s0_1)))) 255, wrap64 (s0_1 + 1), wrap64 ((wrap64 (s0_2 * 6364136223846793005)) + 1442695040888963407))) else (none)) else (some (Go.bits .and .i64 (Go.bits .xor .i64 ((wrap64 ((wrap64 (s0_2 * 6364136223846793005)) + 1442695040888963407)) / 8589934592) ((wrap64 ((wrap64 (s0_2 * 6364136223846793005)) + 1442695040888963407)) / 35184372088832)) 255, s0_1, wrap64 ((wrap64 (s0_2 * 6364136223846793005)) + 1442695040888963407)))
set_option maxHeartbeats 40000000 in
set_option maxRecDepth 100000 in
theorem spec_l01Byte.calls (g : Nat) (s0_0 : List Int) (s0_1 : Int) (s0_2 : Int) (r1 : Int) (r2 : Int) (r3 : Int) (w0 w : World) (hI : IsS98 w0 w g s0_0 s0_1 s0_2) (hB : Below w0.heap.size w0 w) (h : spec_l01Byte.f s0_0 s0_1 s0_2 = some (r1, r2, r3)) :
    Calls Try.prog 81 #[.pointer (some ⟨g, 0, none⟩)] w fun e w' => e = .returned (.int .i64 r1) ∧ IsS98 w0 w' g s0_0 r2 r3 ∧ Below w0.heap.size w0 w' ∧ KeepBut w w' g none := by
  have HI0 := Aside0.mk hI
  have HK := Aside0.mk (KeepBut.refl w g none)
  have HL := Aside0.mk hB.size
  clear hI
  have HW0 := Aside0.mk hB.size
  have HB := Aside0.mk hB
  clear hB
  have H : (if s0_1 < (s0_0.length : Int) then (if 0 ≤ s0_1 then (some (Go.bits .and .i64 (wrap64 ((Go.bits .and .i64 (Go.bits .xor .i64 ((wrap64 ((wrap64 (s0_2 * 6364136223846793005)) + 1442695040888963407)) / 8589934592) ((wrap64 ((wrap64 (s0_2 * 6364136223846793005)) + 1442695040888963407)) / 35184372088832)) 255) + (wrap64 (rd s0_0 s0_1)))) 255, wrap64 (s0_1 + 1), wrap64 ((wrap64 (s0_2 * 6364136223846793005)) + 1442695040888963407))) else (none)) else (some (Go.bits .and .i64 (Go.bits .xor .i64 ((wrap64 ((wrap64 (s0_2 * 6364136223846793005)) + 1442695040888963407)) / 8589934592) ((wrap64 ((wrap64 (s0_2 * 6364136223846793005)) + 1442695040888963407)) / 35184372088832)) 255, s0_1, wrap64 ((wrap64 (s0_2 * 6364136223846793005)) + 1442695040888963407)))) = some (r1, r2, r3) := h
  clear h
  by_cases c2 : s0_1 < (s0_0.length : Int)
  · rw [if_pos c2] at H
    have c2b0 : decide (s0_1 < (s0_0.length : Int)) = true := decide_eq_true c2
    clear c2
    by_cases c3 : 0 ≤ s0_1
    · rw [if_pos c3] at H
      have c3b0 : decide (0 ≤ s0_1) = true := decide_eq_true c3
      clear c3
      simp only [Option.some.injEq, Prod.mk.injEq] at H
      obtain ⟨rfl, rfl, rfl⟩ := H
      obtain ⟨ASz4_0, cSz4_0, HGz4, hgz4, HSz4_0⟩ := HI0.out
      have hcz4_0 := cellS98_0 HGz4
      have hcz4_1 := cellS98_1 HGz4
      have hcz4_2 := cellS98_2 HGz4
      have hfz4_1 := blk_frozen HGz4 1
      have hfz4_2 := blk_frozen HGz4 2
      clear HGz4 hgz4
      have p270 : 0 ≤ (s0_1 : Int) := of_decide_eq_true (by first | (with_reducible assumption) | assumption)
      have q270 : s0_1 < (s0_0.length : Int) := of_decide_eq_true (by first | (with_reducible assumption) | assumption)
      obtain ⟨ad270, e270, hx270_0⟩ := Kd.at_int HSz4_0 s0_1 p270 q270
      cases e270
      have hn270_0 : ad270.block ≠ g := Nat.ne_of_lt (Nat.lt_of_lt_of_le (by have := World.block_lt_of_cell? _ _ hx270_0; first | rwa [add_block] at this | exact this) (IsS98.ge HI0.out))
      replace hx270_0 := pw_cell_below HB.out hx270_0
      replace hx270_0 := (cell_far (p := ⟨g, 2, none⟩) (by first | (rw [add_block]; exact hn270_0) | (show (Addr.add _ _).block ≠ _; rw [add_block]; exact hn270_0) | exact hn270_0) (.int .i64 (wrap64 ((wrap64 (s0_2 * 6364136223846793005)) + 1442695040888963407)))).trans hx270_0
      (try have hy270_0 := fun (n_ : Nat) => (show (((w.drewN n_).setCell ⟨g, 2, none⟩ (.int .i64 (wrap64 ((wrap64 (s0_2 * 6364136223846793005)) + 1442695040888963407))))).cell? _ = some _ from hx270_0))
      clear hn270_0
      replace p270 := eq_true p270
      replace q270 := eq_true q270
      go_enter Try.func81, Try.ntmps81
      go_wp2
      repeat (go_quiet (fail); try go_wp2)
      go_ret
      exact ⟨by first | rfl | (simp [errW_none, errW_some] <;> rfl) | (simp [*, errW_none, errW_some] <;> rfl), by repeat (first | (with_reducible first | exact HI0.out | apply IsS98.alloc | apply IsS98.drewN | apply IsS98.drew | apply IsS98.set_1 | apply IsS98.set_2) | exact HI0.out), by repeat (first | (with_reducible first | exact HB.out | apply below_alloc | apply pw_below_drewN | apply below_drew1 | refine below_set ?_ (IsS98.ge HI0.out)) | exact HB.out), by repeat (first | (with_reducible first | exact HK.out | apply KeepBut.set_ | apply keep_drewN | apply keep_drew | apply keep_alloc) | exact HK.out)⟩
    · rw [if_neg c3] at H
      exact absurd H (by simp)
  · rw [if_neg c2] at H
    have c2b0 : decide (s0_1 < (s0_0.length : Int)) = false := decide_eq_false c2
    clear c2
    simp only [Option.some.injEq, Prod.mk.injEq] at H
    obtain ⟨rfl, rfl, rfl⟩ := H
    obtain ⟨ASz5_0, cSz5_0, HGz5, hgz5, HSz5_0⟩ := HI0.out
    have hcz5_0 := cellS98_0 HGz5
    have hcz5_1 := cellS98_1 HGz5
    have hcz5_2 := cellS98_2 HGz5
    have hfz5_1 := blk_frozen HGz5 1
    have hfz5_2 := blk_frozen HGz5 2
    clear HGz5 hgz5
    go_enter Try.func81, Try.ntmps81
    go_wp2
    repeat (go_quiet (fail); try go_wp2)
    go_ret
    exact ⟨by first | rfl | (simp [errW_none, errW_some] <;> rfl) | (simp [*, errW_none, errW_some] <;> rfl), by repeat (first | (with_reducible first | exact HI0.out | apply IsS98.alloc | apply IsS98.drewN | apply IsS98.drew | apply IsS98.set_1 | apply IsS98.set_2) | exact HI0.out), by repeat (first | (with_reducible first | exact HB.out | apply below_alloc | apply pw_below_drewN | apply below_drew1 | refine below_set ?_ (IsS98.ge HI0.out)) | exact HB.out), by repeat (first | (with_reducible first | exact HK.out | apply KeepBut.set_ | apply keep_drewN | apply keep_drew | apply keep_alloc) | exact HK.out)⟩

/-! ### spec_l01Below: function 70 -/
def spec_l01Below.f (s0_0 : List Int) (s0_1 : Int) (s0_2 : Int) (a1 : Int) : Option (Int × Int × Int) := if a1 ≤ 0 then (some (0, s0_1, s0_2)) else (if a1 ≤ 256 then ((spec_l01Byte.f s0_0 s0_1 s0_2).bind fun bt271 => (if a1 = 0 then (none) else (some (Int.tmod bt271.1 a1, bt271.2.1, bt271.2.2)))) else ((spec_l01Byte.f s0_0 s0_1 s0_2).bind fun bt274 => ((spec_l01Byte.f s0_0 bt274.2.1 bt274.2.2).bind fun bt277 => ((spec_l01Byte.f s0_0 bt277.2.1 bt277.2.2).bind fun bt280 => (if a1 = 0 then (none) else (some (Int.tmod (wrap64 ((wrap64 ((wrap64 (bt274.1 * 65536)) + (wrap64 (bt277.1 * 256)))) + bt280.1)) a1, bt280.2.1, bt280.2.2)))))))
set_option maxHeartbeats 40000000 in
set_option maxRecDepth 100000 in
theorem spec_l01Below.calls (g : Nat) (s0_0 : List Int) (s0_1 : Int) (s0_2 : Int) (a1 : Int) (r1 : Int) (r2 : Int) (r3 : Int) (w0 w : World) (hI : IsS98 w0 w g s0_0 s0_1 s0_2) (hB : Below w0.heap.size w0 w) (h : spec_l01Below.f s0_0 s0_1 s0_2 a1 = some (r1, r2, r3)) :
    Calls Try.prog 70 #[.pointer (some ⟨g, 0, none⟩), .int .i64 a1] w fun e w' => e = .returned (.int .i64 r1) ∧ IsS98 w0 w' g s0_0 r2 r3 ∧ Below w0.heap.size w0 w' ∧ KeepBut w w' g none := by
  have HI0 := Aside0.mk hI
  have HK := Aside0.mk (KeepBut.refl w g none)
  have HL := Aside0.mk hB.size
  clear hI
  have HW0 := Aside0.mk hB.size
  have HB := Aside0.mk hB
  clear hB
  have H : (if a1 ≤ 0 then (some (0, s0_1, s0_2)) else (if a1 ≤ 256 then ((spec_l01Byte.f s0_0 s0_1 s0_2).bind fun bt271 => (if a1 = 0 then (none) else (some (Int.tmod bt271.1 a1, bt271.2.1, bt271.2.2)))) else ((spec_l01Byte.f s0_0 s0_1 s0_2).bind fun bt274 => ((spec_l01Byte.f s0_0 bt274.2.1 bt274.2.2).bind fun bt277 => ((spec_l01Byte.f s0_0 bt277.2.1 bt277.2.2).bind fun bt280 => (if a1 = 0 then (none) else (some (Int.tmod (wrap64 ((wrap64 ((wrap64 (bt274.1 * 65536)) + (wrap64 (bt277.1 * 256)))) + bt280.1)) a1, bt280.2.1, bt280.2.2)))))))) = some (r1, r2, r3) := h
  clear h
  by_cases c3 : a1 ≤ 0
  · rw [if_pos c3] at H
    have c3b0 : decide (a1 ≤ 0) = true := decide_eq_true c3
    clear c3
    simp only [Option.some.injEq, Prod.mk.injEq] at H
    obtain ⟨rfl, rfl, rfl⟩ := H
    go_enter Try.func70, Try.ntmps70
    go_wp2
    go_ret
    exact ⟨by first | rfl | (simp [errW_none, errW_some] <;> rfl) | (simp [*, errW_none, errW_some] <;> rfl), by repeat (first | (with_reducible first | exact HI0.out | apply IsS98.alloc | apply IsS98.drewN | apply IsS98.drew | apply IsS98.set_1 | apply IsS98.set_2) | exact HI0.out), by repeat (first | (with_reducible first | exact HB.out | apply below_alloc | apply pw_below_drewN | apply below_drew1 | refine below_set ?_ (IsS98.ge HI0.out)) | exact HB.out), by repeat (first | (with_reducible first | exact HK.out | apply KeepBut.set_ | apply keep_drewN | apply keep_drew | apply keep_alloc) | exact HK.out)⟩
  · rw [if_neg c3] at H
    have c3b0 : decide (a1 ≤ 0) = false := decide_eq_false c3
    clear c3
    by_cases c4 : a1 ≤ 256
    · rw [if_pos c4] at H
      have c4b0 : decide (a1 ≤ 256) = true := decide_eq_true c4
      clear c4
      replace H := Option.bind_eq_some_iff.mp H
      obtain ⟨⟨t271, t272, t273⟩, A50, H⟩ := H
      replace H : (if a1 = 0 then (none) else (some (Int.tmod t271 a1, t272, t273))) = some (r1, r2, r3) := H
      have A5 := Aside0.mk A50
      clear A50
      by_cases c6 : a1 = 0
      · rw [if_pos c6] at H
        exact absurd H (by simp)
      · rw [if_neg c6] at H
        have c6b0 : (a1 == 0) = false := beq_eq_false_iff_ne.mpr c6
        have c6b1 : (a1 != 0) = true := bne_iff_ne.mpr c6
        simp only [Option.some.injEq, Prod.mk.injEq] at H
        obtain ⟨rfl, rfl, rfl⟩ := H
        go_enter Try.func70, Try.ntmps70
        go_wp2_with (first | ((with_reducible refine gate_callee (f := 81) rfl ?_); refine goesL_ (some 13) rfl rfl Try.func81 (by kernel_rfl) rfl #[.pointer (some ⟨g, 0, none⟩)] rfl (by (try simp only [List.map_toArray, List.map_cons, List.map_nil]); first | done | rfl | (simp only [List.length_drop, List.length_take]; rfl)) ?_; (with_reducible refine (spec_l01Byte.calls g s0_0 s0_1 s0_2 t271 t272 t273 w0 _ ?side1 ?side2 A5.out).mono ?_); (case side1 => repeat (first | (with_reducible first | exact HI0.out | apply IsS98.alloc | apply IsS98.drewN | apply IsS98.drew | apply IsS98.set_1 | apply IsS98.set_2) | exact HI0.out)); (case side2 => repeat (first | (with_reducible first | exact HB.out | apply below_alloc | apply pw_below_drewN | apply below_drew1 | refine below_set ?_ (IsS98.ge HI0.out)) | exact HB.out)); rintro e w7 ⟨rfl, hi, hb, hk⟩; refine ⟨_, rfl, ?_⟩; have n0_ := Aside0.mk (KeepBut.trans (by repeat (first | (with_reducible first | exact HK.out | apply KeepBut.set_ | apply keep_drewN | apply keep_drew | apply keep_alloc) | exact HK.out)) hk (.inl rfl)); have n1_ := Aside0.mk (hb); have n2_ := Aside0.mk (hi); clear HK HB HI0; have HK := n0_; have HB := n1_; have HI0 := n2_; clear n0_ n1_ n2_; (try clear hb); (try clear hb2); (try clear hk); (try clear hi)))
        go_ret
        exact ⟨by first | rfl | (simp [errW_none, errW_some] <;> rfl) | (simp [*, errW_none, errW_some] <;> rfl), by repeat (first | (with_reducible first | exact HI0.out | apply IsS98.alloc | apply IsS98.drewN | apply IsS98.drew | apply IsS98.set_1 | apply IsS98.set_2) | exact HI0.out), by repeat (first | (with_reducible first | exact HB.out | apply below_alloc | apply pw_below_drewN | apply below_drew1 | refine below_set ?_ (IsS98.ge HI0.out)) | exact HB.out), by repeat (first | (with_reducible first | exact HK.out | apply KeepBut.set_ | apply keep_drewN | apply keep_drew | apply keep_alloc) | exact HK.out)⟩
    · rw [if_neg c4] at H
      have c4b0 : decide (a1 ≤ 256) = false := decide_eq_false c4
      clear c4
      replace H := Option.bind_eq_some_iff.mp H
      obtain ⟨⟨t274, t275, t276⟩, A80, H⟩ := H
      replace H : ((spec_l01Byte.f s0_0 t275 t276).bind fun bt277 => ((spec_l01Byte.f s0_0 bt277.2.1 bt277.2.2).bind fun bt280 => (if a1 = 0 then (none) else (some (Int.tmod (wrap64 ((wrap64 ((wrap64 (t274 * 65536)) + (wrap64 (bt277.1 * 256)))) + bt280.1)) a1, bt280.2.1, bt280.2.2))))) = some (r1, r2, r3) := H
      have A8 := Aside0.mk A80
      clear A80
      replace H := Option.bind_eq_some_iff.mp H
      obtain ⟨⟨t277, t278, t279⟩, A90, H⟩ := H
      replace H : ((spec_l01Byte.f s0_0 t278 t279).bind fun bt280 => (if a1 = 0 then (none) else (some (Int.tmod (wrap64 ((wrap64 ((wrap64 (t274 * 65536)) + (wrap64 (t277 * 256)))) + bt280.1)) a1, bt280.2.1, bt280.2.2)))) = some (r1, r2, r3) := H
      have A9 := Aside0.mk A90
      clear A90
      replace H := Option.bind_eq_some_iff.mp H
      obtain ⟨⟨t280, t281, t282⟩, A100, H⟩ := H
      replace H : (if a1 = 0 then (none) else (some (Int.tmod (wrap64 ((wrap64 ((wrap64 (t274 * 65536)) + (wrap64 (t277 * 256)))) + t280)) a1, t281, t282))) = some (r1, r2, r3) := H
      have A10 := Aside0.mk A100
      clear A100
      by_cases c11 : a1 = 0
      · rw [if_pos c11] at H
        exact absurd H (by simp)
      · rw [if_neg c11] at H
        have c11b0 : (a1 == 0) = false := beq_eq_false_iff_ne.mpr c11
        have c11b1 : (a1 != 0) = true := bne_iff_ne.mpr c11
        simp only [Option.some.injEq, Prod.mk.injEq] at H
        obtain ⟨rfl, rfl, rfl⟩ := H
        go_enter Try.func70, Try.ntmps70
        go_wp2_with (first | ((with_reducible refine gate_callee (f := 81) rfl ?_); refine goesL_ (some 17) rfl rfl Try.func81 (by kernel_rfl) rfl #[.pointer (some ⟨g, 0, none⟩)] rfl (by (try simp only [List.map_toArray, List.map_cons, List.map_nil]); first | done | rfl | (simp only [List.length_drop, List.length_take]; rfl)) ?_; (with_reducible refine (spec_l01Byte.calls g s0_0 s0_1 s0_2 t274 t275 t276 w0 _ ?side1 ?side2 A8.out).mono ?_); (case side1 => repeat (first | (with_reducible first | exact HI0.out | apply IsS98.alloc | apply IsS98.drewN | apply IsS98.drew | apply IsS98.set_1 | apply IsS98.set_2) | exact HI0.out)); (case side2 => repeat (first | (with_reducible first | exact HB.out | apply below_alloc | apply pw_below_drewN | apply below_drew1 | refine below_set ?_ (IsS98.ge HI0.out)) | exact HB.out)); rintro e w12 ⟨rfl, hi, hb, hk⟩; refine ⟨_, rfl, ?_⟩; have n0_ := Aside0.mk (KeepBut.trans (by repeat (first | (with_reducible first | exact HK.out | apply KeepBut.set_ | apply keep_drewN | apply keep_drew | apply keep_alloc) | exact HK.out)) hk (.inl rfl)); have n1_ := Aside0.mk (hb); have n2_ := Aside0.mk (hi); clear HK HB HI0; have HK := n0_; have HB := n1_; have HI0 := n2_; clear n0_ n1_ n2_; (try clear hb); (try clear hb2); (try clear hk); (try clear hi)) | ((with_reducible refine gate_callee (f := 81) rfl ?_); refine goesL_ (some 19) rfl rfl Try.func81 (by kernel_rfl) rfl #[.pointer (some ⟨g, 0, none⟩)] rfl (by (try simp only [List.map_toArray, List.map_cons, List.map_nil]); first | done | rfl | (simp only [List.length_drop, List.length_take]; rfl)) ?_; (with_reducible refine (spec_l01Byte.calls g s0_0 t275 t276 t277 t278 t279 w0 _ ?side1 ?side2 A9.out).mono ?_); (case side1 => repeat (first | (with_reducible first | exact HI0.out | apply IsS98.alloc | apply IsS98.drewN | apply IsS98.drew | apply IsS98.set_1 | apply IsS98.set_2) | exact HI0.out)); (case side2 => repeat (first | (with_reducible first | exact HB.out | apply below_alloc | apply pw_below_drewN | apply below_drew1 | refine below_set ?_ (IsS98.ge HI0.out)) | exact HB.out)); rintro e w13 ⟨rfl, hi, hb, hk⟩; refine ⟨_, rfl, ?_⟩; have n0_ := Aside0.mk (KeepBut.trans (by repeat (first | (with_reducible first | exact HK.out | apply KeepBut.set_ | apply keep_drewN | apply keep_drew | apply keep_alloc) | exact HK.out)) hk (.inl rfl)); have n1_ := Aside0.mk (hb); have n2_ := Aside0.mk (hi); clear HK HB HI0; have HK := n0_; have HB := n1_; have HI0 := n2_; clear n0_ n1_ n2_; (try clear hb); (try clear hb2); (try clear hk); (try clear hi)) | ((with_reducible refine gate_callee (f := 81) rfl ?_); refine goesL_ (some 21) rfl rfl Try.func81 (by kernel_rfl) rfl #[.pointer (some ⟨g, 0, none⟩)] rfl (by (try simp only [List.map_toArray, List.map_cons, List.map_nil]); first | done | rfl | (simp only [List.length_drop, List.length_take]; rfl)) ?_; (with_reducible refine (spec_l01Byte.calls g s0_0 t278 t279 t280 t281 t282 w0 _ ?side1 ?side2 A10.out).mono ?_); (case side1 => repeat (first | (with_reducible first | exact HI0.out | apply IsS98.alloc | apply IsS98.drewN | apply IsS98.drew | apply IsS98.set_1 | apply IsS98.set_2) | exact HI0.out)); (case side2 => repeat (first | (with_reducible first | exact HB.out | apply below_alloc | apply pw_below_drewN | apply below_drew1 | refine below_set ?_ (IsS98.ge HI0.out)) | exact HB.out)); rintro e w14 ⟨rfl, hi, hb, hk⟩; refine ⟨_, rfl, ?_⟩; have n0_ := Aside0.mk (KeepBut.trans (by repeat (first | (with_reducible first | exact HK.out | apply KeepBut.set_ | apply keep_drewN | apply keep_drew | apply keep_alloc) | exact HK.out)) hk (.inl rfl)); have n1_ := Aside0.mk (hb); have n2_ := Aside0.mk (hi); clear HK HB HI0; have HK := n0_; have HB := n1_; have HI0 := n2_; clear n0_ n1_ n2_; (try clear hb); (try clear hb2); (try clear hk); (try clear hi)))
        go_ret
        exact ⟨by first | rfl | (simp [errW_none, errW_some] <;> rfl) | (simp [*, errW_none, errW_some] <;> rfl), by repeat (first | (with_reducible first | exact HI0.out | apply IsS98.alloc | apply IsS98.drewN | apply IsS98.drew | apply IsS98.set_1 | apply IsS98.set_2) | exact HI0.out), by repeat (first | (with_reducible first | exact HB.out | apply below_alloc | apply pw_below_drewN | apply below_drew1 | refine below_set ?_ (IsS98.ge HI0.out)) | exact HB.out), by repeat (first | (with_reducible first | exact HK.out | apply KeepBut.set_ | apply keep_drewN | apply keep_drew | apply keep_alloc) | exact HK.out)⟩

/-! ### spec_l01Size: function 71 -/
def spec_l01Size.f (l0 : List Int) (a1 : Int) : Option (Int) := if (wrap64 (2 + (wrap64 ((l0.length : Int) / 16)))) > a1 then (some a1) else (some (wrap64 (2 + (wrap64 ((l0.length : Int) / 16)))))
set_option maxHeartbeats 40000000 in
set_option maxRecDepth 100000 in
theorem spec_l01Size.calls (A0 : Option Addr) (c0 : Nat) (l0 : List Int) (a1 : Int) (r : Int) (w : World) (hr0 : Kd.C (Kd.int .u8) w A0 l0.length l0) (hc0 : l0.length ≤ c0) (h : spec_l01Size.f l0 a1 = some r) :
    Calls Try.prog 71 #[.slice A0 l0.length c0, .int .i64 a1] w fun e w' => e = .returned (.int .i64 r) ∧ Drawn0 w w' := by
  have HR0 := Aside0.mk hr0
  have HC0 := Aside0.mk hc0
  clear hr0 hc0
  have H : (if (wrap64 (2 + (wrap64 ((l0.length : Int) / 16)))) > a1 then (some a1) else (some (wrap64 (2 + (wrap64 ((l0.length : Int) / 16)))))) = some r := h
  clear h
  by_cases c3 : (wrap64 (2 + (wrap64 ((l0.length : Int) / 16)))) > a1
  · rw [if_pos c3] at H
    have c3b0 : decide (a1 < (wrap64 (2 + (wrap64 ((l0.length : Int) / 16))))) = true := decide_eq_true c3
    clear c3
    obtain rfl := Option.some.inj H
    go_enter Try.func71, Try.ntmps71
    go_wp2
    go_ret
    exact ⟨by first | rfl | (simp; done) | (simp [*]; done), by repeat (first | exact Drawn0.refl _ | apply Drawn0.step)⟩
  · rw [if_neg c3] at H
    have c3b0 : decide (a1 < (wrap64 (2 + (wrap64 ((l0.length : Int) / 16))))) = false := decide_eq_false c3
    clear c3
    obtain rfl := Option.some.inj H
    go_enter Try.func71, Try.ntmps71
    go_wp2
    go_ret
    exact ⟨by first | rfl | (simp; done) | (simp [*]; done), by repeat (first | exact Drawn0.refl _ | apply Drawn0.step)⟩

/-! ### spec_l01Once: function 72 -/
def spec_l01Once.f (s0_0 : List Int) (s0_1 : Int) (s0_2 : Int) (a1 : Int) : Option (Bool × Int × Int) := (spec_l01Below.f s0_0 s0_1 s0_2 a1).bind fun bt283 => (some ((bt283.1 == 0), bt283.2.1, bt283.2.2))
set_option maxHeartbeats 40000000 in
set_option maxRecDepth 100000 in
theorem spec_l01Once.calls (g : Nat) (s0_0 : List Int) (s0_1 : Int) (s0_2 : Int) (a1 : Int) (r1 : Bool) (r2 : Int) (r3 : Int) (w0 w : World) (hI : IsS98 w0 w g s0_0 s0_1 s0_2) (hB : Below w0.heap.size w0 w) (h : spec_l01Once.f s0_0 s0_1 s0_2 a1 = some (r1, r2, r3)) :
    Calls Try.prog 72 #[.pointer (some ⟨g, 0, none⟩), .int .i64 a1] w fun e w' => e = .returned (.bool r1) ∧ IsS98 w0 w' g s0_0 r2 r3 ∧ Below w0.heap.size w0 w' ∧ KeepBut w w' g none := by
  have HI0 := Aside0.mk hI
  have HK := Aside0.mk (KeepBut.refl w g none)
  have HL := Aside0.mk hB.size
  clear hI
  have HW0 := Aside0.mk hB.size
  have HB := Aside0.mk hB
  clear hB
  have H : ((spec_l01Below.f s0_0 s0_1 s0_2 a1).bind fun bt283 => (some ((bt283.1 == 0), bt283.2.1, bt283.2.2))) = some (r1, r2, r3) := h
  clear h
  replace H := Option.bind_eq_some_iff.mp H
  obtain ⟨⟨t283, t284, t285⟩, A30, H⟩ := H
  replace H : (some ((t283 == 0), t284, t285)) = some (r1, r2, r3) := H
  have A3 := Aside0.mk A30
  clear A30
  simp only [Option.some.injEq, Prod.mk.injEq] at H
  obtain ⟨rfl, rfl, rfl⟩ := H
  go_enter Try.func72, Try.ntmps72
  go_wp2_with (first | ((with_reducible refine gate_callee (f := 70) rfl ?_); refine goesL_ (some 7) rfl rfl Try.func70 (by kernel_rfl) rfl #[.pointer (some ⟨g, 0, none⟩), .int .i64 a1] rfl (by (try simp only [List.map_toArray, List.map_cons, List.map_nil]); first | done | rfl | (simp only [List.length_drop, List.length_take]; rfl)) ?_; (with_reducible refine (spec_l01Below.calls g s0_0 s0_1 s0_2 a1 t283 t284 t285 w0 _ ?side1 ?side2 A3.out).mono ?_); (case side1 => repeat (first | (with_reducible first | exact HI0.out | apply IsS98.alloc | apply IsS98.drewN | apply IsS98.drew | apply IsS98.set_1 | apply IsS98.set_2) | exact HI0.out)); (case side2 => repeat (first | (with_reducible first | exact HB.out | apply below_alloc | apply pw_below_drewN | apply below_drew1 | refine below_set ?_ (IsS98.ge HI0.out)) | exact HB.out)); rintro e w4 ⟨rfl, hi, hb, hk⟩; refine ⟨_, rfl, ?_⟩; have n0_ := Aside0.mk (KeepBut.trans (by repeat (first | (with_reducible first | exact HK.out | apply KeepBut.set_ | apply keep_drewN | apply keep_drew | apply keep_alloc) | exact HK.out)) hk (.inl rfl)); have n1_ := Aside0.mk (hb); have n2_ := Aside0.mk (hi); clear HK HB HI0; have HK := n0_; have HB := n1_; have HI0 := n2_; clear n0_ n1_ n2_; (try clear hb); (try clear hb2); (try clear hk); (try clear hi)))
  go_ret
  exact ⟨by first | rfl | (simp [errW_none, errW_some] <;> rfl) | (simp [*, errW_none, errW_some] <;> rfl), by repeat (first | (with_reducible first | exact HI0.out | apply IsS98.alloc | apply IsS98.drewN | apply IsS98.drew | apply IsS98.set_1 | apply IsS98.set_2) | exact HI0.out), by repeat (first | (with_reducible first | exact HB.out | apply below_alloc | apply pw_below_drewN | apply below_drew1 | refine below_set ?_ (IsS98.ge HI0.out)) | exact HB.out), by repeat (first | (with_reducible first | exact HK.out | apply KeepBut.set_ | apply keep_drewN | apply keep_drew | apply keep_alloc) | exact HK.out)⟩

/-! ### spec_l01PickInt: function 73 -/
def spec_l01PickInt.f (s0_0 : List Int) (s0_1 : Int) (s0_2 : Int) (l1 : List Int) : Option (Int × Int × Int) := (spec_l01Below.f s0_0 s0_1 s0_2 (l1.length : Int)).bind fun bt286 => (if 0 ≤ bt286.1 then (if bt286.1 < (l1.length : Int) then (some (rd l1 bt286.1, bt286.2.1, bt286.2.2)) else (none)) else (none))
set_option maxHeartbeats 40000000 in
set_option maxRecDepth 100000 in
theorem spec_l01PickInt.calls (g : Nat) (s0_0 : List Int) (s0_1 : Int) (s0_2 : Int) (A1 : Option Addr) (c1 : Nat) (l1 : List Int) (r1 : Int) (r2 : Int) (r3 : Int) (w0 w : World) (hI : IsS98 w0 w g s0_0 s0_1 s0_2) (hB : Below w0.heap.size w0 w) (hr1 : Kd.C (Kd.int .i64) w A1 l1.length l1) (hc1 : l1.length ≤ c1) (hf1 : ∀ ad, A1 = some ad → 0 < l1.length → ad.block ≠ g) (h : spec_l01PickInt.f s0_0 s0_1 s0_2 l1 = some (r1, r2, r3)) :
    Calls Try.prog 73 #[.pointer (some ⟨g, 0, none⟩), .slice A1 l1.length c1] w fun e w' => e = .returned (.int .i64 r1) ∧ IsS98 w0 w' g s0_0 r2 r3 ∧ Below w0.heap.size w0 w' ∧ KeepBut w w' g none := by
  have HR1 := Aside0.mk hr1
  have HC1 := Aside0.mk hc1
  clear hr1 hc1
  have HI0 := Aside0.mk hI
  have HK := Aside0.mk (KeepBut.refl w g none)
  have HL := Aside0.mk hB.size
  clear hI
  have HW0 := Aside0.mk hB.size
  have HB := Aside0.mk hB
  clear hB
  have H : ((spec_l01Below.f s0_0 s0_1 s0_2 (l1.length : Int)).bind fun bt286 => (if 0 ≤ bt286.1 then (if bt286.1 < (l1.length : Int) then (some (rd l1 bt286.1, bt286.2.1, bt286.2.2)) else (none)) else (none))) = some (r1, r2, r3) := h
  clear h
  replace H := Option.bind_eq_some_iff.mp H
  obtain ⟨⟨t286, t287, t288⟩, A30, H⟩ := H
  replace H : (if 0 ≤ t286 then (if t286 < (l1.length : Int) then (some (rd l1 t286, t287, t288)) else (none)) else (none)) = some (r1, r2, r3) := H
  have A3 := Aside0.mk A30
  clear A30
  by_cases c4 : 0 ≤ t286
  · rw [if_pos c4] at H
    have c4b0 : decide (0 ≤ t286) = true := decide_eq_true c4
    clear c4
    by_cases c5 : t286 < (l1.length : Int)
    · rw [if_pos c5] at H
      have c5b0 : decide (t286 < (l1.length : Int)) = true := decide_eq_true c5
      clear c5
      simp only [Option.some.injEq, Prod.mk.injEq] at H
      obtain ⟨rfl, rfl, rfl⟩ := H
      go_enter Try.func73, Try.ntmps73
      go_wp2_with (first | ((with_reducible refine gate_callee (f := 70) rfl ?_); refine goesL_ (some 9) rfl rfl Try.func70 (by kernel_rfl) rfl #[.pointer (some ⟨g, 0, none⟩), .int .i64 (l1.length : Int)] rfl (by (try simp only [List.map_toArray, List.map_cons, List.map_nil]); first | done | rfl | (simp only [List.length_drop, List.length_take]; rfl)) ?_; (with_reducible refine (spec_l01Below.calls g s0_0 s0_1 s0_2 (l1.length : Int) t286 t287 t288 w0 _ ?side1 ?side2 A3.out).mono ?_); (case side1 => repeat (first | (with_reducible first | exact HI0.out | apply IsS98.alloc | apply IsS98.drewN | apply IsS98.drew | apply IsS98.set_1 | apply IsS98.set_2) | exact HI0.out)); (case side2 => repeat (first | (with_reducible first | exact HB.out | apply below_alloc | apply pw_below_drewN | apply below_drew1 | refine below_set ?_ (IsS98.ge HI0.out)) | exact HB.out)); rintro e w6 ⟨rfl, hi, hb, hk⟩; refine ⟨_, rfl, ?_⟩; have n0_ := Aside0.mk (KeepBut.trans (by repeat (first | (with_reducible first | exact HK.out | apply KeepBut.set_ | apply keep_drewN | apply keep_drew | apply keep_alloc) | exact HK.out)) hk (.inl rfl)); have n1_ := Aside0.mk (hb); have n2_ := Aside0.mk (hi); clear HK HB HI0; have HK := n0_; have HB := n1_; have HI0 := n2_; clear n0_ n1_ n2_; (try clear hb); (try clear hb2); (try clear hk); (try clear hi); have p289 : 0 ≤ (t286 : Int) := of_decide_eq_true (by first | (with_reducible assumption) | assumption); have q289 : t286 < (l1.length : Int) := of_decide_eq_true (by first | (with_reducible assumption) | assumption); obtain ⟨ad289, e289, hx289_0⟩ := Kd.at_int HR1.out t286 p289 q289; cases e289; replace hx289_0 := keep_cell HK.out hx289_0 (by first | (rw [add_block]; exact hf1 _ rfl (by omega)) | exact hf1 _ rfl (by omega) | exact hf1 ad289 rfl (by omega)); replace p289 := eq_true p289; replace q289 := eq_true q289))
      go_ret
      exact ⟨by first | rfl | (simp [errW_none, errW_some] <;> rfl) | (simp [*, errW_none, errW_some] <;> rfl), by repeat (first | (with_reducible first | exact HI0.out | apply IsS98.alloc | apply IsS98.drewN | apply IsS98.drew | apply IsS98.set_1 | apply IsS98.set_2) | exact HI0.out), by repeat (first | (with_reducible first | exact HB.out | apply below_alloc | apply pw_below_drewN | apply below_drew1 | refine below_set ?_ (IsS98.ge HI0.out)) | exact HB.out), by repeat (first | (with_reducible first | exact HK.out | apply KeepBut.set_ | apply keep_drewN | apply keep_drew | apply keep_alloc) | exact HK.out)⟩
    · rw [if_neg c5] at H
      exact absurd H (by simp)
  · rw [if_neg c4] at H
    exact absurd H (by simp)

/-! ### spec_DrawPlayConn: function 40 -/
mutual
def spec_DrawPlayConn.j0 : Nat → List (List Int) → Int → List Int → Int → Int → Option (Int × (List (List Int)))
  | 0, _, _, _, _, _ => none
  | k + 1, x5, x6, x294000, x294001, x294002 => spec_DrawPlayConn.l0 k x5 x6 0 0 0 x294000 x294001 x294002
def spec_DrawPlayConn.l0 : Nat → List (List Int) → Int → Int → Int → Int → List Int → Int → Int → Option (Int × (List (List Int)))
  | 0, _, _, _, _, _, _, _, _ => none
  | k + 1, x5, x6, x7, x8, x9, x294000, x294001, x294002 => if x9 < x6 then ((spec_l01Below.f x294000 x294001 x294002 5).bind fun bt316 => ((spec_l01Below.f x294000 bt316.2.1 bt316.2.2 9).bind fun bt319 => (spec_DrawPlayConn.l1 k x5 x6 (wrap64 (x7 + bt316.1)) x8 x9 (wrap64 (bt319.1 - 1)) 0 x294000 bt319.2.1 bt319.2.2))) else ((spec_l01Below.f x294000 x294001 x294002 90).bind fun bt307 => ((spec_l01PickInt.f x294000 bt307.2.1 bt307.2.2 (([1, 7, wrap64 (1 + bt307.1), 0, 1000000001] : List Int))).bind fun bt313 => (some (bt313.1, x5))))
def spec_DrawPlayConn.l1 : Nat → List (List Int) → Int → Int → Int → Int → Int → Int → List Int → Int → Int → Option (Int × (List (List Int)))
  | 0, _, _, _, _, _, _, _, _, _, _ => none
  | k + 1, x5, x6, x7, x8, x9, x10, x11, x294000, x294001, x294002 => if x11 < 7 then ((spec_l08To.f k x8 x11).bind fun t322 => (if t322 ≥ 0 then ((spec_l08To.f k x8 x11).bind fun t323 => (if t323 = 4 then (spec_DrawPlayConn.l1 k x5 x6 x7 x8 x9 x10 (wrap64 (x11 + 1)) x294000 x294001 x294002) else ((spec_l01Once.f x294000 x294001 x294002 2).bind fun bt324 => (if bt324.1 = true then (spec_DrawPlayConn.l1 k x5 x6 x7 x8 x9 x11 (wrap64 (x11 + 1)) x294000 bt324.2.1 bt324.2.2) else (spec_DrawPlayConn.l1 k x5 x6 x7 x8 x9 x10 (wrap64 (x11 + 1)) x294000 bt324.2.1 bt324.2.2))))) else (spec_DrawPlayConn.l1 k x5 x6 x7 x8 x9 x10 (wrap64 (x11 + 1)) x294000 x294001 x294002))) else ((spec_l08To.f k x8 x10).bind fun t327 => (if t327 ≥ 0 then ((spec_l08To.f k x8 x10).bind fun t328 => (spec_DrawPlayConn.j3 k x5 x6 x7 t328 x9 x10 x294000 x294001 x294002)) else (spec_DrawPlayConn.j3 k x5 x6 x7 x8 x9 x10 x294000 x294001 x294002)))
def spec_DrawPlayConn.j3 : Nat → List (List Int) → Int → Int → Int → Int → Int → List Int → Int → Int → Option (Int × (List (List Int)))
  | 0, _, _, _, _, _, _, _, _, _ => none
  | k + 1, x5, x6, x7, x8, x9, x10, x294000, x294001, x294002 => (spec_l01Below.f x294000 x294001 x294002 20).bind fun bt329 => (if x5.length < 5864062014805 then ((some (x5 ++ [(([x10, x7, wrap64 (1 + bt329.1)] : List Int))] : List (List Int))).bind fun y335 => ((spec_l01Once.f x294000 bt329.2.1 bt329.2.2 40).bind fun bt338 => (if bt338.1 = true then (if 0 ≤ x9 then (if x9 < (y335.length : Int) then (if 2 ≤ ((rd_L1 y335 x9).length : Int) then (spec_DrawPlayConn.l0 k (y335.set (x9 : Int).toNat ((rd_L1 y335 x9).take 2)) x6 x7 x8 (wrap64 (x9 + 1)) x294000 bt338.2.1 bt338.2.2) else (none)) else (none)) else (none)) else (spec_DrawPlayConn.l0 k y335 x6 x7 x8 (wrap64 (x9 + 1)) x294000 bt338.2.1 bt338.2.2)))) else (none))
end
def spec_DrawPlayConn.f (k : Nat) (l0 : List Int) : Option (Int × (List (List Int))) := (spec_l01New.f k l0).bind fun bt290 => ((some (([] : List (List Int)) : List (List Int))).bind fun y294 => ((spec_l01Size.f l0 30).bind fun t297 => ((spec_l01Below.f bt290.1 bt290.2.1 bt290.2.2 t297).bind fun bt298 => ((spec_l01Once.f bt290.1 bt298.2.1 bt298.2.2 40).bind fun bt301 => (if bt301.1 = true then ((spec_l01Below.f bt290.1 bt301.2.1 bt301.2.2 2).bind fun bt304 => (spec_DrawPlayConn.j0 k y294 (wrap64 (300 + bt304.1)) bt290.1 bt304.2.1 bt304.2.2)) else (spec_DrawPlayConn.j0 k y294 bt298.1 bt290.1 bt301.2.1 bt301.2.2))))))
theorem spec_DrawPlayConn.mono_l : ∀ k, (∀ y0 y1 y2 y3 y4, LeO (spec_DrawPlayConn.j0 k y0 y1 y2 y3 y4) (spec_DrawPlayConn.j0 (k + 1) y0 y1 y2 y3 y4)) ∧ (∀ y0 y1 y2 y3 y4 y5 y6 y7, LeO (spec_DrawPlayConn.l0 k y0 y1 y2 y3 y4 y5 y6 y7) (spec_DrawPlayConn.l0 (k + 1) y0 y1 y2 y3 y4 y5 y6 y7)) ∧ (∀ y0 y1 y2 y3 y4 y5 y6 y7 y8 y9, LeO (spec_DrawPlayConn.l1 k y0 y1 y2 y3 y4 y5 y6 y7 y8 y9) (spec_DrawPlayConn.l1 (k + 1) y0 y1 y2 y3 y4 y5 y6 y7 y8 y9)) ∧ (∀ y0 y1 y2 y3 y4 y5 y6 y7 y8, LeO (spec_DrawPlayConn.j3 k y0 y1 y2 y3 y4 y5 y6 y7 y8) (spec_DrawPlayConn.j3 (k + 1) y0 y1 y2 y3 y4 y5 y6 y7 y8))
  | 0 => ⟨fun _ _ _ _ _ r h => by simp [spec_DrawPlayConn.j0] at h, fun _ _ _ _ _ _ _ _ r h => by simp [spec_DrawPlayConn.l0] at h, fun _ _ _ _ _ _ _ _ _ _ r h => by simp [spec_DrawPlayConn.l1] at h, fun _ _ _ _ _ _ _ _ _ r h => by simp [spec_DrawPlayConn.j3] at h⟩
  | k + 1 => by
    obtain ⟨ih0, ih1, ih2, ih3⟩ := spec_DrawPlayConn.mono_l k
    refine ⟨?_, ?_, ?_, ?_⟩
    · intro y0 y1 y2 y3 y4
      unfold spec_DrawPlayConn.j0
      repeat' first
      | (with_reducible exact ih0 _ _ _ _ _)
      | (with_reducible exact ih1 _ _ _ _ _ _ _ _)
      | (with_reducible exact ih2 _ _ _ _ _ _ _ _ _ _)
      | (with_reducible exact ih3 _ _ _ _ _ _ _ _ _)
      | (with_reducible exact spec_l01New.mono _ _)
      | (with_reducible exact spec_l08To.mono _ _ _)
      | (with_reducible exact LeO.refl _)
      | (with_reducible exact LeO.none _)
      | (with_reducible refine LeO.ite ?_ ?_)
      | (with_reducible refine LeO.bind ?_ (fun _ => ?_))
      | exact ih0 _ _ _ _ _
      | exact ih1 _ _ _ _ _ _ _ _
      | exact ih2 _ _ _ _ _ _ _ _ _ _
      | exact ih3 _ _ _ _ _ _ _ _ _
      | exact spec_l01New.mono _ _
      | exact spec_l08To.mono _ _ _
      | exact LeO.none _
      | refine LeO.ite ?_ ?_
      | refine LeO.bind ?_ (fun _ => ?_)
    · intro y0 y1 y2 y3 y4 y5 y6 y7
      unfold spec_DrawPlayConn.l0
      repeat' first
      | (with_reducible exact ih0 _ _ _ _ _)
      | (with_reducible exact ih1 _ _ _ _ _ _ _ _)
      | (with_reducible exact ih2 _ _ _ _ _ _ _ _ _ _)
      | (with_reducible exact ih3 _ _ _ _ _ _ _ _ _)
      | (with_reducible exact spec_l01New.mono _ _)
      | (with_reducible exact spec_l08To.mono _ _ _)
      | (with_reducible exact LeO.refl _)
      | (with_reducible exact LeO.none _)
      | (with_reducible refine LeO.ite ?_ ?_)
      | (with_reducible refine LeO.bind ?_ (fun _ => ?_))
      | exact ih0 _ _ _ _ _
      | exact ih1 _ _ _ _ _ _ _ _
      | exact ih2 _ _ _ _ _ _ _ _ _ _
      | exact ih3 _ _ _ _ _ _ _ _ _
      | exact spec_l01New.mono _ _
      | exact spec_l08To.mono _ _ _
      | exact LeO.none _
      | refine LeO.ite ?_ ?_
      | refine LeO.bind ?_ (fun _ => ?_)
    · intro y0 y1 y2 y3 y4 y5 y6 y7 y8 y9
      unfold spec_DrawPlayConn.l1
      repeat' first
      | (with_reducible exact ih0 _ _ _ _ _)
      | (with_reducible exact ih1 _ _ _ _ _ _ _ _)
      | (with_reducible exact ih2 _ _ _ _ _ _ _ _ _ _)
      | (with_reducible exact ih3 _ _ _ _ _ _ _ _ _)
      | (with_reducible exact spec_l01New.mono _ _)
      | (with_reducible exact spec_l08To.mono _ _ _)
      | (with_reducible exact LeO.refl _)
      | (with_reducible exact LeO.none _)
      | (with_reducible refine LeO.ite ?_ ?_)
      | (with_reducible refine LeO.bind ?_ (fun _ => ?_))
      | exact ih0 _ _ _ _ _
      | exact ih1 _ _ _ _ _ _ _ _
      | exact ih2 _ _ _ _ _ _ _ _ _ _
      | exact ih3 _ _ _ _ _ _ _ _ _
      | exact spec_l01New.mono _ _
      | exact spec_l08To.mono _ _ _
      | exact LeO.none _
      | refine LeO.ite ?_ ?_
      | refine LeO.bind ?_ (fun _ => ?_)
    · intro y0 y1 y2 y3 y4 y5 y6 y7 y8
      unfold spec_DrawPlayConn.j3
      repeat' first
      | (with_reducible exact ih0 _ _ _ _ _)
      | (with_reducible exact ih1 _ _ _ _ _ _ _ _)
      | (with_reducible exact ih2 _ _ _ _ _ _ _ _ _ _)
      | (with_reducible exact ih3 _ _ _ _ _ _ _ _ _)
      | (with_reducible exact spec_l01New.mono _ _)
      | (with_reducible exact spec_l08To.mono _ _ _)
      | (with_reducible exact LeO.refl _)
      | (with_reducible exact LeO.none _)
      | (with_reducible refine LeO.ite ?_ ?_)
      | (with_reducible refine LeO.bind ?_ (fun _ => ?_))
      | exact ih0 _ _ _ _ _
      | exact ih1 _ _ _ _ _ _ _ _
      | exact ih2 _ _ _ _ _ _ _ _ _ _
      | exact ih3 _ _ _ _ _ _ _ _ _
      | exact spec_l01New.mono _ _
      | exact spec_l08To.mono _ _ _
      | exact LeO.none _
      | refine LeO.ite ?_ ?_
      | refine LeO.bind ?_ (fun _ => ?_)
theorem spec_DrawPlayConn.mono : ∀ a0 k, LeO (spec_DrawPlayConn.f k a0) (spec_DrawPlayConn.f (k + 1) a0) := by
  intro a0 k
  obtain ⟨ih0, ih1, ih2, ih3⟩ := spec_DrawPlayConn.mono_l k
  unfold spec_DrawPlayConn.f
  repeat' first
      | (with_reducible exact ih0 _ _ _ _ _)
      | (with_reducible exact ih1 _ _ _ _ _ _ _ _)
      | (with_reducible exact ih2 _ _ _ _ _ _ _ _ _ _)
      | (with_reducible exact ih3 _ _ _ _ _ _ _ _ _)
      | (with_reducible exact spec_l01New.mono _ _)
      | (with_reducible exact spec_l08To.mono _ _ _)
      | (with_reducible exact LeO.refl _)
      | (with_reducible exact LeO.none _)
      | (with_reducible refine LeO.ite ?_ ?_)
      | (with_reducible refine LeO.bind ?_ (fun _ => ?_))
      | exact ih0 _ _ _ _ _
      | exact ih1 _ _ _ _ _ _ _ _
      | exact ih2 _ _ _ _ _ _ _ _ _ _
      | exact ih3 _ _ _ _ _ _ _ _ _
      | exact spec_l01New.mono _ _
      | exact spec_l08To.mono _ _ _
      | exact LeO.none _
      | refine LeO.ite ?_ ?_
      | refine LeO.bind ?_ (fun _ => ?_)
set_option maxHeartbeats 40000000 in
set_option maxRecDepth 100000 in
theorem spec_DrawPlayConn.calls (k : Nat) (A0 : Option Addr) (c0 : Nat) (l0 : List Int) (r1 : Int) (r2 : List (List Int)) (w : World) (hr0 : Kd.C (Kd.int .u8) w A0 l0.length l0) (hc0 : l0.length ≤ c0) (h : spec_DrawPlayConn.f k l0 = some (r1, r2)) :
    Calls Try.prog 40 #[.slice A0 l0.length c0] w fun e w' => ∃ v1_ : Value, e = .returned (.tuple #[.int .i64 r1, v1_]) ∧ Kd.N (Kd.slice 3 (Kd.int .i64)) 58 w' w.heap.size (fun k_ => (w.heap.size ≤ k_)) v1_ r2 ∧ Below w.heap.size w w' := by
  have HR0 := Aside0.mk hr0
  have HC0 := Aside0.mk hc0
  clear hr0 hc0
  have HB := Aside0.mk (Below.refl w.heap.size w)
  have H : ((spec_l01New.f k l0).bind fun bt290 => ((some (([] : List (List Int)) : List (List Int))).bind fun y294 => ((spec_l01Size.f l0 30).bind fun t297 => ((spec_l01Below.f bt290.1 bt290.2.1 bt290.2.2 t297).bind fun bt298 => ((spec_l01Once.f bt290.1 bt298.2.1 bt298.2.2 40).bind fun bt301 => (if bt301.1 = true then ((spec_l01Below.f bt290.1 bt301.2.1 bt301.2.2 2).bind fun bt304 => (spec_DrawPlayConn.j0 k y294 (wrap64 (300 + bt304.1)) bt290.1 bt304.2.1 bt304.2.2)) else (spec_DrawPlayConn.j0 k y294 bt298.1 bt290.1 bt301.2.1 bt301.2.2))))))) = some (r1, r2) := h
  clear h
  replace H := Option.bind_eq_some_iff.mp H
  obtain ⟨⟨t290, t291, t292⟩, A20, H⟩ := H
  replace H : ((some (([] : List (List Int)) : List (List Int))).bind fun y294 => ((spec_l01Size.f l0 30).bind fun t297 => ((spec_l01Below.f t290 t291 t292 t297).bind fun bt298 => ((spec_l01Once.f t290 bt298.2.1 bt298.2.2 40).bind fun bt301 => (if bt301.1 = true then ((spec_l01Below.f t290 bt301.2.1 bt301.2.2 2).bind fun bt304 => (spec_DrawPlayConn.j0 k y294 (wrap64 (300 + bt304.1)) t290 bt304.2.1 bt304.2.2)) else (spec_DrawPlayConn.j0 k y294 bt298.1 t290 bt301.2.1 bt301.2.2)))))) = some (r1, r2) := H
  have A2 := Aside0.mk A20
  clear A20
  obtain ⟨y294, hy294⟩ : ∃ y_ : List (List Int), y_ = (([] : List (List Int))) := ⟨_, rfl⟩
  replace H : ((spec_l01Size.f l0 30).bind fun t297 => ((spec_l01Below.f t290 t291 t292 t297).bind fun bt298 => ((spec_l01Once.f t290 bt298.2.1 bt298.2.2 40).bind fun bt301 => (if bt301.1 = true then ((spec_l01Below.f t290 bt301.2.1 bt301.2.2 2).bind fun bt304 => (spec_DrawPlayConn.j0 k y294 (wrap64 (300 + bt304.1)) t290 bt304.2.1 bt304.2.2)) else (spec_DrawPlayConn.j0 k y294 bt298.1 t290 bt301.2.1 bt301.2.2))))) = some (r1, r2) := by first | (rw [hy294]; with_reducible exact H) | (have H2_ := (Option.bind_some _ _).symm.trans H; rw [hy294]; with_reducible exact H2_) | (have H2_ := (Option.bind_some _ _).symm.trans H; with_reducible exact H2_) | with_reducible exact H | (rw [hy294]; exact H) | exact H
  have Ny294 := Aside0.mk hy294
  clear hy294
  replace H := Option.bind_eq_some_iff.mp H
  obtain ⟨t297, A30, H⟩ := H
  replace H : ((spec_l01Below.f t290 t291 t292 t297).bind fun bt298 => ((spec_l01Once.f t290 bt298.2.1 bt298.2.2 40).bind fun bt301 => (if bt301.1 = true then ((spec_l01Below.f t290 bt301.2.1 bt301.2.2 2).bind fun bt304 => (spec_DrawPlayConn.j0 k y294 (wrap64 (300 + bt304.1)) t290 bt304.2.1 bt304.2.2)) else (spec_DrawPlayConn.j0 k y294 bt298.1 t290 bt301.2.1 bt301.2.2)))) = some (r1, r2) := H
  have A3 := Aside0.mk A30
  clear A30
  replace H := Option.bind_eq_some_iff.mp H
  obtain ⟨⟨t298, t299, t300⟩, A40, H⟩ := H
  replace H : ((spec_l01Once.f t290 t299 t300 40).bind fun bt301 => (if bt301.1 = true then ((spec_l01Below.f t290 bt301.2.1 bt301.2.2 2).bind fun bt304 => (spec_DrawPlayConn.j0 k y294 (wrap64 (300 + bt304.1)) t290 bt304.2.1 bt304.2.2)) else (spec_DrawPlayConn.j0 k y294 t298 t290 bt301.2.1 bt301.2.2))) = some (r1, r2) := H
  have A4 := Aside0.mk A40
  clear A40
  replace H := Option.bind_eq_some_iff.mp H
  obtain ⟨⟨t301, t302, t303⟩, A50, H⟩ := H
  replace H : (if t301 = true then ((spec_l01Below.f t290 t302 t303 2).bind fun bt304 => (spec_DrawPlayConn.j0 k y294 (wrap64 (300 + bt304.1)) t290 bt304.2.1 bt304.2.2)) else (spec_DrawPlayConn.j0 k y294 t298 t290 t302 t303)) = some (r1, r2) := H
  have A5 := Aside0.mk A50
  clear A50
  have HC6 := Aside0.mk H
  clear H
  go_enter Try.func40, Try.ntmps40
  go_upto_if 20 with (first | ((with_reducible refine gate_callee (f := 69) rfl ?_); refine goesL_ (some 13) rfl rfl Try.func69 (by kernel_rfl) rfl #[.slice A0 l0.length c0] rfl (by (try simp only [List.map_toArray, List.map_cons, List.map_nil]); first | done | rfl | (simp only [List.length_drop, List.length_take]; rfl)) ?_; (with_reducible refine (spec_l01New.calls k _ _ l0 t290 t291 t292 w _ ?side1 ?side2 ?side3 A2.out).mono ?_); (case side1 => exact be_ HB.out); (case side2 => exact HR0.out); (case side3 => exact HC0.out); rintro e w7 ⟨g293, rfl, hi, hb, hb2⟩; refine ⟨_, rfl, ?_⟩; have n0_ := Aside0.mk (hb); have n1_ := Aside0.mk (hi); clear HB; have HB := n0_; have HI293 := n1_; clear n0_ n1_; (try clear hb); (try clear hb2); (try clear hk); (try clear hi)) | ((with_reducible refine gate_dst (N := 14) rfl ?_); refine Kd.N_lit (Kd.slice 3 (Kd.int .i64)) _ 58 ?hg (N' := 14) ?hd (xs := ([] : List (List Int))) (inner := []) (ok := (fun k_ => (w.heap.size ≤ k_) ∧ k_ ≠ g293)) (okp := (fun k_ => (w.heap.size ≤ k_) ∧ k_ ≠ g293)) ?hr ?hp (fun _ hk => hk) ((show ∀ k_, w7.heap.size ≤ k_ → (fun k_ => (w.heap.size ≤ k_) ∧ k_ ≠ g293) k_ from fun k_ hk => ⟨(Nat.le_trans (below_size (by repeat (first | (with_reducible first | exact HB.out | apply below_alloc | apply pw_below_drewN | apply below_drew1 | refine below_set ?_ (IsS98.ge HI293.out)) | exact HB.out))) hk), IsS98.fresh (by repeat (first | (with_reducible first | exact HI293.out | apply IsS98.alloc | apply IsS98.drewN | apply IsS98.drew | apply IsS98.set_1 | apply IsS98.set_2) | exact HI293.out)) k_ hk⟩) _ (Nat.le_refl _)) (Below.refl _ _) (Nat.le_refl _) (by simp) ?_; (case hd => rfl); (case hg => rfl); (case hr => first | (go_simp; done) | (go_simp; rfl)); (case hp => exact (Reps.none _ _)); intro v295 w8 ho9 hb hg_ hnew_; clear hg_ hnew_; (first | rw [← Ny294.out] at ho9 | (simp only [Int.reduceToNat] at ho9; rw [← Ny294.out] at ho9)); have n0_ := Aside0.mk (Kd.N_lower ho9 (below_size (by repeat (first | (with_reducible first | exact HB.out | apply below_alloc | apply pw_below_drewN | apply below_drew1 | refine below_set ?_ (IsS98.ge HI293.out)) | exact HB.out)))); have n1_ := Aside0.mk (IsS98.below (by repeat (first | (with_reducible first | exact HI293.out | apply IsS98.alloc | apply IsS98.drewN | apply IsS98.drew | apply IsS98.set_1 | apply IsS98.set_2) | exact HI293.out)) hb); have n2_ := Aside0.mk (below_step (by repeat (first | (with_reducible first | exact HB.out | apply below_alloc | apply pw_below_drewN | apply below_drew1 | refine below_set ?_ (IsS98.ge HI293.out)) | exact HB.out)) hb); clear HI293 HB; have HO296 := n0_; have HI293 := n1_; have HB := n2_; clear n0_ n1_ n2_; clear hb ho9) | ((with_reducible refine gate_callee (f := 71) rfl ?_); refine goesL_ (some 17) rfl rfl Try.func71 (by kernel_rfl) rfl #[.slice A0 l0.length c0, .int .i64 30] rfl (by (try simp only [List.map_toArray, List.map_cons, List.map_nil]); first | done | rfl | (simp only [List.length_drop, List.length_take]; rfl)) ?_; (with_reducible refine (spec_l01Size.calls _ _ l0 30 t297 _ ?side1 ?side2 A3.out).mono ?_); (case side1 => repeat (first | exact (Kd.C_below HR0.out HB.out) | (with_reducible refine Kd.C_alloc ?_ _) | (with_reducible refine Kd.C_drewN ?_ _) | (with_reducible refine Kd.C_drew ?_))); (case side2 => exact HC0.out); rintro e w' ⟨rfl, ⟨nd, rfl⟩⟩; refine ⟨_, rfl, ?_⟩) | ((with_reducible refine gate_callee (f := 70) rfl ?_); refine goesL_ (some 18) rfl rfl Try.func70 (by kernel_rfl) rfl #[.pointer (some ⟨g293, 0, none⟩), .int .i64 t297] rfl (by (try simp only [List.map_toArray, List.map_cons, List.map_nil]); first | done | rfl | (simp only [List.length_drop, List.length_take]; rfl)) ?_; (with_reducible refine (spec_l01Below.calls g293 t290 t291 t292 t297 t298 t299 t300 w _ ?side1 ?side2 A4.out).mono ?_); (case side1 => repeat (first | (with_reducible first | exact HI293.out | apply IsS98.alloc | apply IsS98.drewN | apply IsS98.drew | apply IsS98.set_1 | apply IsS98.set_2) | exact HI293.out)); (case side2 => repeat (first | (with_reducible first | exact HB.out | apply below_alloc | apply pw_below_drewN | apply below_drew1 | refine below_set ?_ (IsS98.ge HI293.out)) | exact HB.out)); rintro e w10 ⟨rfl, hi, hb, hk⟩; refine ⟨_, rfl, ?_⟩; have n0_ := Aside0.mk (Kd.N_mono (Kd.N_keep (Kd.N_mono (ok := fun k_ => (((w.heap.size ≤ k_)) ∧ k_ ≠ g293)) (by (with_reducible repeat (first | apply Kd.N_alloc | apply Kd.N_drewN | apply Kd.N_drew)); exact HO296.out) (fun k_ hk_ => (⟨hk_, hk_.2⟩ : _ ∧ k_ ≠ g293))) hk (fun _ h => h.2)) (fun _ h => h.1)); have n1_ := Aside0.mk (hb); have n2_ := Aside0.mk (hi); clear HO296 HB HI293; have HO296 := n0_; have HB := n1_; have HI293 := n2_; clear n0_ n1_ n2_; (try clear hb); (try clear hb2); (try clear hk); (try clear hi)) | ((with_reducible refine gate_callee (f := 72) rfl ?_); refine goesL_ (some 20) rfl rfl Try.func72 (by kernel_rfl) rfl #[.pointer (some ⟨g293, 0, none⟩), .int .i64 40] rfl (by (try simp only [List.map_toArray, List.map_cons, List.map_nil]); first | done | rfl | (simp only [List.length_drop, List.length_take]; rfl)) ?_; (with_reducible refine (spec_l01Once.calls g293 t290 t299 t300 40 t301 t302 t303 w _ ?side1 ?side2 A5.out).mono ?_); (case side1 => repeat (first | (with_reducible first | exact HI293.out | apply IsS98.alloc | apply IsS98.drewN | apply IsS98.drew | apply IsS98.set_1 | apply IsS98.set_2) | exact HI293.out)); (case side2 => repeat (first | (with_reducible first | exact HB.out | apply below_alloc | apply pw_below_drewN | apply below_drew1 | refine below_set ?_ (IsS98.ge HI293.out)) | exact HB.out)); rintro e w11 ⟨rfl, hi, hb, hk⟩; refine ⟨_, rfl, ?_⟩; have n0_ := Aside0.mk (Kd.N_mono (Kd.N_keep (Kd.N_mono (ok := fun k_ => (((w.heap.size ≤ k_)) ∧ k_ ≠ g293)) (by (with_reducible repeat (first | apply Kd.N_alloc | apply Kd.N_drewN | apply Kd.N_drew)); exact HO296.out) (fun k_ hk_ => (⟨hk_, hk_.2⟩ : _ ∧ k_ ≠ g293))) hk (fun _ h => h.2)) (fun _ h => h.1)); have n1_ := Aside0.mk (hb); have n2_ := Aside0.mk (hi); clear HO296 HB HI293; have HO296 := n0_; have HB := n1_; have HI293 := n2_; clear n0_ n1_ n2_; (try clear hb); (try clear hb2); (try clear hk); (try clear hi)))
  (try simp only [Act.put, List.setIfInBounds_toArray, List.set_cons_zero, List.set_cons_succ])
  go_cut [6] (fun zv6 wc => ∃ (kq : Nat) (x6_5 : Int) (x294001_5 : Int) (x294002_5 : Int), zv6 = .int .i64 x6_5 ∧ Aside0 (spec_DrawPlayConn.j0 kq y294 x6_5 t290 x294001_5 x294002_5 = some (r1, r2)) ∧ Aside0 (kq ≤ k) ∧ Aside0 (Kd.N (Kd.slice 3 (Kd.int .i64)) 58 wc w.heap.size (fun k_ => (w.heap.size ≤ k_) ∧ k_ ≠ g293) v295 y294) ∧ Aside0 (IsS98 w wc g293 t290 x294001_5 x294002_5) ∧ Aside0 (Below w.heap.size w wc))
  case first =>
    have H := HC6.out
    clear HC6
    by_cases c12 : t301 = true
    · subst c12
      have H1 : ((spec_l01Below.f t290 t302 t303 2).bind fun bt304 => (spec_DrawPlayConn.j0 k y294 (wrap64 (300 + bt304.1)) t290 bt304.2.1 bt304.2.2)) = some (r1, r2) := by rw [if_pos rfl] at H; exact H
      clear H
      have H := H1
      clear H1
      replace H := Option.bind_eq_some_iff.mp H
      obtain ⟨⟨t304, t305, t306⟩, A130, H⟩ := H
      replace H : (spec_DrawPlayConn.j0 k y294 (wrap64 (300 + t304)) t290 t305 t306) = some (r1, r2) := H
      have A13 := Aside0.mk A130
      clear A130
      have H' := Aside0.mk H
      clear H
      go_wp2_with (first | ((with_reducible refine gate_callee (f := 70) rfl ?_); refine goesL_ (some 22) rfl rfl Try.func70 (by kernel_rfl) rfl #[.pointer (some ⟨g293, 0, none⟩), .int .i64 2] rfl (by (try simp only [List.map_toArray, List.map_cons, List.map_nil]); first | done | rfl | (simp only [List.length_drop, List.length_take]; rfl)) ?_; (with_reducible refine (spec_l01Below.calls g293 t290 t302 t303 2 t304 t305 t306 w _ ?side1 ?side2 A13.out).mono ?_); (case side1 => repeat (first | (with_reducible first | exact HI293.out | apply IsS98.alloc | apply IsS98.drewN | apply IsS98.drew | apply IsS98.set_1 | apply IsS98.set_2) | exact HI293.out)); (case side2 => repeat (first | (with_reducible first | exact HB.out | apply below_alloc | apply pw_below_drewN | apply below_drew1 | refine below_set ?_ (IsS98.ge HI293.out)) | exact HB.out)); rintro e w14 ⟨rfl, hi, hb, hk⟩; refine ⟨_, rfl, ?_⟩; have n0_ := Aside0.mk (Kd.N_mono (Kd.N_keep (Kd.N_mono (ok := fun k_ => (((w.heap.size ≤ k_)) ∧ k_ ≠ g293)) (by (with_reducible repeat (first | apply Kd.N_alloc | apply Kd.N_drewN | apply Kd.N_drew)); exact HO296.out) (fun k_ hk_ => (⟨hk_, hk_.2⟩ : _ ∧ k_ ≠ g293))) hk (fun _ h => h.2)) (fun _ h => h.1)); have n1_ := Aside0.mk (hb); have n2_ := Aside0.mk (hi); clear HO296 HB HI293; have HO296 := n0_; have HB := n1_; have HI293 := n2_; clear n0_ n1_ n2_; (try clear hb); (try clear hb2); (try clear hk); (try clear hi)))
      go_meet
      case rel => exact ⟨_, (wrap64 (300 + t304)), (t305), (t306), (by first | rfl | (simp; done) | (simp [*]; done)), H', ⟨by first | omega | exact Nat.le_refl _⟩, ⟨by (with_reducible repeat (first | apply Kd.N_alloc | apply Kd.N_drewN | apply Kd.N_drew)); exact HO296.out⟩, ⟨by repeat (first | (with_reducible first | exact HI293.out | apply IsS98.alloc | apply IsS98.drewN | apply IsS98.drew | apply IsS98.set_1 | apply IsS98.set_2) | exact HI293.out)⟩, ⟨by repeat (first | (with_reducible first | exact HB.out | apply below_alloc | apply pw_below_drewN | apply below_drew1 | refine below_set ?_ (IsS98.ge HI293.out)) | exact HB.out)⟩⟩
    · replace c12 := Bool.eq_false_iff.mpr c12
      subst c12
      have H1 : (spec_DrawPlayConn.j0 k y294 t298 t290 t302 t303) = some (r1, r2) := by rw [if_neg (show ¬ (false = true) by decide)] at H; exact H
      clear H
      have H := H1
      clear H1
      have H' := Aside0.mk H
      clear H
      go_wp2
      go_meet
      case rel => exact ⟨_, (t298), (t302), (t303), (by first | rfl | (simp; done) | (simp [*]; done)), H', ⟨by first | omega | exact Nat.le_refl _⟩, ⟨by (with_reducible repeat (first | apply Kd.N_alloc | apply Kd.N_drewN | apply Kd.N_drew)); exact HO296.out⟩, ⟨by repeat (first | (with_reducible first | exact HI293.out | apply IsS98.alloc | apply IsS98.drewN | apply IsS98.drew | apply IsS98.set_1 | apply IsS98.set_2) | exact HI293.out)⟩, ⟨by repeat (first | (with_reducible first | exact HB.out | apply below_alloc | apply pw_below_drewN | apply below_drew1 | refine below_set ?_ (IsS98.ge HI293.out)) | exact HB.out)⟩⟩
  case rest =>
    clear HC6
    try clear c1
    try clear p2
    try clear c4
    try clear c6
    try clear p6
    try clear c7
    try clear c12
    obtain ⟨kq, x6_5, x294001_5, x294002_5, rfl, HA, HJ5, HO_5, HI293, HB⟩ := hcut
    cases kq with
    | zero => exact absurd HA.out (by simp [spec_DrawPlayConn.j0])
    | succ kj5 =>
      have H := HA.out
      clear HA
      simp only [spec_DrawPlayConn.j0] at H
      have H' := Aside0.mk H
      clear H
      go_wp2
      go_loopg [5, 7, 8, 9] kj5 (fun kq v5 zv7 zv8 zv9 w' => ∃ (x5_2 : List (List Int)) (x7_2 : Int) (x8_2 : Int) (x9_2 : Int) (x294001_2 : Int) (x294002_2 : Int), zv7 = .int .i64 x7_2 ∧ zv8 = .int .i64 x8_2 ∧ zv9 = .int .i64 x9_2 ∧ Aside0 (spec_DrawPlayConn.l0 kq x5_2 x6_5 x7_2 x8_2 x9_2 t290 x294001_2 x294002_2 = some (r1, r2)) ∧ Aside0 (kq ≤ kj5) ∧ Aside0 (Kd.N (Kd.slice 3 (Kd.int .i64)) 58 w' w.heap.size (fun k_ => (w.heap.size ≤ k_) ∧ k_ ≠ g293) v5 x5_2) ∧ Aside0 (IsS98 w w' g293 t290 x294001_2 x294002_2) ∧ Aside0 (Below w.heap.size w w'))
      case atStart => exact ⟨(y294), (0), (0), (0), (x294001_5), (x294002_5), (by first | rfl | (simp; done) | (simp [*]; done)), (by first | rfl | (simp; done) | (simp [*]; done)), (by first | rfl | (simp; done) | (simp [*]; done)), H', ⟨Nat.le_refl _⟩, ⟨by (with_reducible repeat (first | apply Kd.N_alloc | apply Kd.N_drewN | apply Kd.N_drew)); exact HO_5.out⟩, ⟨by repeat (first | (with_reducible first | exact HI293.out | apply IsS98.alloc | apply IsS98.drewN | apply IsS98.drew | apply IsS98.set_1 | apply IsS98.set_2) | exact HI293.out)⟩, ⟨by repeat (first | (with_reducible first | exact HB.out | apply below_alloc | apply pw_below_drewN | apply below_drew1 | refine below_set ?_ (IsS98.ge HI293.out)) | exact HB.out)⟩⟩
      case round =>
        clear H'
        try clear c1
        try clear p2
        try clear c4
        try clear c6
        try clear p6
        try clear c7
        try clear c12
        try clear p2
        try clear p6
        obtain ⟨x5_2, x7_2, x8_2, x9_2, x294001_2, x294002_2, rfl, rfl, rfl, HA, HK2, HO_5, HI293, HB⟩ := hrel
        cases gk with
        | zero => exact absurd HA.out (by simp [spec_DrawPlayConn.l0])
        | succ k2 =>
          have H := HA.out
          clear HA
          simp only [spec_DrawPlayConn.l0] at H
          by_cases c15 : x9_2 < x6_5
          · rw [if_pos c15] at H
            have c15b0 : decide (x9_2 < x6_5) = true := decide_eq_true c15
            clear c15
            replace H := Option.bind_eq_some_iff.mp H
            obtain ⟨⟨t316, t317, t318⟩, A160, H⟩ := H
            replace H : ((spec_l01Below.f t290 t317 t318 9).bind fun bt319 => (spec_DrawPlayConn.l1 k2 x5_2 x6_5 (wrap64 (x7_2 + t316)) x8_2 x9_2 (wrap64 (bt319.1 - 1)) 0 t290 bt319.2.1 bt319.2.2)) = some (r1, r2) := H
            have A16 := Aside0.mk A160
            clear A160
            replace H := Option.bind_eq_some_iff.mp H
            obtain ⟨⟨t319, t320, t321⟩, A170, H⟩ := H
            replace H : (spec_DrawPlayConn.l1 k2 x5_2 x6_5 (wrap64 (x7_2 + t316)) x8_2 x9_2 (wrap64 (t319 - 1)) 0 t290 t320 t321) = some (r1, r2) := H
            have A17 := Aside0.mk A170
            clear A170
            have H' := Aside0.mk H
            clear H
            go_wp2_with (first | ((with_reducible refine gate_callee (f := 70) rfl ?_); refine goesL_ (some 31) rfl rfl Try.func70 (by kernel_rfl) rfl #[.pointer (some ⟨g293, 0, none⟩), .int .i64 5] rfl (by (try simp only [List.map_toArray, List.map_cons, List.map_nil]); first | done | rfl | (simp only [List.length_drop, List.length_take]; rfl)) ?_; (with_reducible refine (spec_l01Below.calls g293 t290 x294001_2 x294002_2 5 t316 t317 t318 w _ ?side1 ?side2 A16.out).mono ?_); (case side1 => repeat (first | (with_reducible first | exact HI293.out | apply IsS98.alloc | apply IsS98.drewN | apply IsS98.drew | apply IsS98.set_1 | apply IsS98.set_2) | exact HI293.out)); (case side2 => repeat (first | (with_reducible first | exact HB.out | apply below_alloc | apply pw_below_drewN | apply below_drew1 | refine below_set ?_ (IsS98.ge HI293.out)) | exact HB.out)); rintro e w18 ⟨rfl, hi, hb, hk⟩; refine ⟨_, rfl, ?_⟩; have n0_ := Aside0.mk (Kd.N_mono (Kd.N_keep (Kd.N_mono (ok := fun k_ => (((w.heap.size ≤ k_)) ∧ k_ ≠ g293)) (by (with_reducible repeat (first | apply Kd.N_alloc | apply Kd.N_drewN | apply Kd.N_drew)); exact HO_5.out) (fun k_ hk_ => (⟨hk_, hk_.2⟩ : _ ∧ k_ ≠ g293))) hk (fun _ h => h.2)) (fun _ h => h.1)); have n1_ := Aside0.mk (hb); have n2_ := Aside0.mk (hi); clear HO_5 HB HI293; have HO_5 := n0_; have HB := n1_; have HI293 := n2_; clear n0_ n1_ n2_; (try clear hb); (try clear hb2); (try clear hk); (try clear hi)) | ((with_reducible refine gate_callee (f := 70) rfl ?_); refine goesL_ (some 34) rfl rfl Try.func70 (by kernel_rfl) rfl #[.pointer (some ⟨g293, 0, none⟩), .int .i64 9] rfl (by (try simp only [List.map_toArray, List.map_cons, List.map_nil]); first | done | rfl | (simp only [List.length_drop, List.length_take]; rfl)) ?_; (with_reducible refine (spec_l01Below.calls g293 t290 t317 t318 9 t319 t320 t321 w _ ?side1 ?side2 A17.out).mono ?_); (case side1 => repeat (first | (with_reducible first | exact HI293.out | apply IsS98.alloc | apply IsS98.drewN | apply IsS98.drew | apply IsS98.set_1 | apply IsS98.set_2) | exact HI293.out)); (case side2 => repeat (first | (with_reducible first | exact HB.out | apply below_alloc | apply pw_below_drewN | apply below_drew1 | refine below_set ?_ (IsS98.ge HI293.out)) | exact HB.out)); rintro e w19 ⟨rfl, hi, hb, hk⟩; refine ⟨_, rfl, ?_⟩; have n0_ := Aside0.mk (Kd.N_mono (Kd.N_keep (Kd.N_mono (ok := fun k_ => (((w.heap.size ≤ k_)) ∧ k_ ≠ g293)) (by (with_reducible repeat (first | apply Kd.N_alloc | apply Kd.N_drewN | apply Kd.N_drew)); exact HO_5.out) (fun k_ hk_ => (⟨hk_, hk_.2⟩ : _ ∧ k_ ≠ g293))) hk (fun _ h => h.2)) (fun _ h => h.1)); have n1_ := Aside0.mk (hb); have n2_ := Aside0.mk (hi); clear HO_5 HB HI293; have HO_5 := n0_; have HB := n1_; have HI293 := n2_; clear n0_ n1_ n2_; (try clear hb); (try clear hb2); (try clear hk); (try clear hi)))
            go_loopg [10, 11] k2 (fun kq zv10 zv11 w' => ∃ (x10_3 : Int) (x11_3 : Int) (x294001_3 : Int) (x294002_3 : Int), zv10 = .int .i64 x10_3 ∧ zv11 = .int .i64 x11_3 ∧ Aside0 (spec_DrawPlayConn.l1 kq x5_2 x6_5 (wrap64 (x7_2 + t316)) x8_2 x9_2 x10_3 x11_3 t290 x294001_3 x294002_3 = some (r1, r2)) ∧ Aside0 (kq ≤ k2) ∧ Aside0 (Kd.N (Kd.slice 3 (Kd.int .i64)) 58 w' w.heap.size (fun k_ => (w.heap.size ≤ k_) ∧ k_ ≠ g293) u5 x5_2) ∧ Aside0 (IsS98 w w' g293 t290 x294001_3 x294002_3) ∧ Aside0 (Below w.heap.size w w'))
            case atStart => exact ⟨(wrap64 (t319 - 1)), (0), (t320), (t321), (by first | rfl | (simp; done) | (simp [*]; done)), (by first | rfl | (simp; done) | (simp [*]; done)), H', ⟨Nat.le_refl _⟩, ⟨by (with_reducible repeat (first | apply Kd.N_alloc | apply Kd.N_drewN | apply Kd.N_drew)); exact HO_5.out⟩, ⟨by repeat (first | (with_reducible first | exact HI293.out | apply IsS98.alloc | apply IsS98.drewN | apply IsS98.drew | apply IsS98.set_1 | apply IsS98.set_2) | exact HI293.out)⟩, ⟨by repeat (first | (with_reducible first | exact HB.out | apply below_alloc | apply pw_below_drewN | apply below_drew1 | refine below_set ?_ (IsS98.ge HI293.out)) | exact HB.out)⟩⟩
            case round =>
              clear H'
              try clear c1
              try clear p2
              try clear c4
              try clear c6
              try clear p6
              try clear c7
              try clear c12
              try clear c15
              try clear c15b0
              try clear p2
              try clear p6
              obtain ⟨x10_3, x11_3, x294001_3, x294002_3, rfl, rfl, HA, HK3, HO_5, HI293, HB⟩ := hrel
              cases gk with
              | zero => exact absurd HA.out (by simp [spec_DrawPlayConn.l1])
              | succ k3 =>
                have H := HA.out
                clear HA
                simp only [spec_DrawPlayConn.l1] at H
                by_cases c20 : x11_3 < 7
                · rw [if_pos c20] at H
                  have c20b0 : decide (x11_3 < 7) = true := decide_eq_true c20
                  clear c20
                  replace H := Option.bind_eq_some_iff.mp H
                  obtain ⟨t322, A210, H⟩ := H
                  replace H : (if t322 ≥ 0 then ((spec_l08To.f k3 x8_2 x11_3).bind fun t323 => (if t323 = 4 then (spec_DrawPlayConn.l1 k3 x5_2 x6_5 (wrap64 (x7_2 + t316)) x8_2 x9_2 x10_3 (wrap64 (x11_3 + 1)) t290 x294001_3 x294002_3) else ((spec_l01Once.f t290 x294001_3 x294002_3 2).bind fun bt324 => (if bt324.1 = true then (spec_DrawPlayConn.l1 k3 x5_2 x6_5 (wrap64 (x7_2 + t316)) x8_2 x9_2 x11_3 (wrap64 (x11_3 + 1)) t290 bt324.2.1 bt324.2.2) else (spec_DrawPlayConn.l1 k3 x5_2 x6_5 (wrap64 (x7_2 + t316)) x8_2 x9_2 x10_3 (wrap64 (x11_3 + 1)) t290 bt324.2.1 bt324.2.2))))) else (spec_DrawPlayConn.l1 k3 x5_2 x6_5 (wrap64 (x7_2 + t316)) x8_2 x9_2 x10_3 (wrap64 (x11_3 + 1)) t290 x294001_3 x294002_3)) = some (r1, r2) := H
                  have A21 := Aside0.mk A210
                  clear A210
                  by_cases c22 : t322 ≥ 0
                  · rw [if_pos c22] at H
                    have c22b0 : decide (0 ≤ t322) = true := decide_eq_true c22
                    clear c22
                    replace H := Option.bind_eq_some_iff.mp H
                    obtain ⟨t323, A230, H⟩ := H
                    replace H : (if t323 = 4 then (spec_DrawPlayConn.l1 k3 x5_2 x6_5 (wrap64 (x7_2 + t316)) x8_2 x9_2 x10_3 (wrap64 (x11_3 + 1)) t290 x294001_3 x294002_3) else ((spec_l01Once.f t290 x294001_3 x294002_3 2).bind fun bt324 => (if bt324.1 = true then (spec_DrawPlayConn.l1 k3 x5_2 x6_5 (wrap64 (x7_2 + t316)) x8_2 x9_2 x11_3 (wrap64 (x11_3 + 1)) t290 bt324.2.1 bt324.2.2) else (spec_DrawPlayConn.l1 k3 x5_2 x6_5 (wrap64 (x7_2 + t316)) x8_2 x9_2 x10_3 (wrap64 (x11_3 + 1)) t290 bt324.2.1 bt324.2.2)))) = some (r1, r2) := H
                    have A23 := Aside0.mk A230
                    clear A230
                    by_cases c24 : t323 = 4
                    · rw [if_pos c24] at H
                      have c24b0 : (t323 == 4) = true := beq_iff_eq.mpr c24
                      have c24b1 : (t323 != 4) = false := bne_eq_false_iff_eq.mpr c24
                      clear c24
                      have H' := Aside0.mk H
                      clear H
                      go_wp2_with (first | ((with_reducible refine gate_callee (f := 45) rfl ?_); refine goesL_ (some 42) rfl rfl Try.func45 (by kernel_rfl) rfl #[.int .i64 x8_2, .int .i64 x11_3] rfl (by (try simp only [List.map_toArray, List.map_cons, List.map_nil]); first | done | rfl | (simp only [List.length_drop, List.length_take]; rfl)) ?_; (with_reducible refine (spec_l08To.calls k3 x8_2 x11_3 t322 _ A21.out).mono ?_); rintro e w25 ⟨rfl, hb⟩; refine ⟨_, rfl, ?_⟩; have n0_ := Aside0.mk (Kd.N_below (by (with_reducible repeat (first | apply Kd.N_alloc | apply Kd.N_drewN | apply Kd.N_drew)); exact HO_5.out) hb); have n1_ := Aside0.mk (IsS98.below (by repeat (first | (with_reducible first | exact HI293.out | apply IsS98.alloc | apply IsS98.drewN | apply IsS98.drew | apply IsS98.set_1 | apply IsS98.set_2) | exact HI293.out)) hb); have n2_ := Aside0.mk (below_step (by repeat (first | (with_reducible first | exact HB.out | apply below_alloc | apply pw_below_drewN | apply below_drew1 | refine below_set ?_ (IsS98.ge HI293.out)) | exact HB.out)) hb); clear HO_5 HI293 HB; have HO_5 := n0_; have HI293 := n1_; have HB := n2_; clear n0_ n1_ n2_; (try clear hb); (try clear hb2); (try clear hk); (try clear hi)) | (go_at_call 45; (with_reducible refine (spec_l08To.calls k3 x8_2 x11_3 t323 _ A23.out).mono ?_); rintro e w26 ⟨rfl, hb⟩; have n0_ := Aside0.mk (Kd.N_below (by (with_reducible repeat (first | apply Kd.N_alloc | apply Kd.N_drewN | apply Kd.N_drew)); exact HO_5.out) hb); have n1_ := Aside0.mk (IsS98.below (by repeat (first | (with_reducible first | exact HI293.out | apply IsS98.alloc | apply IsS98.drewN | apply IsS98.drew | apply IsS98.set_1 | apply IsS98.set_2) | exact HI293.out)) hb); have n2_ := Aside0.mk (below_step (by repeat (first | (with_reducible first | exact HB.out | apply below_alloc | apply pw_below_drewN | apply below_drew1 | refine below_set ?_ (IsS98.ge HI293.out)) | exact HB.out)) hb); clear HO_5 HI293 HB; have HO_5 := n0_; have HI293 := n1_; have HB := n2_; clear n0_ n1_ n2_; (try clear hb); (try clear hb2); (try clear hk); (try clear hi)))
                      go_roundg k3
                      case measure => have := HJ5.out; have := HK2.out; have := HK3.out; omega
                      case rel => exact ⟨(x10_3), (wrap64 (x11_3 + 1)), (x294001_3), (x294002_3), (by first | rfl | (simp; done) | (simp [*]; done)), (by first | rfl | (simp; done) | (simp [*]; done)), H', ⟨by have := HJ5.out; have := HK2.out; have := HK3.out; omega⟩, ⟨by (with_reducible repeat (first | apply Kd.N_alloc | apply Kd.N_drewN | apply Kd.N_drew)); exact HO_5.out⟩, ⟨by repeat (first | (with_reducible first | exact HI293.out | apply IsS98.alloc | apply IsS98.drewN | apply IsS98.drew | apply IsS98.set_1 | apply IsS98.set_2) | exact HI293.out)⟩, ⟨by repeat (first | (with_reducible first | exact HB.out | apply below_alloc | apply pw_below_drewN | apply below_drew1 | refine below_set ?_ (IsS98.ge HI293.out)) | exact HB.out)⟩⟩
                    · rw [if_neg c24] at H
                      have c24b0 : (t323 == 4) = false := beq_eq_false_iff_ne.mpr c24
                      have c24b1 : (t323 != 4) = true := bne_iff_ne.mpr c24
                      replace H := Option.bind_eq_some_iff.mp H
                      obtain ⟨⟨t324, t325, t326⟩, A270, H⟩ := H
                      replace H : (if t324 = true then (spec_DrawPlayConn.l1 k3 x5_2 x6_5 (wrap64 (x7_2 + t316)) x8_2 x9_2 x11_3 (wrap64 (x11_3 + 1)) t290 t325 t326) else (spec_DrawPlayConn.l1 k3 x5_2 x6_5 (wrap64 (x7_2 + t316)) x8_2 x9_2 x10_3 (wrap64 (x11_3 + 1)) t290 t325 t326)) = some (r1, r2) := H
                      have A27 := Aside0.mk A270
                      clear A270
                      by_cases c28 : t324 = true
                      · subst c28
                        have H1 : (spec_DrawPlayConn.l1 k3 x5_2 x6_5 (wrap64 (x7_2 + t316)) x8_2 x9_2 x11_3 (wrap64 (x11_3 + 1)) t290 t325 t326) = some (r1, r2) := by rw [if_pos rfl] at H; exact H
                        clear H
                        have H := H1
                        clear H1
                        have H' := Aside0.mk H
                        clear H
                        go_wp2_with (first | ((with_reducible refine gate_callee (f := 45) rfl ?_); refine goesL_ (some 42) rfl rfl Try.func45 (by kernel_rfl) rfl #[.int .i64 x8_2, .int .i64 x11_3] rfl (by (try simp only [List.map_toArray, List.map_cons, List.map_nil]); first | done | rfl | (simp only [List.length_drop, List.length_take]; rfl)) ?_; (with_reducible refine (spec_l08To.calls k3 x8_2 x11_3 t322 _ A21.out).mono ?_); rintro e w29 ⟨rfl, hb⟩; refine ⟨_, rfl, ?_⟩; have n0_ := Aside0.mk (Kd.N_below (by (with_reducible repeat (first | apply Kd.N_alloc | apply Kd.N_drewN | apply Kd.N_drew)); exact HO_5.out) hb); have n1_ := Aside0.mk (IsS98.below (by repeat (first | (with_reducible first | exact HI293.out | apply IsS98.alloc | apply IsS98.drewN | apply IsS98.drew | apply IsS98.set_1 | apply IsS98.set_2) | exact HI293.out)) hb); have n2_ := Aside0.mk (below_step (by repeat (first | (with_reducible first | exact HB.out | apply below_alloc | apply pw_below_drewN | apply below_drew1 | refine below_set ?_ (IsS98.ge HI293.out)) | exact HB.out)) hb); clear HO_5 HI293 HB; have HO_5 := n0_; have HI293 := n1_; have HB := n2_; clear n0_ n1_ n2_; (try clear hb); (try clear hb2); (try clear hk); (try clear hi)) | (go_at_call 45; (with_reducible refine (spec_l08To.calls k3 x8_2 x11_3 t323 _ A23.out).mono ?_); rintro e w30 ⟨rfl, hb⟩; have n0_ := Aside0.mk (Kd.N_below (by (with_reducible repeat (first | apply Kd.N_alloc | apply Kd.N_drewN | apply Kd.N_drew)); exact HO_5.out) hb); have n1_ := Aside0.mk (IsS98.below (by repeat (first | (with_reducible first | exact HI293.out | apply IsS98.alloc | apply IsS98.drewN | apply IsS98.drew | apply IsS98.set_1 | apply IsS98.set_2) | exact HI293.out)) hb); have n2_ := Aside0.mk (below_step (by repeat (first | (with_reducible first | exact HB.out | apply below_alloc | apply pw_below_drewN | apply below_drew1 | refine below_set ?_ (IsS98.ge HI293.out)) | exact HB.out)) hb); clear HO_5 HI293 HB; have HO_5 := n0_; have HI293 := n1_; have HB := n2_; clear n0_ n1_ n2_; (try clear hb); (try clear hb2); (try clear hk); (try clear hi)) | (go_at_call 72; (with_reducible refine (spec_l01Once.calls g293 t290 x294001_3 x294002_3 2 true t325 t326 w _ ?side1 ?side2 A27.out).mono ?_); (case side1 => repeat (first | (with_reducible first | exact HI293.out | apply IsS98.alloc | apply IsS98.drewN | apply IsS98.drew | apply IsS98.set_1 | apply IsS98.set_2) | exact HI293.out)); (case side2 => repeat (first | (with_reducible first | exact HB.out | apply below_alloc | apply pw_below_drewN | apply below_drew1 | refine below_set ?_ (IsS98.ge HI293.out)) | exact HB.out)); rintro e w31 ⟨rfl, hi, hb, hk⟩; have n0_ := Aside0.mk (Kd.N_mono (Kd.N_keep (Kd.N_mono (ok := fun k_ => (((w.heap.size ≤ k_)) ∧ k_ ≠ g293)) (by (with_reducible repeat (first | apply Kd.N_alloc | apply Kd.N_drewN | apply Kd.N_drew)); exact HO_5.out) (fun k_ hk_ => (⟨hk_, hk_.2⟩ : _ ∧ k_ ≠ g293))) hk (fun _ h => h.2)) (fun _ h => h.1)); have n1_ := Aside0.mk (hb); have n2_ := Aside0.mk (hi); clear HO_5 HB HI293; have HO_5 := n0_; have HB := n1_; have HI293 := n2_; clear n0_ n1_ n2_; (try clear hb); (try clear hb2); (try clear hk); (try clear hi)))
                        go_roundg k3
                        case measure => have := HJ5.out; have := HK2.out; have := HK3.out; omega
                        case rel => exact ⟨(x11_3), (wrap64 (x11_3 + 1)), (t325), (t326), (by first | rfl | (simp; done) | (simp [*]; done)), (by first | rfl | (simp; done) | (simp [*]; done)), H', ⟨by have := HJ5.out; have := HK2.out; have := HK3.out; omega⟩, ⟨by (with_reducible repeat (first | apply Kd.N_alloc | apply Kd.N_drewN | apply Kd.N_drew)); exact HO_5.out⟩, ⟨by repeat (first | (with_reducible first | exact HI293.out | apply IsS98.alloc | apply IsS98.drewN | apply IsS98.drew | apply IsS98.set_1 | apply IsS98.set_2) | exact HI293.out)⟩, ⟨by repeat (first | (with_reducible first | exact HB.out | apply below_alloc | apply pw_below_drewN | apply below_drew1 | refine below_set ?_ (IsS98.ge HI293.out)) | exact HB.out)⟩⟩
                      · replace c28 := Bool.eq_false_iff.mpr c28
                        subst c28
                        have H1 : (spec_DrawPlayConn.l1 k3 x5_2 x6_5 (wrap64 (x7_2 + t316)) x8_2 x9_2 x10_3 (wrap64 (x11_3 + 1)) t290 t325 t326) = some (r1, r2) := by rw [if_neg (show ¬ (false = true) by decide)] at H; exact H
                        clear H
                        have H := H1
                        clear H1
                        have H' := Aside0.mk H
                        clear H
                        go_wp2_with (first | ((with_reducible refine gate_callee (f := 45) rfl ?_); refine goesL_ (some 42) rfl rfl Try.func45 (by kernel_rfl) rfl #[.int .i64 x8_2, .int .i64 x11_3] rfl (by (try simp only [List.map_toArray, List.map_cons, List.map_nil]); first | done | rfl | (simp only [List.length_drop, List.length_take]; rfl)) ?_; (with_reducible refine (spec_l08To.calls k3 x8_2 x11_3 t322 _ A21.out).mono ?_); rintro e w32 ⟨rfl, hb⟩; refine ⟨_, rfl, ?_⟩; have n0_ := Aside0.mk (Kd.N_below (by (with_reducible repeat (first | apply Kd.N_alloc | apply Kd.N_drewN | apply Kd.N_drew)); exact HO_5.out) hb); have n1_ := Aside0.mk (IsS98.below (by repeat (first | (with_reducible first | exact HI293.out | apply IsS98.alloc | apply IsS98.drewN | apply IsS98.drew | apply IsS98.set_1 | apply IsS98.set_2) | exact HI293.out)) hb); have n2_ := Aside0.mk (below_step (by repeat (first | (with_reducible first | exact HB.out | apply below_alloc | apply pw_below_drewN | apply below_drew1 | refine below_set ?_ (IsS98.ge HI293.out)) | exact HB.out)) hb); clear HO_5 HI293 HB; have HO_5 := n0_; have HI293 := n1_; have HB := n2_; clear n0_ n1_ n2_; (try clear hb); (try clear hb2); (try clear hk); (try clear hi)) | (go_at_call 45; (with_reducible refine (spec_l08To.calls k3 x8_2 x11_3 t323 _ A23.out).mono ?_); rintro e w33 ⟨rfl, hb⟩; have n0_ := Aside0.mk (Kd.N_below (by (with_reducible repeat (first | apply Kd.N_alloc | apply Kd.N_drewN | apply Kd.N_drew)); exact HO_5.out) hb); have n1_ := Aside0.mk (IsS98.below (by repeat (first | (with_reducible first | exact HI293.out | apply IsS98.alloc | apply IsS98.drewN | apply IsS98.drew | apply IsS98.set_1 | apply IsS98.set_2) | exact HI293.out)) hb); have n2_ := Aside0.mk (below_step (by repeat (first | (with_reducible first | exact HB.out | apply below_alloc | apply pw_below_drewN | apply below_drew1 | refine below_set ?_ (IsS98.ge HI293.out)) | exact HB.out)) hb); clear HO_5 HI293 HB; have HO_5 := n0_; have HI293 := n1_; have HB := n2_; clear n0_ n1_ n2_; (try clear hb); (try clear hb2); (try clear hk); (try clear hi)) | (go_at_call 72; (with_reducible refine (spec_l01Once.calls g293 t290 x294001_3 x294002_3 2 false t325 t326 w _ ?side1 ?side2 A27.out).mono ?_); (case side1 => repeat (first | (with_reducible first | exact HI293.out | apply IsS98.alloc | apply IsS98.drewN | apply IsS98.drew | apply IsS98.set_1 | apply IsS98.set_2) | exact HI293.out)); (case side2 => repeat (first | (with_reducible first | exact HB.out | apply below_alloc | apply pw_below_drewN | apply below_drew1 | refine below_set ?_ (IsS98.ge HI293.out)) | exact HB.out)); rintro e w34 ⟨rfl, hi, hb, hk⟩; have n0_ := Aside0.mk (Kd.N_mono (Kd.N_keep (Kd.N_mono (ok := fun k_ => (((w.heap.size ≤ k_)) ∧ k_ ≠ g293)) (by (with_reducible repeat (first | apply Kd.N_alloc | apply Kd.N_drewN | apply Kd.N_drew)); exact HO_5.out) (fun k_ hk_ => (⟨hk_, hk_.2⟩ : _ ∧ k_ ≠ g293))) hk (fun _ h => h.2)) (fun _ h => h.1)); have n1_ := Aside0.mk (hb); have n2_ := Aside0.mk (hi); clear HO_5 HB HI293; have HO_5 := n0_; have HB := n1_; have HI293 := n2_; clear n0_ n1_ n2_; (try clear hb); (try clear hb2); (try clear hk); (try clear hi)))
                        go_roundg k3
                        case measure => have := HJ5.out; have := HK2.out; have := HK3.out; omega
                        case rel => exact ⟨(x10_3), (wrap64 (x11_3 + 1)), (t325), (t326), (by first | rfl | (simp; done) | (simp [*]; done)), (by first | rfl | (simp; done) | (simp [*]; done)), H', ⟨by have := HJ5.out; have := HK2.out; have := HK3.out; omega⟩, ⟨by (with_reducible repeat (first | apply Kd.N_alloc | apply Kd.N_drewN | apply Kd.N_drew)); exact HO_5.out⟩, ⟨by repeat (first | (with_reducible first | exact HI293.out | apply IsS98.alloc | apply IsS98.drewN | apply IsS98.drew | apply IsS98.set_1 | apply IsS98.set_2) | exact HI293.out)⟩, ⟨by repeat (first | (with_reducible first | exact HB.out | apply below_alloc | apply pw_below_drewN | apply below_drew1 | refine below_set ?_ (IsS98.ge HI293.out)) | exact HB.out)⟩⟩
                  · rw [if_neg c22] at H
                    have c22b0 : decide (0 ≤ t322) = false := decide_eq_false c22
                    clear c22
                    have H' := Aside0.mk H
                    clear H
                    go_wp2_with (first | ((with_reducible refine gate_callee (f := 45) rfl ?_); refine goesL_ (some 42) rfl rfl Try.func45 (by kernel_rfl) rfl #[.int .i64 x8_2, .int .i64 x11_3] rfl (by (try simp only [List.map_toArray, List.map_cons, List.map_nil]); first | done | rfl | (simp only [List.length_drop, List.length_take]; rfl)) ?_; (with_reducible refine (spec_l08To.calls k3 x8_2 x11_3 t322 _ A21.out).mono ?_); rintro e w35 ⟨rfl, hb⟩; refine ⟨_, rfl, ?_⟩; have n0_ := Aside0.mk (Kd.N_below (by (with_reducible repeat (first | apply Kd.N_alloc | apply Kd.N_drewN | apply Kd.N_drew)); exact HO_5.out) hb); have n1_ := Aside0.mk (IsS98.below (by repeat (first | (with_reducible first | exact HI293.out | apply IsS98.alloc | apply IsS98.drewN | apply IsS98.drew | apply IsS98.set_1 | apply IsS98.set_2) | exact HI293.out)) hb); have n2_ := Aside0.mk (below_step (by repeat (first | (with_reducible first | exact HB.out | apply below_alloc | apply pw_below_drewN | apply below_drew1 | refine below_set ?_ (IsS98.ge HI293.out)) | exact HB.out)) hb); clear HO_5 HI293 HB; have HO_5 := n0_; have HI293 := n1_; have HB := n2_; clear n0_ n1_ n2_; (try clear hb); (try clear hb2); (try clear hk); (try clear hi)))
                    go_roundg k3
                    case measure => have := HJ5.out; have := HK2.out; have := HK3.out; omega
                    case rel => exact ⟨(x10_3), (wrap64 (x11_3 + 1)), (x294001_3), (x294002_3), (by first | rfl | (simp; done) | (simp [*]; done)), (by first | rfl | (simp; done) | (simp [*]; done)), H', ⟨by have := HJ5.out; have := HK2.out; have := HK3.out; omega⟩, ⟨by (with_reducible repeat (first | apply Kd.N_alloc | apply Kd.N_drewN | apply Kd.N_drew)); exact HO_5.out⟩, ⟨by repeat (first | (with_reducible first | exact HI293.out | apply IsS98.alloc | apply IsS98.drewN | apply IsS98.drew | apply IsS98.set_1 | apply IsS98.set_2) | exact HI293.out)⟩, ⟨by repeat (first | (with_reducible first | exact HB.out | apply below_alloc | apply pw_below_drewN | apply below_drew1 | refine below_set ?_ (IsS98.ge HI293.out)) | exact HB.out)⟩⟩
                · rw [if_neg c20] at H
                  have c20b0 : decide (x11_3 < 7) = false := decide_eq_false c20
                  clear c20
                  replace H := Option.bind_eq_some_iff.mp H
                  obtain ⟨t327, A360, H⟩ := H
                  replace H : (if t327 ≥ 0 then ((spec_l08To.f k3 x8_2 x10_3).bind fun t328 => (spec_DrawPlayConn.j3 k3 x5_2 x6_5 (wrap64 (x7_2 + t316)) t328 x9_2 x10_3 t290 x294001_3 x294002_3)) else (spec_DrawPlayConn.j3 k3 x5_2 x6_5 (wrap64 (x7_2 + t316)) x8_2 x9_2 x10_3 t290 x294001_3 x294002_3)) = some (r1, r2) := H
                  have A36 := Aside0.mk A360
                  clear A360
                  have HC37 := Aside0.mk H
                  clear H
                  go_upto_if 58 with (first | ((with_reducible refine gate_callee (f := 45) rfl ?_); refine goesL_ (some 57) rfl rfl Try.func45 (by kernel_rfl) rfl #[.int .i64 x8_2, .int .i64 x10_3] rfl (by (try simp only [List.map_toArray, List.map_cons, List.map_nil]); first | done | rfl | (simp only [List.length_drop, List.length_take]; rfl)) ?_; (with_reducible refine (spec_l08To.calls k3 x8_2 x10_3 t327 _ A36.out).mono ?_); rintro e w38 ⟨rfl, hb⟩; refine ⟨_, rfl, ?_⟩; have n0_ := Aside0.mk (Kd.N_below (by (with_reducible repeat (first | apply Kd.N_alloc | apply Kd.N_drewN | apply Kd.N_drew)); exact HO_5.out) hb); have n1_ := Aside0.mk (IsS98.below (by repeat (first | (with_reducible first | exact HI293.out | apply IsS98.alloc | apply IsS98.drewN | apply IsS98.drew | apply IsS98.set_1 | apply IsS98.set_2) | exact HI293.out)) hb); have n2_ := Aside0.mk (below_step (by repeat (first | (with_reducible first | exact HB.out | apply below_alloc | apply pw_below_drewN | apply below_drew1 | refine below_set ?_ (IsS98.ge HI293.out)) | exact HB.out)) hb); clear HO_5 HI293 HB; have HO_5 := n0_; have HI293 := n1_; have HB := n2_; clear n0_ n1_ n2_; (try clear hb); (try clear hb2); (try clear hk); (try clear hi)))
                  (try simp only [Act.put, List.setIfInBounds_toArray, List.set_cons_zero, List.set_cons_succ])
                  go_cut [8] (fun zv8 wc => ∃ (kq : Nat) (x8_36 : Int), zv8 = .int .i64 x8_36 ∧ Aside0 (spec_DrawPlayConn.j3 kq x5_2 x6_5 (wrap64 (x7_2 + t316)) x8_36 x9_2 x10_3 t290 x294001_3 x294002_3 = some (r1, r2)) ∧ Aside0 (kq ≤ k3) ∧ Aside0 (Kd.N (Kd.slice 3 (Kd.int .i64)) 58 wc w.heap.size (fun k_ => (w.heap.size ≤ k_) ∧ k_ ≠ g293) u5 x5_2) ∧ Aside0 (IsS98 w wc g293 t290 x294001_3 x294002_3) ∧ Aside0 (Below w.heap.size w wc))
                  case first =>
                    have H := HC37.out
                    clear HC37
                    by_cases c39 : t327 ≥ 0
                    · rw [if_pos c39] at H
                      have c39b0 : decide (0 ≤ t327) = true := decide_eq_true c39
                      clear c39
                      (first | rw [c39b0] | (simp only [i64_w, i32_w]; rw [c39b0]) | skip)
                      replace H := Option.bind_eq_some_iff.mp H
                      obtain ⟨t328, A400, H⟩ := H
                      replace H : (spec_DrawPlayConn.j3 k3 x5_2 x6_5 (wrap64 (x7_2 + t316)) t328 x9_2 x10_3 t290 x294001_3 x294002_3) = some (r1, r2) := H
                      have A40 := Aside0.mk A400
                      clear A400
                      have H' := Aside0.mk H
                      clear H
                      go_wp2_with (first | ((with_reducible refine gate_callee (f := 45) rfl ?_); refine goesL_ (some 61) rfl rfl Try.func45 (by kernel_rfl) rfl #[.int .i64 x8_2, .int .i64 x10_3] rfl (by (try simp only [List.map_toArray, List.map_cons, List.map_nil]); first | done | rfl | (simp only [List.length_drop, List.length_take]; rfl)) ?_; (with_reducible refine (spec_l08To.calls k3 x8_2 x10_3 t328 _ A40.out).mono ?_); rintro e w41 ⟨rfl, hb⟩; refine ⟨_, rfl, ?_⟩; have n0_ := Aside0.mk (Kd.N_below (by (with_reducible repeat (first | apply Kd.N_alloc | apply Kd.N_drewN | apply Kd.N_drew)); exact HO_5.out) hb); have n1_ := Aside0.mk (IsS98.below (by repeat (first | (with_reducible first | exact HI293.out | apply IsS98.alloc | apply IsS98.drewN | apply IsS98.drew | apply IsS98.set_1 | apply IsS98.set_2) | exact HI293.out)) hb); have n2_ := Aside0.mk (below_step (by repeat (first | (with_reducible first | exact HB.out | apply below_alloc | apply pw_below_drewN | apply below_drew1 | refine below_set ?_ (IsS98.ge HI293.out)) | exact HB.out)) hb); clear HO_5 HI293 HB; have HO_5 := n0_; have HI293 := n1_; have HB := n2_; clear n0_ n1_ n2_; (try clear hb); (try clear hb2); (try clear hk); (try clear hi)))
                      go_meet
                      case rel => exact ⟨_, (t328), (by first | rfl | (simp; done) | (simp [*]; done)), H', ⟨by have := HJ5.out; have := HK2.out; have := HK3.out; first | omega | exact Nat.le_refl _⟩, ⟨by (with_reducible repeat (first | apply Kd.N_alloc | apply Kd.N_drewN | apply Kd.N_drew)); exact HO_5.out⟩, ⟨by repeat (first | (with_reducible first | exact HI293.out | apply IsS98.alloc | apply IsS98.drewN | apply IsS98.drew | apply IsS98.set_1 | apply IsS98.set_2) | exact HI293.out)⟩, ⟨by repeat (first | (with_reducible first | exact HB.out | apply below_alloc | apply pw_below_drewN | apply below_drew1 | refine below_set ?_ (IsS98.ge HI293.out)) | exact HB.out)⟩⟩
                    · rw [if_neg c39] at H
                      have c39b0 : decide (0 ≤ t327) = false := decide_eq_false c39
                      clear c39
                      (first | rw [c39b0] | (simp only [i64_w, i32_w]; rw [c39b0]) | skip)
                      have H' := Aside0.mk H
                      clear H
                      go_wp2
                      go_meet
                      case rel => exact ⟨_, (x8_2), (by first | rfl | (simp; done) | (simp [*]; done)), H', ⟨by have := HJ5.out; have := HK2.out; have := HK3.out; first | omega | exact Nat.le_refl _⟩, ⟨by (with_reducible repeat (first | apply Kd.N_alloc | apply Kd.N_drewN | apply Kd.N_drew)); exact HO_5.out⟩, ⟨by repeat (first | (with_reducible first | exact HI293.out | apply IsS98.alloc | apply IsS98.drewN | apply IsS98.drew | apply IsS98.set_1 | apply IsS98.set_2) | exact HI293.out)⟩, ⟨by repeat (first | (with_reducible first | exact HB.out | apply below_alloc | apply pw_below_drewN | apply below_drew1 | refine below_set ?_ (IsS98.ge HI293.out)) | exact HB.out)⟩⟩
                  case rest =>
                    clear HC37
                    try clear c1
                    try clear c2
                    try clear p2
                    try clear c3
                    try clear c4
                    try clear c6
                    try clear p6
                    try clear c7
                    try clear c12
                    try clear c15
                    try clear c15b0
                    try clear c20
                    try clear c20b0
                    try clear c22
                    try clear c22b0
                    try clear c24
                    try clear c24b0
                    try clear c24b1
                    try clear c28
                    try clear c39
                    try clear c39b0
                    try clear c40
                    try clear p2
                    try clear p6
                    obtain ⟨kq, x8_36, rfl, HA, HJ36, HO_5, HI293, HB⟩ := hcut
                    cases kq with
                    | zero => exact absurd HA.out (by simp [spec_DrawPlayConn.j3])
                    | succ kj36 =>
                      have H := HA.out
                      clear HA
                      simp only [spec_DrawPlayConn.j3] at H
                      replace H := Option.bind_eq_some_iff.mp H
                      obtain ⟨⟨t329, t330, t331⟩, A420, H⟩ := H
                      replace H : (if x5_2.length < 5864062014805 then ((some (x5_2 ++ [(([x10_3, (wrap64 (x7_2 + t316)), wrap64 (1 + t329)] : List Int))] : List (List Int))).bind fun y335 => ((spec_l01Once.f t290 t330 t331 40).bind fun bt338 => (if bt338.1 = true then (if 0 ≤ x9_2 then (if x9_2 < (y335.length : Int) then (if 2 ≤ ((rd_L1 y335 x9_2).length : Int) then (spec_DrawPlayConn.l0 kj36 (y335.set (x9_2 : Int).toNat ((rd_L1 y335 x9_2).take 2)) x6_5 (wrap64 (x7_2 + t316)) x8_36 (wrap64 (x9_2 + 1)) t290 bt338.2.1 bt338.2.2) else (none)) else (none)) else (none)) else (spec_DrawPlayConn.l0 kj36 y335 x6_5 (wrap64 (x7_2 + t316)) x8_36 (wrap64 (x9_2 + 1)) t290 bt338.2.1 bt338.2.2)))) else (none)) = some (r1, r2) := H
                      have A42 := Aside0.mk A420
                      clear A420
                      obtain ⟨y332, hy332⟩ : ∃ y_ : List Int, y_ = (([x10_3, (wrap64 (x7_2 + t316)), wrap64 (1 + t329)] : List Int)) := ⟨_, rfl⟩
                      replace H : (if x5_2.length < 5864062014805 then ((some (x5_2 ++ [y332] : List (List Int))).bind fun y335 => ((spec_l01Once.f t290 t330 t331 40).bind fun bt338 => (if bt338.1 = true then (if 0 ≤ x9_2 then (if x9_2 < (y335.length : Int) then (if 2 ≤ ((rd_L1 y335 x9_2).length : Int) then (spec_DrawPlayConn.l0 kj36 (y335.set (x9_2 : Int).toNat ((rd_L1 y335 x9_2).take 2)) x6_5 (wrap64 (x7_2 + t316)) x8_36 (wrap64 (x9_2 + 1)) t290 bt338.2.1 bt338.2.2) else (none)) else (none)) else (none)) else (spec_DrawPlayConn.l0 kj36 y335 x6_5 (wrap64 (x7_2 + t316)) x8_36 (wrap64 (x9_2 + 1)) t290 bt338.2.1 bt338.2.2)))) else (none)) = some (r1, r2) := by first | (rw [hy332]; with_reducible exact H) | (have H2_ := (Option.bind_some _ _).symm.trans H; rw [hy332]; with_reducible exact H2_) | (have H2_ := (Option.bind_some _ _).symm.trans H; with_reducible exact H2_) | with_reducible exact H | (rw [hy332]; exact H) | exact H
                      have Ny332 := Aside0.mk hy332
                      clear hy332
                      by_cases c43 : x5_2.length < 5864062014805
                      · rw [if_pos c43] at H
                        have LMc43 := Aside0.mk c43
                        clear c43
                        obtain ⟨y335, hy335⟩ : ∃ y_ : List (List Int), y_ = (x5_2 ++ [y332]) := ⟨_, rfl⟩
                        replace H : ((spec_l01Once.f t290 t330 t331 40).bind fun bt338 => (if bt338.1 = true then (if 0 ≤ x9_2 then (if x9_2 < (y335.length : Int) then (if 2 ≤ ((rd_L1 y335 x9_2).length : Int) then (spec_DrawPlayConn.l0 kj36 (y335.set (x9_2 : Int).toNat ((rd_L1 y335 x9_2).take 2)) x6_5 (wrap64 (x7_2 + t316)) x8_36 (wrap64 (x9_2 + 1)) t290 bt338.2.1 bt338.2.2) else (none)) else (none)) else (none)) else (spec_DrawPlayConn.l0 kj36 y335 x6_5 (wrap64 (x7_2 + t316)) x8_36 (wrap64 (x9_2 + 1)) t290 bt338.2.1 bt338.2.2))) = some (r1, r2) := by first | (rw [hy335]; with_reducible exact H) | (have H2_ := (Option.bind_some _ _).symm.trans H; rw [hy335]; with_reducible exact H2_) | (have H2_ := (Option.bind_some _ _).symm.trans H; with_reducible exact H2_) | with_reducible exact H | (rw [hy335]; exact H) | exact H
                        have Ny335 := Aside0.mk hy335
                        clear hy335
                        replace H := Option.bind_eq_some_iff.mp H
                        obtain ⟨⟨t338, t339, t340⟩, A440, H⟩ := H
                        replace H : (if t338 = true then (if 0 ≤ x9_2 then (if x9_2 < (y335.length : Int) then (if 2 ≤ ((rd_L1 y335 x9_2).length : Int) then (spec_DrawPlayConn.l0 kj36 (y335.set (x9_2 : Int).toNat ((rd_L1 y335 x9_2).take 2)) x6_5 (wrap64 (x7_2 + t316)) x8_36 (wrap64 (x9_2 + 1)) t290 t339 t340) else (none)) else (none)) else (none)) else (spec_DrawPlayConn.l0 kj36 y335 x6_5 (wrap64 (x7_2 + t316)) x8_36 (wrap64 (x9_2 + 1)) t290 t339 t340)) = some (r1, r2) := H
                        have A44 := Aside0.mk A440
                        clear A440
                        by_cases c45 : t338 = true
                        · subst c45
                          have H1 : (if 0 ≤ x9_2 then (if x9_2 < (y335.length : Int) then (if 2 ≤ ((rd_L1 y335 x9_2).length : Int) then (spec_DrawPlayConn.l0 kj36 (y335.set (x9_2 : Int).toNat ((rd_L1 y335 x9_2).take 2)) x6_5 (wrap64 (x7_2 + t316)) x8_36 (wrap64 (x9_2 + 1)) t290 t339 t340) else (none)) else (none)) else (none)) = some (r1, r2) := by rw [if_pos rfl] at H; exact H
                          clear H
                          have H := H1
                          clear H1
                          by_cases c46 : 0 ≤ x9_2
                          · rw [if_pos c46] at H
                            have c46b0 : decide (0 ≤ x9_2) = true := decide_eq_true c46
                            clear c46
                            by_cases c47 : x9_2 < (y335.length : Int)
                            · rw [if_pos c47] at H
                              have c47b0 : decide (x9_2 < (y335.length : Int)) = true := decide_eq_true c47
                              clear c47
                              by_cases c48 : 2 ≤ ((rd_L1 y335 x9_2).length : Int)
                              · rw [if_pos c48] at H
                                have c48b0 := eq_true c48
                                have c48b1 : decide (2 ≤ ((rd_L1 y335 x9_2).length : Int)) = true := decide_eq_true c48
                                clear c48
                                obtain ⟨y342, hy342⟩ : ∃ y_ : List Int, y_ = ((rd_L1 y335 x9_2).take 2) := ⟨_, rfl⟩
                                replace H : (spec_DrawPlayConn.l0 kj36 (y335.set (x9_2 : Int).toNat y342) x6_5 (wrap64 (x7_2 + t316)) x8_36 (wrap64 (x9_2 + 1)) t290 t339 t340) = some (r1, r2) := by first | (rw [hy342]; with_reducible exact H) | (have H2_ := (Option.bind_some _ _).symm.trans H; rw [hy342]; with_reducible exact H2_) | (have H2_ := (Option.bind_some _ _).symm.trans H; with_reducible exact H2_) | with_reducible exact H | (rw [hy342]; exact H) | exact H
                                have Ny342 := Aside0.mk hy342
                                clear hy342
                                obtain ⟨y347, hy347⟩ : ∃ y_ : List (List Int), y_ = (y335.set (x9_2 : Int).toNat y342) := ⟨_, rfl⟩
                                replace H : (spec_DrawPlayConn.l0 kj36 y347 x6_5 (wrap64 (x7_2 + t316)) x8_36 (wrap64 (x9_2 + 1)) t290 t339 t340) = some (r1, r2) := by first | (rw [hy347]; with_reducible exact H) | (have H2_ := (Option.bind_some _ _).symm.trans H; rw [hy347]; with_reducible exact H2_) | (have H2_ := (Option.bind_some _ _).symm.trans H; with_reducible exact H2_) | with_reducible exact H | (rw [hy347]; exact H) | exact H
                                have Ny347 := Aside0.mk hy347
                                clear hy347
                                have H' := Aside0.mk H
                                clear H
                                go_wp2_with (first | ((with_reducible refine gate_callee (f := 70) rfl ?_); refine goesL_ (some 66) rfl rfl Try.func70 (by kernel_rfl) rfl #[.pointer (some ⟨g293, 0, none⟩), .int .i64 20] rfl (by (try simp only [List.map_toArray, List.map_cons, List.map_nil]); first | done | rfl | (simp only [List.length_drop, List.length_take]; rfl)) ?_; (with_reducible refine (spec_l01Below.calls g293 t290 x294001_3 x294002_3 20 t329 t330 t331 w _ ?side1 ?side2 A42.out).mono ?_); (case side1 => repeat (first | (with_reducible first | exact HI293.out | apply IsS98.alloc | apply IsS98.drewN | apply IsS98.drew | apply IsS98.set_1 | apply IsS98.set_2) | exact HI293.out)); (case side2 => repeat (first | (with_reducible first | exact HB.out | apply below_alloc | apply pw_below_drewN | apply below_drew1 | refine below_set ?_ (IsS98.ge HI293.out)) | exact HB.out)); rintro e w50 ⟨rfl, hi, hb, hk⟩; refine ⟨_, rfl, ?_⟩; have n0_ := Aside0.mk (Kd.N_mono (Kd.N_keep (Kd.N_mono (ok := fun k_ => (((w.heap.size ≤ k_)) ∧ k_ ≠ g293)) (by (with_reducible repeat (first | apply Kd.N_alloc | apply Kd.N_drewN | apply Kd.N_drew)); exact HO_5.out) (fun k_ hk_ => (⟨hk_, hk_.2⟩ : _ ∧ k_ ≠ g293))) hk (fun _ h => h.2)) (fun _ h => h.1)); have n1_ := Aside0.mk (hb); have n2_ := Aside0.mk (hi); clear HO_5 HB HI293; have HO_5 := n0_; have HB := n1_; have HI293 := n2_; clear n0_ n1_ n2_; (try clear hb); (try clear hb2); (try clear hk); (try clear hi)) | ((with_reducible refine gate_dst (N := 68) rfl ?_); refine Kd.R_lit (Kd.int .i64) _ 3 ?hg (N := 68) ?hd (xs := ([x10_3, (wrap64 (x7_2 + t316)), wrap64 (1 + t329)] : List Int)) (inner := [.int .i64 x10_3, .int .i64 (wrap64 (x7_2 + t316)), .int .i64 (wrap64 (1 + t329))]) (ok := fun _ => True) (okp := fun _ => True) ?hr ?hp (fun _ hk => hk) trivial (Below.refl _ _) (Nat.le_refl _) (by simp) ?_; (case hd => rfl); (case hg => rfl); (case hr => first | (go_simp; done) | (go_simp; rfl)); (case hp => exact (Reps.one (show Kd.M (Kd.int .i64) _ _ _ x10_3 [.int .i64 x10_3] from rfl) (Reps.one (show Kd.M (Kd.int .i64) _ _ _ (wrap64 (x7_2 + t316)) [.int .i64 (wrap64 (x7_2 + t316))] from rfl) (Reps.one (show Kd.M (Kd.int .i64) _ _ _ (wrap64 (1 + t329)) [.int .i64 (wrap64 (1 + t329))] from rfl) (Reps.none _ _))))); intro v333 w51 ho52 hb hg_ hnew_; clear hg_ hnew_; (first | rw [← Ny332.out] at ho52 | (simp only [Int.reduceToNat] at ho52; rw [← Ny332.out] at ho52)); have n0_ := Aside0.mk (Kd.N_elder' (by (with_reducible repeat (first | apply Kd.N_alloc | apply Kd.N_drewN | apply Kd.N_drew)); exact HO_5.out) (Kd.R_base ho52) hb); have n1_ := Aside0.mk (Kd.R_lower (Kd.R_newM (M := fun k_ => (w.heap.size ≤ k_)) ho52 (below_size (by repeat (first | (with_reducible first | exact HB.out | apply below_alloc | apply pw_below_drewN | apply below_drew1 | refine below_set ?_ (IsS98.ge HI293.out)) | exact HB.out))) (fun k_ h_ => h_)) (below_size (by repeat (first | (with_reducible first | exact HB.out | apply below_alloc | apply pw_below_drewN | apply below_drew1 | refine below_set ?_ (IsS98.ge HI293.out)) | exact HB.out)))); have n2_ := Aside0.mk (IsS98.below (by repeat (first | (with_reducible first | exact HI293.out | apply IsS98.alloc | apply IsS98.drewN | apply IsS98.drew | apply IsS98.set_1 | apply IsS98.set_2) | exact HI293.out)) hb); have n3_ := Aside0.mk (below_step (by repeat (first | (with_reducible first | exact HB.out | apply below_alloc | apply pw_below_drewN | apply below_drew1 | refine below_set ?_ (IsS98.ge HI293.out)) | exact HB.out)) hb); clear HO_5 HI293 HB; have HO_5 := n0_; have HO334 := n1_; have HI293 := n2_; have HB := n3_; clear n0_ n1_ n2_ n3_; clear hb ho52; obtain ⟨Ao54, co54, eo54⟩ := Kd.R_slice HO334.out; subst eo54) | ((with_reducible refine gate_builtin (b := .append) (xs := #[.tmp 62, .tmp 69]) rfl ?_); at_builtin; refine Kd.N_append (Kd.slice 3 (Kd.int .i64)) (w0 := w) w.heap.size rfl (.tmp 62) (.tmp 69) 56 58 (.slice none 0 0) 24 rfl Try.underlying56 info58 rfl (by decide) (by omega) u5 x5_2 y332 [.slice Ao54 y332.length co54] (fun k_ => (w.heap.size ≤ k_) ∧ k_ ≠ g293) (fun k_ => ((fun k_ => (w.heap.size ≤ k_) ∧ k_ ≠ g293)) k_ ∧ some k_ ≠ (u5 : Value).ownBlock) rfl rfl ?aP (fun _ hk => hk) ?aF ?aO ?aB ?aS ?aL ?_; (case aP => exact (Kd.FK_slice_mk (Kd.R_reads' (Kd.R_mono (ok' := (fun k_ => ((fun k_ => (w.heap.size ≤ k_) ∧ k_ ≠ g293)) k_ ∧ some k_ ≠ (u5 : Value).ownBlock)) (IsS98.apart HI293.out (Kd.R_apart' (HO334.out) (Kd.N_typed HO_5.out) (by decide)) (by decide)) (fun k_ hk => ⟨⟨hk.1.1.1, hk.2⟩, hk.1.2⟩))).2.1 (Kd.R_F (Kd.R_mono (ok' := (fun k_ => ((fun k_ => (w.heap.size ≤ k_) ∧ k_ ≠ g293)) k_ ∧ some k_ ≠ (u5 : Value).ownBlock)) (IsS98.apart HI293.out (Kd.R_apart' (HO334.out) (Kd.N_typed HO_5.out) (by decide)) (by decide)) (fun k_ hk => ⟨⟨hk.1.1.1, hk.2⟩, hk.1.2⟩))))); (case aB => exact (by repeat (first | (with_reducible first | exact HB.out | apply below_alloc | apply pw_below_drewN | apply below_drew1 | refine below_set ?_ (IsS98.ge HI293.out)) | exact HB.out))); (case aF => exact (fun k_ hk => ⟨(Nat.le_trans (below_size (by repeat (first | (with_reducible first | exact HB.out | apply below_alloc | apply pw_below_drewN | apply below_drew1 | refine below_set ?_ (IsS98.ge HI293.out)) | exact HB.out))) hk), IsS98.fresh (by repeat (first | (with_reducible first | exact HI293.out | apply IsS98.alloc | apply IsS98.drewN | apply IsS98.drew | apply IsS98.set_1 | apply IsS98.set_2) | exact HI293.out)) k_ hk⟩)); (case aO => exact (by (with_reducible repeat (first | apply Kd.N_alloc | apply Kd.N_drewN | apply Kd.N_drew)); exact Kd.N_mono HO_5.out (fun _ hk => ⟨hk.1.1, hk.1.2⟩))); (case aS => exact (below_size (by repeat (first | (with_reducible first | exact HB.out | apply below_alloc | apply pw_below_drewN | apply below_drew1 | refine below_set ?_ (IsS98.ge HI293.out)) | exact HB.out)))); (case aL => have := LMc43.out; omega); intro v336 w53 ho hb hg hat; rw [← Ny335.out] at ho; have n0_ := Aside0.mk (IsS98.grown (by repeat (first | (with_reducible first | exact HI293.out | apply IsS98.alloc | apply IsS98.drewN | apply IsS98.drew | apply IsS98.set_1 | apply IsS98.set_2) | exact HI293.out)) hg (IsS98.own_neN HI293.out HO_5.out (by decide))); have n1_ := Aside0.mk (hb); have n2_ := Aside0.mk (ho); clear HI293 HB HO_5 HO334; have HI293 := n0_; have HB := n1_; have HO337 := n2_; clear n0_ n1_ n2_; clear ho hb hg hat) | ((with_reducible refine gate_callee (f := 72) rfl ?_); refine goesL_ (some 72) rfl rfl Try.func72 (by kernel_rfl) rfl #[.pointer (some ⟨g293, 0, none⟩), .int .i64 40] rfl (by (try simp only [List.map_toArray, List.map_cons, List.map_nil]); first | done | rfl | (simp only [List.length_drop, List.length_take]; rfl)) ?_; (with_reducible refine (spec_l01Once.calls g293 t290 t330 t331 40 true t339 t340 w _ ?side1 ?side2 A44.out).mono ?_); (case side1 => repeat (first | (with_reducible first | exact HI293.out | apply IsS98.alloc | apply IsS98.drewN | apply IsS98.drew | apply IsS98.set_1 | apply IsS98.set_2) | exact HI293.out)); (case side2 => repeat (first | (with_reducible first | exact HB.out | apply below_alloc | apply pw_below_drewN | apply below_drew1 | refine below_set ?_ (IsS98.ge HI293.out)) | exact HB.out)); rintro e w55 ⟨rfl, hi, hb, hk⟩; refine ⟨_, rfl, ?_⟩; have n0_ := Aside0.mk (Kd.N_mono (Kd.N_keep (Kd.N_mono (ok := fun k_ => (((w.heap.size ≤ k_)) ∧ k_ ≠ g293)) (by (with_reducible repeat (first | apply Kd.N_alloc | apply Kd.N_drewN | apply Kd.N_drew)); exact HO337.out) (fun k_ hk_ => (⟨hk_, hk_.2⟩ : _ ∧ k_ ≠ g293))) hk (fun _ h => h.2)) (fun _ h => h.1)); have n1_ := Aside0.mk (hb); have n2_ := Aside0.mk (hi); clear HO337 HB HI293; have HO337 := n0_; have HB := n1_; have HI293 := n2_; clear n0_ n1_ n2_; (try clear hb); (try clear hb2); (try clear hk); (try clear hi); obtain ⟨Ao56, co56, eo56⟩ := Kd.N_slice HO337.out; subst eo56; have p341 : 0 ≤ (x9_2 : Int) := of_decide_eq_true (by first | (with_reducible assumption) | assumption); have q341 : x9_2 < (y335.length : Int) := of_decide_eq_true (by first | (with_reducible assumption) | assumption); obtain ⟨ad341, A341_0, c341_0, e341, hx341_0, hl341_0, hi341_0⟩ := at_L1 (Kd.N_reads' HO337.out).2.2 x9_2 p341 q341; cases e341; obtain ⟨ce341, hce341, hMe341, hcc341⟩ := Kd.N_get HO337.out [] x9_2 p341 (by first | exact q341 | exact of_decide_eq_true (by first | (with_reducible assumption) | assumption) | (have e_ := (Kd.N_reads' HO337.out).1; omega)); obtain ⟨ua341_0, uc341_0, rfl, ul341_0, ge341_0⟩ := Kd.FK_slice_open hMe341; have hv341_0 := hcc341 0 _ rfl; rw [Nat.add_zero, show ((Kd.slice 3 (Kd.int .i64))).sz = 1 from rfl, Nat.mul_one] at hv341_0; replace hv341_0 := Option.some.inj (hv341_0.symm.trans hx341_0); injection hv341_0 with hva_ hvn_ hvc_; rw [hva_] at ge341_0; rw [hvc_] at ul341_0; have HL341_0 := Aside0.mk (show Kd.V (Kd.int .i64) 3 _ w.heap.size _ _ (rd_L1 y335 x9_2) from Kd.V_mk ul341_0 ge341_0); clear hva_ hvn_ hvc_ ge341_0 ul341_0; clear hcc341 hce341; have HR341_0 := Aside0.mk hi341_0; have HC341_0 := Aside0.mk hl341_0; clear hi341_0 hl341_0; replace p341 := eq_true p341; replace q341 := eq_true q341; have q57 : (2 : Int) ≤ (((rd_L1 y335 x9_2).length : Int) : Int) := of_decide_eq_true (by first | (with_reducible assumption) | assumption); obtain ⟨i057, hi057, _, hsz57, _⟩ := info_parts info3; have hroom57 : (rd_L1 y335 x9_2).length ≤ c341_0 := HC341_0.out; have hC57 : Kd.F (Kd.int .i64) _ _ A341_0 (rd_L1 y335 x9_2).length (rd_L1 y335 x9_2) := (Kd.V_at (base := w.heap.size) HL341_0.out).2.2; have hcut57 := cut_to (P := Try.prog) 58 3 .i64 Try.underlying58 hi057 A341_0 (rd_L1 y335 x9_2).length c341_0 2 (by omega) q57 hroom57; have hr57 := Kd.F_take (m := 2) hC57 (by omega); have hy57 : y342.length = (2 : Int).toNat := (by rw [Ny342.out, List.length_take]; omega); rw [← Ny342.out] at hr57; rw [← hy57] at hcut57; have HO346 := Aside0.mk (show Kd.V (Kd.int .i64) 3 _ w.heap.size _ (.slice A341_0 y342.length c341_0) y342 from Kd.V_mk (by omega) hr57); have HC346 := Aside0.mk (show y342.length ≤ c341_0 from by omega); clear hr57 hC57 hroom57 hi057 hsz57; have KY57 := Aside0.mk hy57; clear hy57; replace q57 := eq_true q57; have p49 : 0 ≤ (x9_2 : Int) := of_decide_eq_true (by first | (with_reducible assumption) | assumption); have q49 : (x9_2 : Int) < ((y335.length : Int) : Int) := of_decide_eq_true (by first | (with_reducible assumption) | assumption); obtain ⟨go49, co49, eo49, gb49, gl49, cl49, HG49⟩ := Kd.N_form HO337.out (by omega); (first | cases eo49 | (injection eo49 with ea_ en_ ec_; (first | subst ea_ | (injection ea_ with ea_; subst ea_)); subst ec_; clear en_)); have GB49 := Aside0.mk gb49; have GG49 := Aside0.mk HG49; clear gb49 gl49 HG49; (first | simp only [add_plain] at hx341_0 | skip); obtain ⟨ce49, hcl49, hM49, hcc49, hfr49⟩ := Kd.N_elem HO337.out [] (x9_2 : Int) p49 q49; obtain ⟨ua49_0, uc49_0, rfl, ul49_0, ge49_0⟩ := Kd.FK_slice_open hM49; have hx49_0 := hcc49 0 _ rfl; have hf49_0 := hfr49 0; (try simp only [show ((Kd.slice 3 (Kd.int .i64))).sz = 1 from rfl, Nat.mul_one, Nat.add_zero] at hx49_0); (try simp only [show ((Kd.slice 3 (Kd.int .i64))).sz = 1 from rfl, Nat.mul_one, Nat.add_zero] at hf49_0); clear hcl49 hcc49 hfr49 hM49; replace p49 := eq_true p49; replace q49 := eq_true q49; have HX58 := Aside0.mk (show Kd.N (Kd.slice 3 (Kd.int .i64)) 58 w55 w.heap.size (fun k_ => (w.heap.size ≤ k_) ∧ k_ ≠ g293) (.slice (some ⟨go49, 0, none⟩) y335.length co56) y335 from (by (with_reducible repeat (first | apply Kd.N_alloc | apply Kd.N_drewN | apply Kd.N_drew)); exact HO337.out)); obtain ⟨ce58, hcl58, hM58, hcc58, hfr58⟩ := Kd.N_elem HX58.out [] (x9_2 : Int) (of_decide_eq_true (by first | (with_reducible assumption) | assumption)) (by have h_ : (x9_2 : Int) < ((y335.length : Int) : Int) := of_decide_eq_true (by first | (with_reducible assumption) | assumption); first | exact h_ | (have e_ := (Kd.N_reads' HO337.out).1; omega) | simpa using h_); obtain ⟨ua58_0, uc58_0, rfl, ul58_0, ge58_0⟩ := Kd.FK_slice_open hM58; have HP58 := Kd.N_seg HX58.out (x9_2 : Int) (of_decide_eq_true (by first | (with_reducible assumption) | assumption)) (by have h_ : (x9_2 : Int) < ((y335.length : Int) : Int) := of_decide_eq_true (by first | (with_reducible assumption) | assumption); first | exact h_ | (have e_ := (Kd.N_reads' HO337.out).1; omega) | simpa using h_) (seg := [.slice A341_0 y342.length c341_0]) (j := 0) hcl58 hcc58 (show 1 ≤ 1 from by decide) (x' := y342) (Kd.FK_slice_mk (Kd.V_reads' (Kd.V_mono (ok' := (fun k_ => ((fun k_ => (w.heap.size ≤ k_) ∧ k_ ≠ g293)) k_ ∧ k_ ≠ go49)) (HO346.out) (fun k_ hk => ⟨⟨hk.1.1, hk.1.2⟩, fun e_ => (hk.2) (by rw [e_]; rfl)⟩))).2.1 (Kd.V_F (Kd.V_mono (ok' := (fun k_ => ((fun k_ => (w.heap.size ≤ k_) ∧ k_ ≠ g293)) k_ ∧ k_ ≠ go49)) (HO346.out) (fun k_ hk => ⟨⟨hk.1.1, hk.1.2⟩, fun e_ => (hk.2) (by rw [e_]; rfl)⟩)))) (fun _ hk => hk); have hx58_0 := hcc58 0 _ rfl; (try simp only [show ((Kd.slice 3 (Kd.int .i64))).sz = 1 from rfl, Nat.mul_one, Nat.add_zero] at hx58_0); have hf58_0 := hfr58 0; (try simp only [show ((Kd.slice 3 (Kd.int .i64))).sz = 1 from rfl, Nat.mul_one, Nat.add_zero] at hf58_0); clear hcl58 hcc58 hfr58 hM58; (try simp only [show ((Kd.slice 3 (Kd.int .i64))).sz = 1 from rfl, Nat.mul_one, Nat.add_zero] at HP58); (try simp only [show ((Kd.slice 3 (Kd.int .i64))).sz = 1 from rfl, Nat.mul_one, Nat.add_zero] at HP58)) | ((with_reducible refine gate_store (t := 58) (p := 80) rfl ?_); refine store_event (t := 58) (p := 80) (v := ?vo_w59) (w1 := (w55.setCell ⟨go49, (x9_2 : Int).toNat, none⟩ (.slice A341_0 y342.length c341_0))) ?hg ?ho ?hn ?hr ?_; (case ho => rfl); (case hg => rfl); (case hn => rfl); (case hr => first | (go_simp; done) | (go_simp; rfl)); intro w59 hw; have hg : w55.grownBy w59 (some go49) := (by rw [hw]; exact HP58.2); have hp_ : Kd.N (Kd.slice 3 (Kd.int .i64)) 58 w59 w.heap.size (fun k_ => (w.heap.size ≤ k_) ∧ k_ ≠ g293) (.slice (some ⟨go49, 0, none⟩) y335.length co56) y347 := (by rw [hw, Ny347.out]; exact HP58.1); clear HP58; have n0_ := Aside0.mk (IsS98.grown (by repeat (first | (with_reducible first | exact HI293.out | apply IsS98.alloc | apply IsS98.drewN | apply IsS98.drew | apply IsS98.set_1 | apply IsS98.set_2) | exact HI293.out)) hg (IsS98.own_neN HI293.out HO337.out (by decide))); have n1_ := Aside0.mk (hp_); have n2_ := Aside0.mk (Kd.V_afterv (v := (.slice (some ⟨go49, 0, none⟩) y335.length co56)) (v1 := (.slice (some ⟨go49, 0, none⟩) y335.length co56)) (ok := (fun k_ => (w.heap.size ≤ k_) ∧ k_ ≠ g293)) (by (with_reducible repeat (first | apply Kd.V_alloc | apply Kd.V_drewN | apply Kd.V_drew)); exact HL341_0.out) hg (.inl rfl)); have n3_ := Aside0.mk (Kd.V_afterv (v := (.slice (some ⟨go49, 0, none⟩) y335.length co56)) (v1 := (.slice (some ⟨go49, 0, none⟩) y335.length co56)) (ok := (fun k_ => (w.heap.size ≤ k_) ∧ k_ ≠ g293)) (by (with_reducible repeat (first | apply Kd.V_alloc | apply Kd.V_drewN | apply Kd.V_drew)); exact HO346.out) hg (.inl rfl)); have n4_ := Aside0.mk ((by rw [hw]; exact below_set (HB.out) GB49.out : Below w.heap.size w w59)); clear HI293 HO337 HL341_0 HO346 HB; have HI293 := n0_; have HO337 := n1_; have HL341_0 := n2_; have HO346 := n3_; have HB := n4_; clear n0_ n1_ n2_ n3_ n4_; clear hg hw hp_))
                                go_roundg kj36
                                case measure => have := HJ5.out; have := HK2.out; have := HK3.out; have := HJ36.out; omega
                                case rel => exact ⟨(y347), ((wrap64 (x7_2 + t316))), (x8_36), (wrap64 (x9_2 + 1)), (t339), (t340), (by first | rfl | (simp; done) | (simp [*]; done)), (by first | rfl | (simp; done) | (simp [*]; done)), (by first | rfl | (simp; done) | (simp [*]; done)), H', ⟨by have := HJ5.out; have := HK2.out; have := HK3.out; have := HJ36.out; omega⟩, ⟨by (with_reducible repeat (first | apply Kd.N_alloc | apply Kd.N_drewN | apply Kd.N_drew)); exact HO337.out⟩, ⟨by repeat (first | (with_reducible first | exact HI293.out | apply IsS98.alloc | apply IsS98.drewN | apply IsS98.drew | apply IsS98.set_1 | apply IsS98.set_2) | exact HI293.out)⟩, ⟨by repeat (first | (with_reducible first | exact HB.out | apply below_alloc | apply pw_below_drewN | apply below_drew1 | refine below_set ?_ (IsS98.ge HI293.out)) | exact HB.out)⟩⟩
                              · rw [if_neg c48] at H
                                exact absurd H (by simp)
                            · rw [if_neg c47] at H
                              exact absurd H (by simp)
                          · rw [if_neg c46] at H
                            exact absurd H (by simp)
                        · replace c45 := Bool.eq_false_iff.mpr c45
                          subst c45
                          have H1 : (spec_DrawPlayConn.l0 kj36 y335 x6_5 (wrap64 (x7_2 + t316)) x8_36 (wrap64 (x9_2 + 1)) t290 t339 t340) = some (r1, r2) := by rw [if_neg (show ¬ (false = true) by decide)] at H; exact H
                          clear H
                          have H := H1
                          clear H1
                          have H' := Aside0.mk H
                          clear H
                          go_wp2_with (first | ((with_reducible refine gate_callee (f := 70) rfl ?_); refine goesL_ (some 66) rfl rfl Try.func70 (by kernel_rfl) rfl #[.pointer (some ⟨g293, 0, none⟩), .int .i64 20] rfl (by (try simp only [List.map_toArray, List.map_cons, List.map_nil]); first | done | rfl | (simp only [List.length_drop, List.length_take]; rfl)) ?_; (with_reducible refine (spec_l01Below.calls g293 t290 x294001_3 x294002_3 20 t329 t330 t331 w _ ?side1 ?side2 A42.out).mono ?_); (case side1 => repeat (first | (with_reducible first | exact HI293.out | apply IsS98.alloc | apply IsS98.drewN | apply IsS98.drew | apply IsS98.set_1 | apply IsS98.set_2) | exact HI293.out)); (case side2 => repeat (first | (with_reducible first | exact HB.out | apply below_alloc | apply pw_below_drewN | apply below_drew1 | refine below_set ?_ (IsS98.ge HI293.out)) | exact HB.out)); rintro e w60 ⟨rfl, hi, hb, hk⟩; refine ⟨_, rfl, ?_⟩; have n0_ := Aside0.mk (Kd.N_mono (Kd.N_keep (Kd.N_mono (ok := fun k_ => (((w.heap.size ≤ k_)) ∧ k_ ≠ g293)) (by (with_reducible repeat (first | apply Kd.N_alloc | apply Kd.N_drewN | apply Kd.N_drew)); exact HO_5.out) (fun k_ hk_ => (⟨hk_, hk_.2⟩ : _ ∧ k_ ≠ g293))) hk (fun _ h => h.2)) (fun _ h => h.1)); have n1_ := Aside0.mk (hb); have n2_ := Aside0.mk (hi); clear HO_5 HB HI293; have HO_5 := n0_; have HB := n1_; have HI293 := n2_; clear n0_ n1_ n2_; (try clear hb); (try clear hb2); (try clear hk); (try clear hi)) | ((with_reducible refine gate_dst (N := 68) rfl ?_); refine Kd.R_lit (Kd.int .i64) _ 3 ?hg (N := 68) ?hd (xs := ([x10_3, (wrap64 (x7_2 + t316)), wrap64 (1 + t329)] : List Int)) (inner := [.int .i64 x10_3, .int .i64 (wrap64 (x7_2 + t316)), .int .i64 (wrap64 (1 + t329))]) (ok := fun _ => True) (okp := fun _ => True) ?hr ?hp (fun _ hk => hk) trivial (Below.refl _ _) (Nat.le_refl _) (by simp) ?_; (case hd => rfl); (case hg => rfl); (case hr => first | (go_simp; done) | (go_simp; rfl)); (case hp => exact (Reps.one (show Kd.M (Kd.int .i64) _ _ _ x10_3 [.int .i64 x10_3] from rfl) (Reps.one (show Kd.M (Kd.int .i64) _ _ _ (wrap64 (x7_2 + t316)) [.int .i64 (wrap64 (x7_2 + t316))] from rfl) (Reps.one (show Kd.M (Kd.int .i64) _ _ _ (wrap64 (1 + t329)) [.int .i64 (wrap64 (1 + t329))] from rfl) (Reps.none _ _))))); intro v333 w61 ho62 hb hg_ hnew_; clear hg_ hnew_; (first | rw [← Ny332.out] at ho62 | (simp only [Int.reduceToNat] at ho62; rw [← Ny332.out] at ho62)); have n0_ := Aside0.mk (Kd.N_elder' (by (with_reducible repeat (first | apply Kd.N_alloc | apply Kd.N_drewN | apply Kd.N_drew)); exact HO_5.out) (Kd.R_base ho62) hb); have n1_ := Aside0.mk (Kd.R_lower (Kd.R_newM (M := fun k_ => (w.heap.size ≤ k_)) ho62 (below_size (by repeat (first | (with_reducible first | exact HB.out | apply below_alloc | apply pw_below_drewN | apply below_drew1 | refine below_set ?_ (IsS98.ge HI293.out)) | exact HB.out))) (fun k_ h_ => h_)) (below_size (by repeat (first | (with_reducible first | exact HB.out | apply below_alloc | apply pw_below_drewN | apply below_drew1 | refine below_set ?_ (IsS98.ge HI293.out)) | exact HB.out)))); have n2_ := Aside0.mk (IsS98.below (by repeat (first | (with_reducible first | exact HI293.out | apply IsS98.alloc | apply IsS98.drewN | apply IsS98.drew | apply IsS98.set_1 | apply IsS98.set_2) | exact HI293.out)) hb); have n3_ := Aside0.mk (below_step (by repeat (first | (with_reducible first | exact HB.out | apply below_alloc | apply pw_below_drewN | apply below_drew1 | refine below_set ?_ (IsS98.ge HI293.out)) | exact HB.out)) hb); clear HO_5 HI293 HB; have HO_5 := n0_; have HO334 := n1_; have HI293 := n2_; have HB := n3_; clear n0_ n1_ n2_ n3_; clear hb ho62; obtain ⟨Ao64, co64, eo64⟩ := Kd.R_slice HO334.out; subst eo64) | ((with_reducible refine gate_builtin (b := .append) (xs := #[.tmp 62, .tmp 69]) rfl ?_); at_builtin; refine Kd.N_append (Kd.slice 3 (Kd.int .i64)) (w0 := w) w.heap.size rfl (.tmp 62) (.tmp 69) 56 58 (.slice none 0 0) 24 rfl Try.underlying56 info58 rfl (by decide) (by omega) u5 x5_2 y332 [.slice Ao64 y332.length co64] (fun k_ => (w.heap.size ≤ k_) ∧ k_ ≠ g293) (fun k_ => ((fun k_ => (w.heap.size ≤ k_) ∧ k_ ≠ g293)) k_ ∧ some k_ ≠ (u5 : Value).ownBlock) rfl rfl ?aP (fun _ hk => hk) ?aF ?aO ?aB ?aS ?aL ?_; (case aP => exact (Kd.FK_slice_mk (Kd.R_reads' (Kd.R_mono (ok' := (fun k_ => ((fun k_ => (w.heap.size ≤ k_) ∧ k_ ≠ g293)) k_ ∧ some k_ ≠ (u5 : Value).ownBlock)) (IsS98.apart HI293.out (Kd.R_apart' (HO334.out) (Kd.N_typed HO_5.out) (by decide)) (by decide)) (fun k_ hk => ⟨⟨hk.1.1.1, hk.2⟩, hk.1.2⟩))).2.1 (Kd.R_F (Kd.R_mono (ok' := (fun k_ => ((fun k_ => (w.heap.size ≤ k_) ∧ k_ ≠ g293)) k_ ∧ some k_ ≠ (u5 : Value).ownBlock)) (IsS98.apart HI293.out (Kd.R_apart' (HO334.out) (Kd.N_typed HO_5.out) (by decide)) (by decide)) (fun k_ hk => ⟨⟨hk.1.1.1, hk.2⟩, hk.1.2⟩))))); (case aB => exact (by repeat (first | (with_reducible first | exact HB.out | apply below_alloc | apply pw_below_drewN | apply below_drew1 | refine below_set ?_ (IsS98.ge HI293.out)) | exact HB.out))); (case aF => exact (fun k_ hk => ⟨(Nat.le_trans (below_size (by repeat (first | (with_reducible first | exact HB.out | apply below_alloc | apply pw_below_drewN | apply below_drew1 | refine below_set ?_ (IsS98.ge HI293.out)) | exact HB.out))) hk), IsS98.fresh (by repeat (first | (with_reducible first | exact HI293.out | apply IsS98.alloc | apply IsS98.drewN | apply IsS98.drew | apply IsS98.set_1 | apply IsS98.set_2) | exact HI293.out)) k_ hk⟩)); (case aO => exact (by (with_reducible repeat (first | apply Kd.N_alloc | apply Kd.N_drewN | apply Kd.N_drew)); exact Kd.N_mono HO_5.out (fun _ hk => ⟨hk.1.1, hk.1.2⟩))); (case aS => exact (below_size (by repeat (first | (with_reducible first | exact HB.out | apply below_alloc | apply pw_below_drewN | apply below_drew1 | refine below_set ?_ (IsS98.ge HI293.out)) | exact HB.out)))); (case aL => have := LMc43.out; omega); intro v336 w63 ho hb hg hat; rw [← Ny335.out] at ho; have n0_ := Aside0.mk (IsS98.grown (by repeat (first | (with_reducible first | exact HI293.out | apply IsS98.alloc | apply IsS98.drewN | apply IsS98.drew | apply IsS98.set_1 | apply IsS98.set_2) | exact HI293.out)) hg (IsS98.own_neN HI293.out HO_5.out (by decide))); have n1_ := Aside0.mk (hb); have n2_ := Aside0.mk (ho); clear HI293 HB HO_5 HO334; have HI293 := n0_; have HB := n1_; have HO337 := n2_; clear n0_ n1_ n2_; clear ho hb hg hat) | ((with_reducible refine gate_callee (f := 72) rfl ?_); refine goesL_ (some 72) rfl rfl Try.func72 (by kernel_rfl) rfl #[.pointer (some ⟨g293, 0, none⟩), .int .i64 40] rfl (by (try simp only [List.map_toArray, List.map_cons, List.map_nil]); first | done | rfl | (simp only [List.length_drop, List.length_take]; rfl)) ?_; (with_reducible refine (spec_l01Once.calls g293 t290 t330 t331 40 false t339 t340 w _ ?side1 ?side2 A44.out).mono ?_); (case side1 => repeat (first | (with_reducible first | exact HI293.out | apply IsS98.alloc | apply IsS98.drewN | apply IsS98.drew | apply IsS98.set_1 | apply IsS98.set_2) | exact HI293.out)); (case side2 => repeat (first | (with_reducible first | exact HB.out | apply below_alloc | apply pw_below_drewN | apply below_drew1 | refine below_set ?_ (IsS98.ge HI293.out)) | exact HB.out)); rintro e w65 ⟨rfl, hi, hb, hk⟩; refine ⟨_, rfl, ?_⟩; have n0_ := Aside0.mk (Kd.N_mono (Kd.N_keep (Kd.N_mono (ok := fun k_ => (((w.heap.size ≤ k_)) ∧ k_ ≠ g293)) (by (with_reducible repeat (first | apply Kd.N_alloc | apply Kd.N_drewN | apply Kd.N_drew)); exact HO337.out) (fun k_ hk_ => (⟨hk_, hk_.2⟩ : _ ∧ k_ ≠ g293))) hk (fun _ h => h.2)) (fun _ h => h.1)); have n1_ := Aside0.mk (hb); have n2_ := Aside0.mk (hi); clear HO337 HB HI293; have HO337 := n0_; have HB := n1_; have HI293 := n2_; clear n0_ n1_ n2_; (try clear hb); (try clear hb2); (try clear hk); (try clear hi)))
                          go_roundg kj36
                          case measure => have := HJ5.out; have := HK2.out; have := HK3.out; have := HJ36.out; omega
                          case rel => exact ⟨(y335), ((wrap64 (x7_2 + t316))), (x8_36), (wrap64 (x9_2 + 1)), (t339), (t340), (by first | rfl | (simp; done) | (simp [*]; done)), (by first | rfl | (simp; done) | (simp [*]; done)), (by first | rfl | (simp; done) | (simp [*]; done)), H', ⟨by have := HJ5.out; have := HK2.out; have := HK3.out; have := HJ36.out; omega⟩, ⟨by (with_reducible repeat (first | apply Kd.N_alloc | apply Kd.N_drewN | apply Kd.N_drew)); exact HO337.out⟩, ⟨by repeat (first | (with_reducible first | exact HI293.out | apply IsS98.alloc | apply IsS98.drewN | apply IsS98.drew | apply IsS98.set_1 | apply IsS98.set_2) | exact HI293.out)⟩, ⟨by repeat (first | (with_reducible first | exact HB.out | apply below_alloc | apply pw_below_drewN | apply below_drew1 | refine below_set ?_ (IsS98.ge HI293.out)) | exact HB.out)⟩⟩
                      · rw [if_neg c43] at H
                        exact absurd H (by simp)
          · rw [if_neg c15] at H
            have c15b0 : decide (x9_2 < x6_5) = false := decide_eq_false c15
            clear c15
            replace H := Option.bind_eq_some_iff.mp H
            obtain ⟨⟨t307, t308, t309⟩, A660, H⟩ := H
            replace H : ((spec_l01PickInt.f t290 t308 t309 (([1, 7, wrap64 (1 + t307), 0, 1000000001] : List Int))).bind fun bt313 => (some (bt313.1, x5_2))) = some (r1, r2) := H
            have A66 := Aside0.mk A660
            clear A660
            obtain ⟨y310, hy310⟩ : ∃ y_ : List Int, y_ = (([1, 7, wrap64 (1 + t307), 0, 1000000001] : List Int)) := ⟨_, rfl⟩
            replace H : ((spec_l01PickInt.f t290 t308 t309 y310).bind fun bt313 => (some (bt313.1, x5_2))) = some (r1, r2) := by first | (rw [hy310]; with_reducible exact H) | (have H2_ := (Option.bind_some _ _).symm.trans H; rw [hy310]; with_reducible exact H2_) | (have H2_ := (Option.bind_some _ _).symm.trans H; with_reducible exact H2_) | with_reducible exact H | (rw [hy310]; exact H) | exact H
            have Ny310 := Aside0.mk hy310
            clear hy310
            replace H := Option.bind_eq_some_iff.mp H
            obtain ⟨⟨t313, t314, t315⟩, A670, H⟩ := H
            replace H : (some (t313, x5_2)) = some (r1, r2) := H
            have A67 := Aside0.mk A670
            clear A670
            simp only [Option.some.injEq, Prod.mk.injEq] at H
            obtain ⟨rfl, rfl⟩ := H
            go_wp2_with (first | ((with_reducible refine gate_callee (f := 70) rfl ?_); refine goesL_ (some 83) rfl rfl Try.func70 (by kernel_rfl) rfl #[.pointer (some ⟨g293, 0, none⟩), .int .i64 90] rfl (by (try simp only [List.map_toArray, List.map_cons, List.map_nil]); first | done | rfl | (simp only [List.length_drop, List.length_take]; rfl)) ?_; (with_reducible refine (spec_l01Below.calls g293 t290 x294001_2 x294002_2 90 t307 t308 t309 w _ ?side1 ?side2 A66.out).mono ?_); (case side1 => repeat (first | (with_reducible first | exact HI293.out | apply IsS98.alloc | apply IsS98.drewN | apply IsS98.drew | apply IsS98.set_1 | apply IsS98.set_2) | exact HI293.out)); (case side2 => repeat (first | (with_reducible first | exact HB.out | apply below_alloc | apply pw_below_drewN | apply below_drew1 | refine below_set ?_ (IsS98.ge HI293.out)) | exact HB.out)); rintro e w68 ⟨rfl, hi, hb, hk⟩; refine ⟨_, rfl, ?_⟩; have n0_ := Aside0.mk (Kd.N_mono (Kd.N_keep (Kd.N_mono (ok := fun k_ => (((w.heap.size ≤ k_)) ∧ k_ ≠ g293)) (by (with_reducible repeat (first | apply Kd.N_alloc | apply Kd.N_drewN | apply Kd.N_drew)); exact HO_5.out) (fun k_ hk_ => (⟨hk_, hk_.2⟩ : _ ∧ k_ ≠ g293))) hk (fun _ h => h.2)) (fun _ h => h.1)); have n1_ := Aside0.mk (hb); have n2_ := Aside0.mk (hi); clear HO_5 HB HI293; have HO_5 := n0_; have HB := n1_; have HI293 := n2_; clear n0_ n1_ n2_; (try clear hb); (try clear hb2); (try clear hk); (try clear hi)) | ((with_reducible refine gate_dst (N := 85) rfl ?_); refine Kd.R_lit (Kd.int .i64) _ 3 ?hg (N := 85) ?hd (xs := ([1, 7, wrap64 (1 + t307), 0, 1000000001] : List Int)) (inner := [.int .i64 1, .int .i64 7, .int .i64 (wrap64 (1 + t307)), .int .i64 0, .int .i64 1000000001]) (ok := fun _ => True) (okp := fun _ => True) ?hr ?hp (fun _ hk => hk) trivial (Below.refl _ _) (Nat.le_refl _) (by simp) ?_; (case hd => rfl); (case hg => rfl); (case hr => first | (go_simp; done) | (go_simp; rfl)); (case hp => exact (Reps.one (show Kd.M (Kd.int .i64) _ _ _ 1 [.int .i64 1] from rfl) (Reps.one (show Kd.M (Kd.int .i64) _ _ _ 7 [.int .i64 7] from rfl) (Reps.one (show Kd.M (Kd.int .i64) _ _ _ (wrap64 (1 + t307)) [.int .i64 (wrap64 (1 + t307))] from rfl) (Reps.one (show Kd.M (Kd.int .i64) _ _ _ 0 [.int .i64 0] from rfl) (Reps.one (show Kd.M (Kd.int .i64) _ _ _ 1000000001 [.int .i64 1000000001] from rfl) (Reps.none _ _))))))); intro v311 w69 ho70 hb hg_ hnew_; clear hg_ hnew_; (first | rw [← Ny310.out] at ho70 | (simp only [Int.reduceToNat] at ho70; rw [← Ny310.out] at ho70)); have n0_ := Aside0.mk (Kd.N_elder' (by (with_reducible repeat (first | apply Kd.N_alloc | apply Kd.N_drewN | apply Kd.N_drew)); exact HO_5.out) (Kd.R_base ho70) hb); have n1_ := Aside0.mk (Kd.R_lower (Kd.R_newM (M := fun k_ => (w.heap.size ≤ k_)) ho70 (below_size (by repeat (first | (with_reducible first | exact HB.out | apply below_alloc | apply pw_below_drewN | apply below_drew1 | refine below_set ?_ (IsS98.ge HI293.out)) | exact HB.out))) (fun k_ h_ => h_)) (below_size (by repeat (first | (with_reducible first | exact HB.out | apply below_alloc | apply pw_below_drewN | apply below_drew1 | refine below_set ?_ (IsS98.ge HI293.out)) | exact HB.out)))); have n2_ := Aside0.mk (IsS98.below (by repeat (first | (with_reducible first | exact HI293.out | apply IsS98.alloc | apply IsS98.drewN | apply IsS98.drew | apply IsS98.set_1 | apply IsS98.set_2) | exact HI293.out)) hb); have n3_ := Aside0.mk (below_step (by repeat (first | (with_reducible first | exact HB.out | apply below_alloc | apply pw_below_drewN | apply below_drew1 | refine below_set ?_ (IsS98.ge HI293.out)) | exact HB.out)) hb); clear HO_5 HI293 HB; have HO_5 := n0_; have HO312 := n1_; have HI293 := n2_; have HB := n3_; clear n0_ n1_ n2_ n3_; clear hb ho70; obtain ⟨Ao71, co71, eo71⟩ := Kd.R_slice HO312.out; subst eo71) | ((with_reducible refine gate_callee (f := 73) rfl ?_); refine goesL_ (some 86) rfl rfl Try.func73 (by kernel_rfl) rfl #[.pointer (some ⟨g293, 0, none⟩), .slice Ao71 y310.length co71] rfl (by (try simp only [List.map_toArray, List.map_cons, List.map_nil]); first | done | rfl | (simp only [List.length_drop, List.length_take]; rfl)) ?_; (with_reducible refine (spec_l01PickInt.calls g293 t290 t308 t309 _ _ y310 t313 t314 t315 w _ ?side1 ?side2 ?side3 ?side4 ?side5 A67.out).mono ?_); (case side1 => repeat (first | (with_reducible first | exact HI293.out | apply IsS98.alloc | apply IsS98.drewN | apply IsS98.drew | apply IsS98.set_1 | apply IsS98.set_2) | exact HI293.out)); (case side2 => repeat (first | (with_reducible first | exact HB.out | apply below_alloc | apply pw_below_drewN | apply below_drew1 | refine below_set ?_ (IsS98.ge HI293.out)) | exact HB.out)); (case side3 => repeat (first | exact (Kd.R_reads' HO312.out).2.2 | (with_reducible refine Kd.C_alloc ?_ _) | (with_reducible refine Kd.C_drewN ?_ _) | (with_reducible refine Kd.C_drew ?_))); (case side4 => exact (Kd.R_reads' HO312.out).2.1); (case side5 => exact far_slice (IsS98.own_ne HI293.out HO312.out (by decide))); rintro e w72 ⟨rfl, hi, hb, hk⟩; refine ⟨_, rfl, ?_⟩; have n0_ := Aside0.mk (Kd.N_mono (Kd.N_keep (Kd.N_mono (ok := fun k_ => ((((w.heap.size ≤ k_)) ∧ k_ ≠ g293) ∧ some k_ ≠ (.slice Ao71 y310.length co71 : Value).ownBlock)) (by (with_reducible repeat (first | apply Kd.N_alloc | apply Kd.N_drewN | apply Kd.N_drew)); exact HO_5.out) (fun k_ hk_ => (⟨hk_, hk_.1.2⟩ : _ ∧ k_ ≠ g293))) hk (fun _ h => h.2)) (fun _ h => h.1)); have n1_ := Aside0.mk (Kd.R_mono (Kd.R_keep (IsS98.apart (show IsS98 w _ g293 t290 t308 t309 from by repeat (first | (with_reducible first | exact HI293.out | apply IsS98.alloc | apply IsS98.drewN | apply IsS98.drew | apply IsS98.set_1 | apply IsS98.set_2) | exact HI293.out)) (ro_ HO312.out) (by decide)) hk (fun _ h => h.2)) (fun _ h => h.1)); have n2_ := Aside0.mk (hb); have n3_ := Aside0.mk (hi); clear HO_5 HO312 HB HI293; have HO_5 := n0_; have HO312 := n1_; have HB := n2_; have HI293 := n3_; clear n0_ n1_ n2_ n3_; (try clear hb); (try clear hb2); (try clear hk); (try clear hi)))
            go_ret2
            exact ⟨_, by first | rfl | (simp [errW_none, errW_some] <;> rfl) | (simp [*, errW_none, errW_some] <;> rfl), by (with_reducible repeat (first | apply Kd.N_alloc | apply Kd.N_drewN | apply Kd.N_drew)); exact Kd.N_mono HO_5.out (fun _ hk => hk.1.1), by repeat (first | (with_reducible first | exact HB.out | apply below_alloc | apply pw_below_drewN | apply below_drew1 | refine below_set ?_ (IsS98.ge HI293.out)) | exact HB.out)⟩

end Go.Proofs.Ytpckdemamlhpdaa.MFnConns
