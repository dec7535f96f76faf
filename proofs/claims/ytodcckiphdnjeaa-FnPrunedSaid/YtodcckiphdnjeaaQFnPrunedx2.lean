-- Written by a changed copy of the kit's printer (wip/mp.py of this repo), for this claim; Lean checks it.
import Derived.Test.YtodcckiphdnjeaaQFnPrunedx0
namespace Go.Proofs.Ytodcckiphdnjeaa.QFnPruned
open Go.RowKit Go.Proofs.YtodcckiphdnjeaaW.PrintWords Go.Proofs.YtodcckiphdnjeaaW.PrintLast Go.Proofs.YtodcckiphdnjeaaW.PrintMore
attribute [local go_sem] max2_int min2_int max_two min_two max_three min_three max_four min_four   -- for this text's walks alone
set_option linter.unusedVariables false
set_option maxHeartbeats 8000000
set_option maxRecDepth 100000
set_option linter.unusedSimpArgs false

theorem z2_0 {p : Prop} (h : p := by repeat (first | (with_reducible first | exact HB.out | apply below_alloc | apply pw_below_drewN | apply below_drew1 | refine below_set ?_ GE101.out) | exact HB.out)) : p := h
theorem z2_3 {p : Prop} (h : p := by (with_reducible repeat (first | refine blk_drewN ?_ _ | refine blk_drew ?_ | refine blk_alloc ?_ _)); exact BK101.out) : p := h
/-! ### laws_big: function 21 -/
def laws_big.f (l0 : List Int) : Option (Bool) := some (decide ((l0.length : Int) > 1048576))
theorem laws_big.calls (A0 : Option Addr) (c0 : Nat) (l0 : List Int) (r : Bool) (w : World) (hr0 : Kd.C (Kd.int .u8) w A0 l0.length l0) (hc0 : l0.length ≤ c0) (h : laws_big.f l0 = some r) :
   Calls Try.prog 21 #[.slice A0 l0.length c0] w fun e w' => e = .returned (.bool r) ∧ Drawn0 w w' := by
  have HR0 := Aside0.mk hr0; have HC0 := Aside0.mk hc0; clear hr0 hc0; have H : (some (decide ((l0.length : Int) > 1048576))) = some r := h; clear h; obtain rfl := Option.some.inj H; go_enter Try.func21, Try.ntmps21
  go_wp2
  go_ret
  exact ⟨z_g2, z_g3⟩

/-! ### laws_agrees: function 25 -/
def laws_agrees.l0 : Nat → ByteArray → ByteArray → Int → Option (Bool)
  | 0, _, _, _ => none
  | k + 1, x0, x1, x5 => if x5 < (x1.size : Int) then (if 0 ≤ x5 then (if (bt x1 x5) = 63 then (laws_agrees.l0 k x0 x1 (wrap64 (x5 + 1))) else (if x5 ≥ (x0.size : Int) then (some false) else (if x5 < (x0.size : Int) then (if (bt x0 x5) = (bt x1 x5) then (laws_agrees.l0 k x0 x1 (wrap64 (x5 + 1))) else (some false)) else (none)))) else (none)) else (some ((x0.size : Int) == (x1.size : Int)))
def laws_agrees.f (k : Nat) (a0 : ByteArray) (a1 : ByteArray) : Option (Bool) := laws_agrees.l0 k a0 a1 0
theorem laws_agrees.calls (k : Nat) (a0 : ByteArray) (a1 : ByteArray) (r : Bool) (w : World) (h : laws_agrees.f k a0 a1 = some r) :
   Calls Try.prog 25 #[.string a0, .string a1] w fun e w' => e = .returned (.bool r) ∧ Drawn0 w w' := by
  have H : (laws_agrees.l0 k a0 a1 0) = some r := h; clear h; have H' := Aside0.mk H
  clear H; go_enter Try.func25, Try.ntmps25
  go_wp2
  repeat (go_quiet (fail); try go_wp2)
  go_loopg [5] k (fun kq v5 w' => ∃ (x5_1 : Int), v5 = .int .i64 x5_1 ∧ Aside0 (laws_agrees.l0 kq a0 a1 x5_1 = some r) ∧ Aside0 (kq ≤ k) ∧ Drawn0 w w')
  case atStart => exact ⟨(0), z_g2, H', ⟨Nat.le_refl _⟩, z_g3⟩
  case round =>
   clear H'; try clear c2
   try clear p2
   obtain ⟨x5_1, rfl, HA, HK1, ⟨m1, rfl⟩⟩ := hrel
   cases gk with
   | zero => exact absurd HA.out (by simp [laws_agrees.l0])
   | succ k1 =>
    have H := HA.out; clear HA; simp only [laws_agrees.l0] at H; by_cases c3 : x5_1 < (a1.size : Int)
    ·rw [if_pos c3] at H
     have c3b0 := decide_eq_true c3; clear c3; by_cases c4 : 0 ≤ x5_1
     ·rw [if_pos c4] at H
      have c4b0 := decide_eq_true c4; clear c4; by_cases c6 : (bt a1 x5_1) = 63
      ·rw [if_pos c6] at H
       have c6b0 : ((bt a1 x5_1) == 63) = true := beq_iff_eq.mpr c6; have c6b1 : ((bt a1 x5_1) != 63) = false := bne_eq_false_iff_eq.mpr c6; clear c6; have H' := Aside0.mk H
       clear H; have p5 : 0 ≤ (x5_1 : Int) := of_decide_eq_true z_g1; have q5 : x5_1 < (a1.size : Int) := of_decide_eq_true z_g1; have hx5 := bt_at a1 x5_1; replace p5 := eq_true p5; replace q5 := eq_true q5; go_wp2
       repeat (go_quiet (fail); try go_wp2)
       go_roundg k1
       case measure => have := HK1.out; omega
       case rel => exact ⟨(wrap64 (x5_1 + 1)), z_g2, H', ⟨by have := HK1.out; omega⟩, z_g3⟩
      ·rw [if_neg c6] at H
       have c6b0 : ((bt a1 x5_1) == 63) = false := beq_eq_false_iff_ne.mpr c6; have c6b1 : ((bt a1 x5_1) != 63) = true := bne_iff_ne.mpr c6; by_cases c7 : x5_1 ≥ (a0.size : Int)
       ·rw [if_pos c7] at H
        have c7b0 := decide_eq_true c7; clear c7; obtain rfl := Option.some.inj H; have p5 : 0 ≤ (x5_1 : Int) := of_decide_eq_true z_g1; have q5 : x5_1 < (a1.size : Int) := of_decide_eq_true z_g1; have hx5 := bt_at a1 x5_1; replace p5 := eq_true p5; replace q5 := eq_true q5; go_wp2
        repeat (go_quiet (fail); try go_wp2)
        go_ret
        exact ⟨z_g2, z_g3⟩
       ·rw [if_neg c7] at H
        have c7b0 := decide_eq_false c7; clear c7; by_cases c8 : x5_1 < (a0.size : Int)
        ·rw [if_pos c8] at H
         have c8b0 := decide_eq_true c8; clear c8; by_cases c11 : (bt a0 x5_1) = (bt a1 x5_1)
         ·rw [if_pos c11] at H
          have c11b0 : ((bt a0 x5_1) == (bt a1 x5_1)) = true := beq_iff_eq.mpr c11; have c11b1 : ((bt a0 x5_1) != (bt a1 x5_1)) = false := bne_eq_false_iff_eq.mpr c11; clear c11; have H' := Aside0.mk H
          clear H; have p5 : 0 ≤ (x5_1 : Int) := of_decide_eq_true z_g1; have q5 : x5_1 < (a1.size : Int) := of_decide_eq_true z_g1; have hx5 := bt_at a1 x5_1; replace p5 := eq_true p5; replace q5 := eq_true q5; have p9 : 0 ≤ (x5_1 : Int) := of_decide_eq_true z_g1; have q9 : x5_1 < (a0.size : Int) := of_decide_eq_true z_g1; have hx9 := bt_at a0 x5_1; replace p9 := eq_true p9; replace q9 := eq_true q9; have p10 : 0 ≤ (x5_1 : Int) := of_decide_eq_true z_g1; have q10 : x5_1 < (a1.size : Int) := of_decide_eq_true z_g1; have hx10 := bt_at a1 x5_1; replace p10 := eq_true p10; replace q10 := eq_true q10; go_wp2
          repeat (go_quiet (fail); try go_wp2)
          go_roundg k1
          case measure => have := HK1.out; omega
          case rel => exact ⟨(wrap64 (x5_1 + 1)), z_g2, H', ⟨by have := HK1.out; omega⟩, z_g3⟩
         ·rw [if_neg c11] at H
          have c11b0 : ((bt a0 x5_1) == (bt a1 x5_1)) = false := beq_eq_false_iff_ne.mpr c11; have c11b1 : ((bt a0 x5_1) != (bt a1 x5_1)) = true := bne_iff_ne.mpr c11; obtain rfl := Option.some.inj H; have p5 : 0 ≤ (x5_1 : Int) := of_decide_eq_true z_g1; have q5 : x5_1 < (a1.size : Int) := of_decide_eq_true z_g1; have hx5 := bt_at a1 x5_1; replace p5 := eq_true p5; replace q5 := eq_true q5; have p9 : 0 ≤ (x5_1 : Int) := of_decide_eq_true z_g1; have q9 : x5_1 < (a0.size : Int) := of_decide_eq_true z_g1; have hx9 := bt_at a0 x5_1; replace p9 := eq_true p9; replace q9 := eq_true q9; have p10 : 0 ≤ (x5_1 : Int) := of_decide_eq_true z_g1; have q10 : x5_1 < (a1.size : Int) := of_decide_eq_true z_g1; have hx10 := bt_at a1 x5_1; replace p10 := eq_true p10; replace q10 := eq_true q10; go_wp2
          repeat (go_quiet (fail); try go_wp2)
          go_ret
          exact ⟨z_g2, z_g3⟩
        ·rw [if_neg c8] at H
         exact absurd H (by simp)
     ·rw [if_neg c4] at H
      exact absurd H (by simp)
    ·rw [if_neg c3] at H
     have c3b0 := decide_eq_false c3; clear c3; obtain rfl := Option.some.inj H; go_wp2
     repeat (go_quiet (fail); try go_wp2)
     go_ret
     exact ⟨z_g2, z_g3⟩

/-! ### impl_InRange: function 49 -/
def impl_InRange.f (a0 : Int) (a1 : Int) (a2 : Int) : Option (Bool) := if a1 ≤ a0 then (some (decide (a0 ≤ a2))) else (some false)
theorem impl_InRange.calls (a0 : Int) (a1 : Int) (a2 : Int) (r : Bool) (w : World) (h : impl_InRange.f a0 a1 a2 = some r) :
   Calls Try.prog 49 #[.int .i64 a0, .int .i64 a1, .int .i64 a2] w fun e w' => e = .returned (.bool r) ∧ Drawn0 w w' := by
  have H : (if a1 ≤ a0 then (some (decide (a0 ≤ a2))) else (some false)) = some r := h; clear h; by_cases c4 : a1 ≤ a0
  ·rw [if_pos c4] at H
   have c4b0 := decide_eq_true c4; clear c4; obtain rfl := Option.some.inj H; go_enter Try.func49, Try.ntmps49
   go_wp2
   go_ret
   exact ⟨z_g2, z_g3⟩
  ·rw [if_neg c4] at H
   have c4b0 := decide_eq_false c4; clear c4; obtain rfl := Option.some.inj H; go_enter Try.func49, Try.ntmps49
   go_wp2
   go_ret
   exact ⟨z_g2, z_g3⟩

/-! ### impl_IsGrid: function 61 -/
mutual
def impl_IsGrid.j0 : Nat → Bool → Int → Int → ByteArray → Option (Bool)
  | 0, _, _, _, _ => none
  | k + 1, x24, x102000, x102001, x102002 => if x24 = true then (some false) else (impl_IsGrid.l0 k (x102002.size : Int) 0 x102000 x102001 x102002)
def impl_IsGrid.l0 : Nat → Int → Int → Int → Int → ByteArray → Option (Bool)
  | 0, _, _, _, _, _ => none
  | k + 1, x27, x28, x102000, x102001, x102002 => if x28 < x27 then (if 0 ≤ x28 then (if x28 < (x102002.size : Int) then (if (bt x102002 x28) = 35 then (impl_IsGrid.l0 k x27 (wrap64 (x28 + 1)) x102000 x102001 x102002) else (if (bt x102002 x28) = 46 then (impl_IsGrid.l0 k x27 (wrap64 (x28 + 1)) x102000 x102001 x102002) else (some false))) else (none)) else (none)) else (some true)
end
def impl_IsGrid.f (k : Nat) (a0_0 : Int) (a0_1 : Int) (a0_2 : ByteArray) : Option (Bool) := (impl_InRange.f a0_0 2 6).bind fun t102 => (if t102 = true then ((impl_InRange.f a0_1 2 6).bind fun t103 => (if t103 = true then (impl_IsGrid.j0 k ((a0_2.size : Int) != (wrap64 (a0_0 * a0_1))) a0_0 a0_1 a0_2) else (impl_IsGrid.j0 k true a0_0 a0_1 a0_2))) else (impl_IsGrid.j0 k true a0_0 a0_1 a0_2))
theorem impl_IsGrid.calls (k : Nat) (a0_0 : Int) (a0_1 : Int) (a0_2 : ByteArray) (r : Bool) (w : World) (h : impl_IsGrid.f k a0_0 a0_1 a0_2 = some r) :
   Calls Try.prog 61 #[.agg #[.int .i64 a0_0, .int .i64 a0_1, .string a0_2]] w fun e w' => e = .returned (.bool r) ∧ Below w.heap.size w w' := by
  have hu28 := Try.underlying28; have HB := Aside0.mk (Below.refl w.heap.size w); have H : ((impl_InRange.f a0_0 2 6).bind fun t102 => (if t102 = true then ((impl_InRange.f a0_1 2 6).bind fun t103 => (if t103 = true then (impl_IsGrid.j0 k ((a0_2.size : Int) != (wrap64 (a0_0 * a0_1))) a0_0 a0_1 a0_2) else (impl_IsGrid.j0 k true a0_0 a0_1 a0_2))) else (impl_IsGrid.j0 k true a0_0 a0_1 a0_2))) = some r := h; clear h; have HC2 := Aside0.mk H; clear H; go_enter Try.func61, Try.ntmps61
  go_upto_region 1 with (first | ((with_reducible refine gate_dst (N := 1) rfl ?_); (try (refine gate_guard (by rfl) ?_; dsimp only)); refine box_event ?hg (N := 1) ?hd (cs := #[.int .i64 a0_0, .int .i64 a0_1, .string a0_2]) (t := 28) ?hr ?_; (case hd => rfl); (case hg => rfl); (case hr => first | (go_simp; done) | (go_simp; rfl)); intro gb101 hg w3 hbox hb; have BK101 := Aside0.mk (hbox); have GW101 := Aside0.mk ((by rw [hg]; exact (below_size (by repeat (first | (with_reducible first | exact HB.out | apply below_alloc | apply pw_below_drewN | apply below_drew1) | exact HB.out))) : w.heap.size ≤ gb101)); have GE101 := Aside0.mk ((by rw [hg]; exact (below_size (by repeat (first | (with_reducible first | exact HB.out | apply below_alloc | apply pw_below_drewN | apply below_drew1) | exact HB.out))) : w.heap.size ≤ gb101)); replace HB := Aside0.mk (below_step (by repeat (first | (with_reducible first | exact HB.out | apply below_alloc | apply pw_below_drewN | apply below_drew1) | exact HB.out)) hb); clear hb hbox hg))
  (try simp only [Act.put, List.setIfInBounds_toArray, List.set_cons_zero, List.set_cons_succ])
  go_cut [24] (fun v24 wc => ∃ (kq : Nat) (x24_1 : Bool), v24 = .bool x24_1 ∧ Aside0 (impl_IsGrid.j0 kq x24_1 a0_0 a0_1 a0_2 = some r) ∧ Aside0 (kq ≤ k) ∧ Aside0 (wc.heap[gb101]? = some (.cells #[.int .i64 a0_0, .int .i64 a0_1, .string a0_2] 28 (0, 0))) ∧ Aside0 (Below w.heap.size w wc))
  case first =>
   have H := HC2.out; clear HC2; replace H := Option.bind_eq_some_iff.mp H; obtain ⟨t102, A40, H⟩ := H; try dsimp only at H
   have A4 := Aside0.mk A40; clear A40; by_cases c5 : t102 = true
   ·subst c5; rw [if_pos rfl] at H
    replace H := Option.bind_eq_some_iff.mp H; obtain ⟨t103, A60, H⟩ := H; try dsimp only at H
    have A6 := Aside0.mk A60; clear A60; by_cases c7 : t103 = true
    ·subst c7; rw [if_pos rfl] at H
     have H' := Aside0.mk H
     clear H; obtain ⟨hcz8_0, hcz8_1, hcz8_2, hfz8_0, hfz8_1, hfz8_2⟩ := bc3_g0 BK101.out; go_wp2_with (first | ((with_reducible refine gate_callee (f := 49) rfl ?_); refine goesL_ (some 6) rfl rfl Try.func49 (by kernel_rfl) rfl #[.int .i64 a0_0, .int .i64 2, .int .i64 6] rfl (by (try simp only [List.map_toArray, List.map_cons, List.map_nil]); first | done | rfl | (simp only [List.length_drop, List.length_take]; rfl)) ?_; (with_reducible refine (impl_InRange.calls a0_0 2 6 true _ A4.out).mono ?_); rintro e w' ⟨rfl, ⟨nd, rfl⟩⟩; refine ⟨_, rfl, ?_⟩) | (go_at_call 49; (with_reducible refine (impl_InRange.calls a0_1 2 6 true _ A6.out).mono ?_); rintro e w' ⟨rfl, ⟨nd, rfl⟩⟩))
     go_meet
     case rel => exact ⟨_, (((a0_2.size : Int) != (wrap64 (a0_0 * a0_1)))), z_g2, H', ⟨by first | omega | exact Nat.le_refl _⟩, ⟨z2_3⟩, ⟨z2_0⟩⟩
    ·replace c7 := Bool.eq_false_iff.mpr c7; subst c7; rw [if_neg (show ¬ (false = true) by decide)] at H
     have H' := Aside0.mk H
     clear H; obtain ⟨hcz9_0, hcz9_1, hcz9_2, hfz9_0, hfz9_1, hfz9_2⟩ := bc3_g0 BK101.out; go_wp2_with (first | ((with_reducible refine gate_callee (f := 49) rfl ?_); refine goesL_ (some 6) rfl rfl Try.func49 (by kernel_rfl) rfl #[.int .i64 a0_0, .int .i64 2, .int .i64 6] rfl (by (try simp only [List.map_toArray, List.map_cons, List.map_nil]); first | done | rfl | (simp only [List.length_drop, List.length_take]; rfl)) ?_; (with_reducible refine (impl_InRange.calls a0_0 2 6 true _ A4.out).mono ?_); rintro e w' ⟨rfl, ⟨nd, rfl⟩⟩; refine ⟨_, rfl, ?_⟩) | (go_at_call 49; (with_reducible refine (impl_InRange.calls a0_1 2 6 false _ A6.out).mono ?_); rintro e w' ⟨rfl, ⟨nd, rfl⟩⟩))
     go_meet
     case rel => exact ⟨_, (true), z_g2, H', ⟨by first | omega | exact Nat.le_refl _⟩, ⟨z2_3⟩, ⟨z2_0⟩⟩
   ·replace c5 := Bool.eq_false_iff.mpr c5; subst c5; rw [if_neg (show ¬ (false = true) by decide)] at H
    have H' := Aside0.mk H
    clear H; obtain ⟨hcz10_0, hcz10_1, hcz10_2, hfz10_0, hfz10_1, hfz10_2⟩ := bc3_g0 BK101.out; go_wp2_with (first | ((with_reducible refine gate_callee (f := 49) rfl ?_); refine goesL_ (some 6) rfl rfl Try.func49 (by kernel_rfl) rfl #[.int .i64 a0_0, .int .i64 2, .int .i64 6] rfl (by (try simp only [List.map_toArray, List.map_cons, List.map_nil]); first | done | rfl | (simp only [List.length_drop, List.length_take]; rfl)) ?_; (with_reducible refine (impl_InRange.calls a0_0 2 6 false _ A4.out).mono ?_); rintro e w' ⟨rfl, ⟨nd, rfl⟩⟩; refine ⟨_, rfl, ?_⟩))
    go_meet
    case rel => exact ⟨_, (true), z_g2, H', ⟨by first | omega | exact Nat.le_refl _⟩, ⟨z2_3⟩, ⟨z2_0⟩⟩
  case rest =>
   clear HC2; try clear p2
   try clear c4
   try clear c5
   try clear c6
   try clear p6
   try clear c7
   try clear hcz10_0 hcz10_1 hcz10_2
   try clear hcz8_0 hcz8_1 hcz8_2
   try clear hcz9_0 hcz9_1 hcz9_2
   try clear hfz10_0 hfz10_1 hfz10_2
   try clear hfz8_0 hfz8_1 hfz8_2
   try clear hfz9_0 hfz9_1 hfz9_2
   obtain ⟨kq, x24_1, rfl, HA, HJ1, BK101, HB⟩ := hcut
   cases kq with
   | zero => exact absurd HA.out (by simp [impl_IsGrid.j0])
   | succ kj1 =>
    have H := HA.out; clear HA; simp only [impl_IsGrid.j0] at H; by_cases c11 : x24_1 = true
    ·subst c11; rw [if_pos rfl] at H
     obtain rfl := Option.some.inj H; go_wp2
     go_ret
     exact ⟨by first | rfl | (simp [errW_none, errW_some] <;> rfl) | (simp [*, errW_none, errW_some] <;> rfl), z2_0⟩
    ·replace c11 := Bool.eq_false_iff.mpr c11; subst c11; rw [if_neg (show ¬ (false = true) by decide)] at H
     have H' := Aside0.mk H
     clear H; obtain ⟨hcz12_0, hcz12_1, hcz12_2, hfz12_0, hfz12_1, hfz12_2⟩ := bc3_g0 BK101.out; go_wp2
     go_loopg [28] kj1 (fun kq v28 w' => ∃ (x28_2 : Int), v28 = .int .i64 x28_2 ∧ Aside0 (impl_IsGrid.l0 kq (a0_2.size : Int) x28_2 a0_0 a0_1 a0_2 = some r) ∧ Aside0 (kq ≤ kj1) ∧ Aside0 (w'.heap[gb101]? = some (.cells #[.int .i64 a0_0, .int .i64 a0_1, .string a0_2] 28 (0, 0))) ∧ Aside0 (Below w.heap.size w w'))
     case atStart => exact ⟨(0), z_g2, H', ⟨Nat.le_refl _⟩, ⟨z2_3⟩, ⟨z2_0⟩⟩
     case round =>
      clear H'; try clear c1
      try clear p2
      try clear c4
      try clear c5
      try clear c6
      try clear p6
      try clear c7
      try clear c11
      try clear hcz10_0 hcz10_1 hcz10_2
      try clear hcz12_0 hcz12_1 hcz12_2
      try clear hcz8_0 hcz8_1 hcz8_2
      try clear hcz9_0 hcz9_1 hcz9_2
      try clear hfz10_0 hfz10_1 hfz10_2
      try clear hfz12_0 hfz12_1 hfz12_2
      try clear hfz8_0 hfz8_1 hfz8_2
      try clear hfz9_0 hfz9_1 hfz9_2
      try clear p2
      try clear p6
      obtain ⟨x28_2, rfl, HA, HK2, BK101, HB⟩ := hrel
      cases gk with
      | zero => exact absurd HA.out (by simp [impl_IsGrid.l0])
      | succ k2 =>
       have H := HA.out; clear HA; simp only [impl_IsGrid.l0] at H; by_cases c13 : x28_2 < (a0_2.size : Int)
       ·rw [if_pos c13] at H
        have c13b0 := decide_eq_true c13; clear c13; by_cases c14 : 0 ≤ x28_2
        ·rw [if_pos c14] at H
         have c14b0 := decide_eq_true c14; clear c14; by_cases c15 : x28_2 < (a0_2.size : Int)
         ·rw [if_pos c15] at H
          have c15b0 := decide_eq_true c15; clear c15; by_cases c17 : (bt a0_2 x28_2) = 35
          ·rw [if_pos c17] at H
           have c17b0 : ((bt a0_2 x28_2) == 35) = true := beq_iff_eq.mpr c17; have c17b1 : ((bt a0_2 x28_2) != 35) = false := bne_eq_false_iff_eq.mpr c17; clear c17; have H' := Aside0.mk H
           clear H; obtain ⟨hcz18_0, hcz18_1, hcz18_2, hfz18_0, hfz18_1, hfz18_2⟩ := bc3_g0 BK101.out; have p16 : 0 ≤ (x28_2 : Int) := of_decide_eq_true z_g1; have q16 : x28_2 < (a0_2.size : Int) := of_decide_eq_true z_g1; have hx16 := bt_at a0_2 x28_2; replace p16 := eq_true p16; replace q16 := eq_true q16; go_wp2
           go_roundg k2
           case measure => have := HJ1.out; have := HK2.out; omega
           case rel => exact ⟨(wrap64 (x28_2 + 1)), z_g2, H', ⟨by have := HJ1.out; have := HK2.out; omega⟩, ⟨z2_3⟩, ⟨z2_0⟩⟩
          ·rw [if_neg c17] at H
           have c17b0 : ((bt a0_2 x28_2) == 35) = false := beq_eq_false_iff_ne.mpr c17; have c17b1 : ((bt a0_2 x28_2) != 35) = true := bne_iff_ne.mpr c17; by_cases c20 : (bt a0_2 x28_2) = 46
           ·rw [if_pos c20] at H
            have c20b0 : ((bt a0_2 x28_2) == 46) = true := beq_iff_eq.mpr c20; have c20b1 : ((bt a0_2 x28_2) != 46) = false := bne_eq_false_iff_eq.mpr c20; clear c20; have H' := Aside0.mk H
            clear H; obtain ⟨hcz21_0, hcz21_1, hcz21_2, hfz21_0, hfz21_1, hfz21_2⟩ := bc3_g0 BK101.out; have p16 : 0 ≤ (x28_2 : Int) := of_decide_eq_true z_g1; have q16 : x28_2 < (a0_2.size : Int) := of_decide_eq_true z_g1; have hx16 := bt_at a0_2 x28_2; replace p16 := eq_true p16; replace q16 := eq_true q16; have p19 : 0 ≤ (x28_2 : Int) := of_decide_eq_true z_g1; have q19 : x28_2 < (a0_2.size : Int) := of_decide_eq_true z_g1; have hx19 := bt_at a0_2 x28_2; replace p19 := eq_true p19; replace q19 := eq_true q19; go_wp2
            go_roundg k2
            case measure => have := HJ1.out; have := HK2.out; omega
            case rel => exact ⟨(wrap64 (x28_2 + 1)), z_g2, H', ⟨by have := HJ1.out; have := HK2.out; omega⟩, ⟨z2_3⟩, ⟨z2_0⟩⟩
           ·rw [if_neg c20] at H
            have c20b0 : ((bt a0_2 x28_2) == 46) = false := beq_eq_false_iff_ne.mpr c20; have c20b1 : ((bt a0_2 x28_2) != 46) = true := bne_iff_ne.mpr c20; obtain rfl := Option.some.inj H; obtain ⟨hcz22_0, hcz22_1, hcz22_2, hfz22_0, hfz22_1, hfz22_2⟩ := bc3_g0 BK101.out; have p16 : 0 ≤ (x28_2 : Int) := of_decide_eq_true z_g1; have q16 : x28_2 < (a0_2.size : Int) := of_decide_eq_true z_g1; have hx16 := bt_at a0_2 x28_2; replace p16 := eq_true p16; replace q16 := eq_true q16; have p19 : 0 ≤ (x28_2 : Int) := of_decide_eq_true z_g1; have q19 : x28_2 < (a0_2.size : Int) := of_decide_eq_true z_g1; have hx19 := bt_at a0_2 x28_2; replace p19 := eq_true p19; replace q19 := eq_true q19; go_wp2
            go_ret
            exact ⟨by first | rfl | (simp [errW_none, errW_some] <;> rfl) | (simp [*, errW_none, errW_some] <;> rfl), z2_0⟩
         ·rw [if_neg c15] at H
          exact absurd H (by simp)
        ·rw [if_neg c14] at H
         exact absurd H (by simp)
       ·rw [if_neg c13] at H
        have c13b0 := decide_eq_false c13; clear c13; obtain rfl := Option.some.inj H; go_wp2
        go_ret
        exact ⟨by first | rfl | (simp [errW_none, errW_some] <;> rfl) | (simp [*, errW_none, errW_some] <;> rfl), z2_0⟩

end Go.Proofs.Ytodcckiphdnjeaa.QFnPruned
