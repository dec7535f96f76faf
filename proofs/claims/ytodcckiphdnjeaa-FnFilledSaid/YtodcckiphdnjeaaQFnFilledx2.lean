-- Written by a changed copy of the kit's printer (wip/mp.py of this repo), for this claim; Lean checks it.
import Derived.Test.YtodcckiphdnjeaaQFnFilledx0
namespace Go.Proofs.Ytodcckiphdnjeaa.QFnFilled
open Go.RowKit Go.Proofs.YtodcckiphdnjeaaW.PrintWords Go.Proofs.YtodcckiphdnjeaaW.PrintLast Go.Proofs.YtodcckiphdnjeaaW.PrintMore
attribute [local go_sem] max2_int min2_int max_two min_two max_three min_three max_four min_four   -- for this text's walks alone
set_option linter.unusedVariables false
set_option linter.unusedSimpArgs false

theorem bc3_2_ {W : World} {g : Nat} {v0 v1 v2 : Value} {t : TypeId} (h : W.heap[g]? = some (.cells #[v0, v1, v2] t (0, 0))) : W.cell? ⟨g, 0, none⟩ = some v0 ∧ W.cell? ⟨g, 1, none⟩ = some v1 ∧ W.cell? ⟨g, 2, none⟩ = some v2 ∧ W.frozen? ⟨g, 0, none⟩ = false ∧ W.frozen? ⟨g, 1, none⟩ = false ∧ W.frozen? ⟨g, 2, none⟩ = false := ⟨(blk_cell h 0).trans rfl, (blk_cell h 1).trans rfl, (blk_cell h 2).trans rfl, blk_frozen h 0, blk_frozen h 1, blk_frozen h 2⟩
theorem bd2_ {p q : Prop} (h0 : q) (h : q → p := by intro h_; (with_reducible repeat (first | refine blk_drewN ?_ _ | refine blk_drew ?_ | refine blk_alloc ?_ _)); exact h_) : p := h h0
theorem z2_0 {p : Prop} (h : p := by repeat (first | (with_reducible first | exact HB.out | apply below_alloc | apply pw_below_drewN | apply below_drew1 | refine below_set ?_ GE104.out) | exact HB.out)) : p := h
theorem z2_1 {p : Prop} (h : p := by first | (with_reducible assumption) | assumption) : p := h
theorem z2_2 {p : Prop} (h : p := by repeat (first | (with_reducible first | exact HB.out | apply below_alloc | apply pw_below_drewN | apply below_drew1) | exact HB.out)) : p := h
theorem z2_3 {p : Prop} (h : p := by repeat (first | (with_reducible first | exact HB.out | apply below_alloc | apply pw_below_drewN | apply below_drew1 | refine below_set ?_ GE101.out) | exact HB.out)) : p := h
theorem z2_4 {p : Prop} (h : p := by first | rfl | (simp; done) | (simp [*]; done)) : p := h
theorem z2_5 {p : Prop} (h : p := by first | rfl | (simp [errW_none, errW_some] <;> rfl) | (simp [*, errW_none, errW_some] <;> rfl)) : p := h
theorem z2_6 {p : Prop} (h : p := by (with_reducible repeat (first | refine blk_drewN ?_ _ | refine blk_drew ?_ | refine blk_alloc ?_ _)); exact BK101.out) : p := h
theorem z2_7 {p : Prop} (h : p := by (with_reducible repeat (first | refine blk_drewN ?_ _ | refine blk_drew ?_ | refine blk_alloc ?_ _)); exact BK104.out) : p := h
/-! ### impl_InRange: function 49 -/
def impl_InRange.f (a0 : Int) (a1 : Int) (a2 : Int) : Option (Bool) := if a1 ≤ a0 then (some (decide (a0 ≤ a2))) else (some false)
set_option maxHeartbeats 8000000 in
set_option maxRecDepth 100000 in
theorem impl_InRange.calls (a0 : Int) (a1 : Int) (a2 : Int) (r : Bool) (w : World) (h : impl_InRange.f a0 a1 a2 = some r) :
   Calls Try.prog 49 #[.int .i64 a0, .int .i64 a1, .int .i64 a2] w fun e w' => e = .returned (.bool r) ∧ Drawn0 w w' := by
  have H : (if a1 ≤ a0 then (some (decide (a0 ≤ a2))) else (some false)) = some r := h; clear h; by_cases c4 : a1 ≤ a0
  ·rw [if_pos c4] at H
   have c4b0 : decide (a1 ≤ a0) = true := decide_eq_true c4; clear c4; obtain rfl := Option.some.inj H; go_enter Try.func49, Try.ntmps49
   go_wp2
   go_ret
   exact ⟨z2_4, by repeat (first | exact Drawn0.refl _ | apply Drawn0.step)⟩
  ·rw [if_neg c4] at H
   have c4b0 : decide (a1 ≤ a0) = false := decide_eq_false c4; clear c4; obtain rfl := Option.some.inj H; go_enter Try.func49, Try.ntmps49
   go_wp2
   go_ret
   exact ⟨z2_4, by repeat (first | exact Drawn0.refl _ | apply Drawn0.step)⟩

/-! ### impl_IsGrid: function 61 -/
mutual
def impl_IsGrid.j0 : Nat → Bool → Int → Int → ByteArray → Option (Bool)
  | 0, _, _, _, _ => none
  | k + 1, x24, x102000, x102001, x102002 => if x24 = true then (some false) else (impl_IsGrid.l0 k (x102002.size : Int) 0 x102000 x102001 x102002)
def impl_IsGrid.l0 : Nat → Int → Int → Int → Int → ByteArray → Option (Bool)
  | 0, _, _, _, _, _ => none
  | k + 1, x27, x28, x102000, x102001, x102002 => if x28 < x27 then (if 0 ≤ x28 then (if x28 < (x102002.size : Int) then (if (bt x102002 x28) = 35 then (impl_IsGrid.l0 k x27 (wrap64 (x28 + 1)) x102000 x102001 x102002) else (if (bt x102002 x28) = 46 then (impl_IsGrid.l0 k x27 (wrap64 (x28 + 1)) x102000 x102001 x102002) else (some false))) else (none)) else (none)) else (some true)
end
def impl_IsGrid.f (k : Nat) (a0_0 : Int) (a0_1 : Int) (a0_2 : ByteArray) : Option (Bool) := (impl_InRange.f a0_0 2 6).bind fun t102 => (if t102 = true then ((impl_InRange.f a0_1 2 6).bind fun t103 => (if t103 = true then (impl_IsGrid.j0 k ((a0_2.size : Int) != (wrap64 (a0_0 * a0_1))) a0_0 a0_1 a0_2) else (impl_IsGrid.j0 k true a0_0 a0_1 a0_2))) else (impl_IsGrid.j0 k true a0_0 a0_1 a0_2))
theorem impl_IsGrid.mono_l : ∀ k, (∀ y0 y1 y2 y3, LeO (impl_IsGrid.j0 k y0 y1 y2 y3) (impl_IsGrid.j0 (k + 1) y0 y1 y2 y3)) ∧ (∀ y0 y1 y2 y3 y4, LeO (impl_IsGrid.l0 k y0 y1 y2 y3 y4) (impl_IsGrid.l0 (k + 1) y0 y1 y2 y3 y4))
  | 0 => ⟨fun _ _ _ _ r h => by simp [impl_IsGrid.j0] at h, fun _ _ _ _ _ r h => by simp [impl_IsGrid.l0] at h⟩
  | k + 1 => by
   obtain ⟨ih0, ih1⟩ := impl_IsGrid.mono_l k; refine ⟨?_, ?_⟩
   ·intro y0 y1 y2 y3
    unfold impl_IsGrid.j0
    with_reducible repeat' first
    | exact ih0 _ _ _ _
    | exact ih1 _ _ _ _ _
    | exact LeO.refl _
    | exact LeO.none _
    | refine LeO.ite ?_ ?_
    | refine LeO.bind ?_ (fun _ => ?_)
   ·intro y0 y1 y2 y3 y4
    unfold impl_IsGrid.l0
    with_reducible repeat' first
    | exact ih0 _ _ _ _
    | exact ih1 _ _ _ _ _
    | exact LeO.refl _
    | exact LeO.none _
    | refine LeO.ite ?_ ?_
    | refine LeO.bind ?_ (fun _ => ?_)
theorem impl_IsGrid.mono : ∀ a0 a1 a2 k, LeO (impl_IsGrid.f k a0 a1 a2) (impl_IsGrid.f (k + 1) a0 a1 a2) := by
  intro a0 a1 a2 k
  obtain ⟨ih0, ih1⟩ := impl_IsGrid.mono_l k; unfold impl_IsGrid.f
  with_reducible repeat' first
  | exact ih0 _ _ _ _
  | exact ih1 _ _ _ _ _
  | exact LeO.refl _
  | exact LeO.none _
  | refine LeO.ite ?_ ?_
  | refine LeO.bind ?_ (fun _ => ?_)
set_option maxHeartbeats 8000000 in
set_option maxRecDepth 100000 in
theorem impl_IsGrid.calls (k : Nat) (a0_0 : Int) (a0_1 : Int) (a0_2 : ByteArray) (r : Bool) (w : World) (h : impl_IsGrid.f k a0_0 a0_1 a0_2 = some r) :
   Calls Try.prog 61 #[.agg #[.int .i64 a0_0, .int .i64 a0_1, .string a0_2]] w fun e w' => e = .returned (.bool r) ∧ Below w.heap.size w w' := by
  have hu28 := Try.underlying28; have HB := Aside0.mk (Below.refl w.heap.size w); have H : ((impl_InRange.f a0_0 2 6).bind fun t102 => (if t102 = true then ((impl_InRange.f a0_1 2 6).bind fun t103 => (if t103 = true then (impl_IsGrid.j0 k ((a0_2.size : Int) != (wrap64 (a0_0 * a0_1))) a0_0 a0_1 a0_2) else (impl_IsGrid.j0 k true a0_0 a0_1 a0_2))) else (impl_IsGrid.j0 k true a0_0 a0_1 a0_2))) = some r := h; clear h; have HC2 := Aside0.mk H; clear H; go_enter Try.func61, Try.ntmps61
  go_upto_region 1 with (first | ((with_reducible refine gate_dst (N := 1) rfl ?_); (try (refine gate_guard (by rfl) ?_; dsimp only)); refine box_event ?hg (N := 1) ?hd (cs := #[.int .i64 a0_0, .int .i64 a0_1, .string a0_2]) (t := 28) ?hr ?_; (case hd => rfl); (case hg => rfl); (case hr => first | (go_simp; done) | (go_simp; rfl)); intro gb101 hg w3 hbox hb; have BK101 := Aside0.mk (hbox); have GW101 := Aside0.mk ((by rw [hg]; exact (below_size z2_2) : w.heap.size ≤ gb101)); have GE101 := Aside0.mk ((by rw [hg]; exact (below_size z2_2) : w.heap.size ≤ gb101)); replace HB := Aside0.mk (below_step z2_2 hb); clear hb hbox hg))
  (try simp only [Act.put, List.setIfInBounds_toArray, List.set_cons_zero, List.set_cons_succ])
  go_cut [24] (fun v24 wc => ∃ (kq : Nat) (x24_1 : Bool), v24 = .bool x24_1 ∧ Aside0 (impl_IsGrid.j0 kq x24_1 a0_0 a0_1 a0_2 = some r) ∧ Aside0 (kq ≤ k) ∧ Aside0 (wc.heap[gb101]? = some (.cells #[.int .i64 a0_0, .int .i64 a0_1, .string a0_2] 28 (0, 0))) ∧ Aside0 (Below w.heap.size w wc))
  case first =>
   have H := HC2.out; clear HC2; replace H := Option.bind_eq_some_iff.mp H; obtain ⟨t102, A40, H⟩ := H; try dsimp only at H
   have A4 := Aside0.mk A40; clear A40; by_cases c5 : t102 = true
   ·subst c5; rw [if_pos rfl] at H
    replace H := Option.bind_eq_some_iff.mp H; obtain ⟨t103, A60, H⟩ := H; try dsimp only at H
    have A6 := Aside0.mk A60; clear A60; by_cases c7 : t103 = true
    ·subst c7; rw [if_pos rfl] at H
     have H' := Aside0.mk H
     clear H; obtain ⟨hcz8_0, hcz8_1, hcz8_2, hfz8_0, hfz8_1, hfz8_2⟩ := bc3_2_ BK101.out; go_wp2_with (first | ((with_reducible refine gate_callee (f := 49) rfl ?_); refine goesL_ (some 6) rfl rfl Try.func49 (by kernel_rfl) rfl #[.int .i64 a0_0, .int .i64 2, .int .i64 6] rfl (by (try simp only [List.map_toArray, List.map_cons, List.map_nil]); first | done | rfl | (simp only [List.length_drop, List.length_take]; rfl)) ?_; (with_reducible refine (impl_InRange.calls a0_0 2 6 true _ A4.out).mono ?_); rintro e w' ⟨rfl, ⟨nd, rfl⟩⟩; refine ⟨_, rfl, ?_⟩) | (go_at_call 49; (with_reducible refine (impl_InRange.calls a0_1 2 6 true _ A6.out).mono ?_); rintro e w' ⟨rfl, ⟨nd, rfl⟩⟩))
     go_meet
     case rel => exact ⟨_, (((a0_2.size : Int) != (wrap64 (a0_0 * a0_1)))), z2_4, H', ⟨by first | omega | exact Nat.le_refl _⟩, ⟨z2_6⟩, ⟨z2_3⟩⟩
    ·replace c7 := Bool.eq_false_iff.mpr c7; subst c7; rw [if_neg (show ¬ (false = true) by decide)] at H
     have H' := Aside0.mk H
     clear H; obtain ⟨hcz9_0, hcz9_1, hcz9_2, hfz9_0, hfz9_1, hfz9_2⟩ := bc3_2_ BK101.out; go_wp2_with (first | ((with_reducible refine gate_callee (f := 49) rfl ?_); refine goesL_ (some 6) rfl rfl Try.func49 (by kernel_rfl) rfl #[.int .i64 a0_0, .int .i64 2, .int .i64 6] rfl (by (try simp only [List.map_toArray, List.map_cons, List.map_nil]); first | done | rfl | (simp only [List.length_drop, List.length_take]; rfl)) ?_; (with_reducible refine (impl_InRange.calls a0_0 2 6 true _ A4.out).mono ?_); rintro e w' ⟨rfl, ⟨nd, rfl⟩⟩; refine ⟨_, rfl, ?_⟩) | (go_at_call 49; (with_reducible refine (impl_InRange.calls a0_1 2 6 false _ A6.out).mono ?_); rintro e w' ⟨rfl, ⟨nd, rfl⟩⟩))
     go_meet
     case rel => exact ⟨_, (true), z2_4, H', ⟨by first | omega | exact Nat.le_refl _⟩, ⟨z2_6⟩, ⟨z2_3⟩⟩
   ·replace c5 := Bool.eq_false_iff.mpr c5; subst c5; rw [if_neg (show ¬ (false = true) by decide)] at H
    have H' := Aside0.mk H
    clear H; obtain ⟨hcz10_0, hcz10_1, hcz10_2, hfz10_0, hfz10_1, hfz10_2⟩ := bc3_2_ BK101.out; go_wp2_with (first | ((with_reducible refine gate_callee (f := 49) rfl ?_); refine goesL_ (some 6) rfl rfl Try.func49 (by kernel_rfl) rfl #[.int .i64 a0_0, .int .i64 2, .int .i64 6] rfl (by (try simp only [List.map_toArray, List.map_cons, List.map_nil]); first | done | rfl | (simp only [List.length_drop, List.length_take]; rfl)) ?_; (with_reducible refine (impl_InRange.calls a0_0 2 6 false _ A4.out).mono ?_); rintro e w' ⟨rfl, ⟨nd, rfl⟩⟩; refine ⟨_, rfl, ?_⟩))
    go_meet
    case rel => exact ⟨_, (true), z2_4, H', ⟨by first | omega | exact Nat.le_refl _⟩, ⟨z2_6⟩, ⟨z2_3⟩⟩
  case rest =>
   clear HC2; try clear p2
   try clear c4
   try clear c5
   try clear c6
   try clear p6
   try clear c7
   try clear hcz10_0
   try clear hcz10_1
   try clear hcz10_2
   try clear hcz8_0
   try clear hcz8_1
   try clear hcz8_2
   try clear hcz9_0
   try clear hcz9_1
   try clear hcz9_2
   try clear hfz10_0
   try clear hfz10_1
   try clear hfz10_2
   try clear hfz8_0
   try clear hfz8_1
   try clear hfz8_2
   try clear hfz9_0
   try clear hfz9_1
   try clear hfz9_2
   obtain ⟨kq, x24_1, rfl, HA, HJ1, BK101, HB⟩ := hcut
   cases kq with
   | zero => exact absurd HA.out (by simp [impl_IsGrid.j0])
   | succ kj1 =>
    have H := HA.out; clear HA; simp only [impl_IsGrid.j0] at H; by_cases c11 : x24_1 = true
    ·subst c11; rw [if_pos rfl] at H
     obtain rfl := Option.some.inj H; go_wp2
     go_ret
     exact ⟨z2_5, z2_3⟩
    ·replace c11 := Bool.eq_false_iff.mpr c11; subst c11; rw [if_neg (show ¬ (false = true) by decide)] at H
     have H' := Aside0.mk H
     clear H; obtain ⟨hcz12_0, hcz12_1, hcz12_2, hfz12_0, hfz12_1, hfz12_2⟩ := bc3_2_ BK101.out; go_wp2
     go_loopg [28] kj1 (fun kq v28 w' => ∃ (x28_2 : Int), v28 = .int .i64 x28_2 ∧ Aside0 (impl_IsGrid.l0 kq (a0_2.size : Int) x28_2 a0_0 a0_1 a0_2 = some r) ∧ Aside0 (kq ≤ kj1) ∧ Aside0 (w'.heap[gb101]? = some (.cells #[.int .i64 a0_0, .int .i64 a0_1, .string a0_2] 28 (0, 0))) ∧ Aside0 (Below w.heap.size w w'))
     case atStart => exact ⟨(0), z2_4, H', ⟨Nat.le_refl _⟩, ⟨z2_6⟩, ⟨z2_3⟩⟩
     case round =>
      clear H'; try clear c1
      try clear p2
      try clear c4
      try clear c5
      try clear c6
      try clear p6
      try clear c7
      try clear c11
      try clear hcz10_0
      try clear hcz10_1
      try clear hcz10_2
      try clear hcz12_0
      try clear hcz12_1
      try clear hcz12_2
      try clear hcz8_0
      try clear hcz8_1
      try clear hcz8_2
      try clear hcz9_0
      try clear hcz9_1
      try clear hcz9_2
      try clear hfz10_0
      try clear hfz10_1
      try clear hfz10_2
      try clear hfz12_0
      try clear hfz12_1
      try clear hfz12_2
      try clear hfz8_0
      try clear hfz8_1
      try clear hfz8_2
      try clear hfz9_0
      try clear hfz9_1
      try clear hfz9_2
      try clear p2
      try clear p6
      obtain ⟨x28_2, rfl, HA, HK2, BK101, HB⟩ := hrel
      cases gk with
      | zero => exact absurd HA.out (by simp [impl_IsGrid.l0])
      | succ k2 =>
       have H := HA.out; clear HA; simp only [impl_IsGrid.l0] at H; by_cases c13 : x28_2 < (a0_2.size : Int)
       ·rw [if_pos c13] at H
        have c13b0 : decide (x28_2 < (a0_2.size : Int)) = true := decide_eq_true c13; clear c13; by_cases c14 : 0 ≤ x28_2
        ·rw [if_pos c14] at H
         have c14b0 : decide (0 ≤ x28_2) = true := decide_eq_true c14; clear c14; by_cases c15 : x28_2 < (a0_2.size : Int)
         ·rw [if_pos c15] at H
          have c15b0 : decide (x28_2 < (a0_2.size : Int)) = true := decide_eq_true c15; clear c15; by_cases c17 : (bt a0_2 x28_2) = 35
          ·rw [if_pos c17] at H
           have c17b0 : ((bt a0_2 x28_2) == 35) = true := beq_iff_eq.mpr c17; have c17b1 : ((bt a0_2 x28_2) != 35) = false := bne_eq_false_iff_eq.mpr c17; clear c17; have H' := Aside0.mk H
           clear H; obtain ⟨hcz18_0, hcz18_1, hcz18_2, hfz18_0, hfz18_1, hfz18_2⟩ := bc3_2_ BK101.out; have p16 : 0 ≤ (x28_2 : Int) := of_decide_eq_true z2_1; have q16 : x28_2 < (a0_2.size : Int) := of_decide_eq_true z2_1; have hx16 := bt_at a0_2 x28_2; replace p16 := eq_true p16; replace q16 := eq_true q16; go_wp2
           go_roundg k2
           case measure => have := HJ1.out; have := HK2.out; omega
           case rel => exact ⟨(wrap64 (x28_2 + 1)), z2_4, H', ⟨by have := HJ1.out; have := HK2.out; omega⟩, ⟨z2_6⟩, ⟨z2_3⟩⟩
          ·rw [if_neg c17] at H
           have c17b0 : ((bt a0_2 x28_2) == 35) = false := beq_eq_false_iff_ne.mpr c17; have c17b1 : ((bt a0_2 x28_2) != 35) = true := bne_iff_ne.mpr c17; by_cases c20 : (bt a0_2 x28_2) = 46
           ·rw [if_pos c20] at H
            have c20b0 : ((bt a0_2 x28_2) == 46) = true := beq_iff_eq.mpr c20; have c20b1 : ((bt a0_2 x28_2) != 46) = false := bne_eq_false_iff_eq.mpr c20; clear c20; have H' := Aside0.mk H
            clear H; obtain ⟨hcz21_0, hcz21_1, hcz21_2, hfz21_0, hfz21_1, hfz21_2⟩ := bc3_2_ BK101.out; have p16 : 0 ≤ (x28_2 : Int) := of_decide_eq_true z2_1; have q16 : x28_2 < (a0_2.size : Int) := of_decide_eq_true z2_1; have hx16 := bt_at a0_2 x28_2; replace p16 := eq_true p16; replace q16 := eq_true q16; have p19 : 0 ≤ (x28_2 : Int) := of_decide_eq_true z2_1; have q19 : x28_2 < (a0_2.size : Int) := of_decide_eq_true z2_1; have hx19 := bt_at a0_2 x28_2; replace p19 := eq_true p19; replace q19 := eq_true q19; go_wp2
            go_roundg k2
            case measure => have := HJ1.out; have := HK2.out; omega
            case rel => exact ⟨(wrap64 (x28_2 + 1)), z2_4, H', ⟨by have := HJ1.out; have := HK2.out; omega⟩, ⟨z2_6⟩, ⟨z2_3⟩⟩
           ·rw [if_neg c20] at H
            have c20b0 : ((bt a0_2 x28_2) == 46) = false := beq_eq_false_iff_ne.mpr c20; have c20b1 : ((bt a0_2 x28_2) != 46) = true := bne_iff_ne.mpr c20; obtain rfl := Option.some.inj H; obtain ⟨hcz22_0, hcz22_1, hcz22_2, hfz22_0, hfz22_1, hfz22_2⟩ := bc3_2_ BK101.out; have p16 : 0 ≤ (x28_2 : Int) := of_decide_eq_true z2_1; have q16 : x28_2 < (a0_2.size : Int) := of_decide_eq_true z2_1; have hx16 := bt_at a0_2 x28_2; replace p16 := eq_true p16; replace q16 := eq_true q16; have p19 : 0 ≤ (x28_2 : Int) := of_decide_eq_true z2_1; have q19 : x28_2 < (a0_2.size : Int) := of_decide_eq_true z2_1; have hx19 := bt_at a0_2 x28_2; replace p19 := eq_true p19; replace q19 := eq_true q19; go_wp2
            go_ret
            exact ⟨z2_5, z2_3⟩
         ·rw [if_neg c15] at H
          exact absurd H (by simp)
        ·rw [if_neg c14] at H
         exact absurd H (by simp)
       ·rw [if_neg c13] at H
        have c13b0 : decide (x28_2 < (a0_2.size : Int)) = false := decide_eq_false c13; clear c13; obtain rfl := Option.some.inj H; go_wp2
        go_ret
        exact ⟨z2_5, z2_3⟩

/-! ### impl_isLetter: function 77 -/
def impl_isLetter.f (a0 : Int) : Option (Bool) := if a0 ≥ 97 then (some (decide (a0 ≤ 122))) else (some false)
set_option maxHeartbeats 8000000 in
set_option maxRecDepth 100000 in
theorem impl_isLetter.calls (a0 : Int) (r : Bool) (w : World) (h : impl_isLetter.f a0 = some r) :
   Calls Try.prog 77 #[.int .u8 a0] w fun e w' => e = .returned (.bool r) ∧ Drawn0 w w' := by
  have H : (if a0 ≥ 97 then (some (decide (a0 ≤ 122))) else (some false)) = some r := h; clear h; by_cases c2 : a0 ≥ 97
  ·rw [if_pos c2] at H
   have c2b0 : decide (97 ≤ a0) = true := decide_eq_true c2; clear c2; obtain rfl := Option.some.inj H; go_enter Try.func77, Try.ntmps77
   go_wp2
   go_ret
   exact ⟨z2_4, by repeat (first | exact Drawn0.refl _ | apply Drawn0.step)⟩
  ·rw [if_neg c2] at H
   have c2b0 : decide (97 ≤ a0) = false := decide_eq_false c2; clear c2; obtain rfl := Option.some.inj H; go_enter Try.func77, Try.ntmps77
   go_wp2
   go_ret
   exact ⟨z2_4, by repeat (first | exact Drawn0.refl _ | apply Drawn0.step)⟩

/-! ### impl_IsFill: function 39 -/
mutual
def impl_IsFill.j0 : Nat → ByteArray → Bool → Int → Int → ByteArray → Option (Bool)
  | 0, _, _, _, _, _ => none
  | k + 1, x1, x16, x105000, x105001, x105002 => if x16 = true then (some false) else (impl_IsFill.l0 k x1 (x1.size : Int) 0 x105000 x105001 x105002)
def impl_IsFill.l0 : Nat → ByteArray → Int → Int → Int → Int → ByteArray → Option (Bool)
  | 0, _, _, _, _, _, _ => none
  | k + 1, x1, x18, x19, x105000, x105001, x105002 => if x19 < x18 then (if 0 ≤ x19 then (if x19 < (x105002.size : Int) then (if x19 < (x1.size : Int) then (if (bt x105002 x19) = 35 then (if (bt x1 x19) = 35 then (impl_IsFill.l0 k x1 x18 (wrap64 (x19 + 1)) x105000 x105001 x105002) else (some false)) else (if (bt x1 x19) = 35 then (some false) else (if (bt x1 x19) = 63 then (impl_IsFill.l0 k x1 x18 (wrap64 (x19 + 1)) x105000 x105001 x105002) else ((impl_isLetter.f (bt x1 x19)).bind fun t106 => (if t106 = true then (impl_IsFill.l0 k x1 x18 (wrap64 (x19 + 1)) x105000 x105001 x105002) else (some false)))))) else (none)) else (none)) else (none)) else (some true)
end
def impl_IsFill.f (k : Nat) (a0_0 : Int) (a0_1 : Int) (a0_2 : ByteArray) (a1 : ByteArray) : Option (Bool) := (impl_IsGrid.f k a0_0 a0_1 a0_2).bind fun t105 => (if t105 = true then (impl_IsFill.j0 k a1 ((a1.size : Int) != (a0_2.size : Int)) a0_0 a0_1 a0_2) else (impl_IsFill.j0 k a1 true a0_0 a0_1 a0_2))
theorem impl_IsFill.mono_l : ∀ k, (∀ y0 y1 y2 y3 y4, LeO (impl_IsFill.j0 k y0 y1 y2 y3 y4) (impl_IsFill.j0 (k + 1) y0 y1 y2 y3 y4)) ∧ (∀ y0 y1 y2 y3 y4 y5, LeO (impl_IsFill.l0 k y0 y1 y2 y3 y4 y5) (impl_IsFill.l0 (k + 1) y0 y1 y2 y3 y4 y5))
  | 0 => ⟨fun _ _ _ _ _ r h => by simp [impl_IsFill.j0] at h, fun _ _ _ _ _ _ r h => by simp [impl_IsFill.l0] at h⟩
  | k + 1 => by
   obtain ⟨ih0, ih1⟩ := impl_IsFill.mono_l k; refine ⟨?_, ?_⟩
   ·intro y0 y1 y2 y3 y4
    unfold impl_IsFill.j0
    with_reducible repeat' first
    | exact ih0 _ _ _ _ _
    | exact ih1 _ _ _ _ _ _
    | exact impl_IsGrid.mono _ _ _ _
    | exact LeO.refl _
    | exact LeO.none _
    | refine LeO.ite ?_ ?_
    | refine LeO.bind ?_ (fun _ => ?_)
   ·intro y0 y1 y2 y3 y4 y5
    unfold impl_IsFill.l0
    with_reducible repeat' first
    | exact ih0 _ _ _ _ _
    | exact ih1 _ _ _ _ _ _
    | exact impl_IsGrid.mono _ _ _ _
    | exact LeO.refl _
    | exact LeO.none _
    | refine LeO.ite ?_ ?_
    | refine LeO.bind ?_ (fun _ => ?_)
theorem impl_IsFill.mono : ∀ a0 a1 a2 a3 k, LeO (impl_IsFill.f k a0 a1 a2 a3) (impl_IsFill.f (k + 1) a0 a1 a2 a3) := by
  intro a0 a1 a2 a3 k
  obtain ⟨ih0, ih1⟩ := impl_IsFill.mono_l k; unfold impl_IsFill.f
  with_reducible repeat' first
  | exact ih0 _ _ _ _ _
  | exact ih1 _ _ _ _ _ _
  | exact impl_IsGrid.mono _ _ _ _
  | exact LeO.refl _
  | exact LeO.none _
  | refine LeO.ite ?_ ?_
  | refine LeO.bind ?_ (fun _ => ?_)
set_option maxHeartbeats 8000000 in
set_option maxRecDepth 100000 in
theorem impl_IsFill.calls (k : Nat) (a0_0 : Int) (a0_1 : Int) (a0_2 : ByteArray) (a1 : ByteArray) (r : Bool) (w : World) (h : impl_IsFill.f k a0_0 a0_1 a0_2 a1 = some r) :
   Calls Try.prog 39 #[.agg #[.int .i64 a0_0, .int .i64 a0_1, .string a0_2], .string a1] w fun e w' => e = .returned (.bool r) ∧ Below w.heap.size w w' := by
  have hu28 := Try.underlying28; have HB := Aside0.mk (Below.refl w.heap.size w); have H : ((impl_IsGrid.f k a0_0 a0_1 a0_2).bind fun t105 => (if t105 = true then (impl_IsFill.j0 k a1 ((a1.size : Int) != (a0_2.size : Int)) a0_0 a0_1 a0_2) else (impl_IsFill.j0 k a1 true a0_0 a0_1 a0_2))) = some r := h; clear h; have HC3 := Aside0.mk H; clear H; go_enter Try.func39, Try.ntmps39
  go_upto_region 1 with (first | ((with_reducible refine gate_dst (N := 2) rfl ?_); (try (refine gate_guard (by rfl) ?_; dsimp only)); refine box_event ?hg (N := 2) ?hd (cs := #[.int .i64 a0_0, .int .i64 a0_1, .string a0_2]) (t := 28) ?hr ?_; (case hd => rfl); (case hg => rfl); (case hr => first | (go_simp; done) | (go_simp; rfl)); intro gb104 hg w4 hbox hb; have BK104 := Aside0.mk (hbox); have GW104 := Aside0.mk ((by rw [hg]; exact (below_size z2_2) : w.heap.size ≤ gb104)); have GE104 := Aside0.mk ((by rw [hg]; exact (below_size z2_2) : w.heap.size ≤ gb104)); replace HB := Aside0.mk (below_step z2_2 hb); clear hb hbox hg))
  repeat (go_quiet (first | ((with_reducible refine gate_dst (N := 2) rfl ?_); (try (refine gate_guard (by rfl) ?_; dsimp only)); refine box_event ?hg (N := 2) ?hd (cs := #[.int .i64 a0_0, .int .i64 a0_1, .string a0_2]) (t := 28) ?hr ?_; (case hd => rfl); (case hg => rfl); (case hr => first | (go_simp; done) | (go_simp; rfl)); intro gb104 hg w4 hbox hb; have BK104 := Aside0.mk (hbox); have GW104 := Aside0.mk ((by rw [hg]; exact (below_size z2_2) : w.heap.size ≤ gb104)); have GE104 := Aside0.mk ((by rw [hg]; exact (below_size z2_2) : w.heap.size ≤ gb104)); replace HB := Aside0.mk (below_step z2_2 hb); clear hb hbox hg)); go_upto_region 1 with (first | ((with_reducible refine gate_dst (N := 2) rfl ?_); (try (refine gate_guard (by rfl) ?_; dsimp only)); refine box_event ?hg (N := 2) ?hd (cs := #[.int .i64 a0_0, .int .i64 a0_1, .string a0_2]) (t := 28) ?hr ?_; (case hd => rfl); (case hg => rfl); (case hr => first | (go_simp; done) | (go_simp; rfl)); intro gb104 hg w4 hbox hb; have BK104 := Aside0.mk (hbox); have GW104 := Aside0.mk ((by rw [hg]; exact (below_size z2_2) : w.heap.size ≤ gb104)); have GE104 := Aside0.mk ((by rw [hg]; exact (below_size z2_2) : w.heap.size ≤ gb104)); replace HB := Aside0.mk (below_step z2_2 hb); clear hb hbox hg)))
  (try simp only [Act.put, List.setIfInBounds_toArray, List.set_cons_zero, List.set_cons_succ])
  go_cut [16] (fun v16 wc => ∃ (kq : Nat) (x16_2 : Bool), v16 = .bool x16_2 ∧ Aside0 (impl_IsFill.j0 kq a1 x16_2 a0_0 a0_1 a0_2 = some r) ∧ Aside0 (kq ≤ k) ∧ Aside0 (wc.heap[gb104]? = some (.cells #[.int .i64 a0_0, .int .i64 a0_1, .string a0_2] 28 (0, 0))) ∧ Aside0 (Below w.heap.size w wc))
  case first =>
   have H := HC3.out; clear HC3; replace H := Option.bind_eq_some_iff.mp H; obtain ⟨t105, A50, H⟩ := H; try dsimp only at H
   have A5 := Aside0.mk A50; clear A50; by_cases c6 : t105 = true
   ·subst c6; rw [if_pos rfl] at H
    have H' := Aside0.mk H
    clear H; obtain ⟨hcz7_0, hcz7_1, hcz7_2, hfz7_0, hfz7_1, hfz7_2⟩ := bc3_2_ BK104.out; go_wp2_with (first | (go_at_call 61; (with_reducible refine (impl_IsGrid.calls k a0_0 a0_1 a0_2 true _ A5.out).mono ?_); rintro e w8 ⟨rfl, hb⟩; replace BK104 := Aside0.mk (blk_below (g := gb104) (o := .cells #[.int .i64 a0_0, .int .i64 a0_1, .string a0_2] 28 (0, 0)) (bd2_ BK104.out) hb); replace HB := Aside0.mk (below_step z2_0 hb); (try clear hb); obtain ⟨hcz9_0, hcz9_1, hcz9_2, hfz9_0, hfz9_1, hfz9_2⟩ := bc3_2_ BK104.out))
    repeat (go_quiet (first | (go_at_call 61; (with_reducible refine (impl_IsGrid.calls k a0_0 a0_1 a0_2 true _ A5.out).mono ?_); rintro e w8 ⟨rfl, hb⟩; replace BK104 := Aside0.mk (blk_below (g := gb104) (o := .cells #[.int .i64 a0_0, .int .i64 a0_1, .string a0_2] 28 (0, 0)) (bd2_ BK104.out) hb); replace HB := Aside0.mk (below_step z2_0 hb); (try clear hb); obtain ⟨hcz9_0, hcz9_1, hcz9_2, hfz9_0, hfz9_1, hfz9_2⟩ := bc3_2_ BK104.out)); try go_wp2_with (first | (go_at_call 61; (with_reducible refine (impl_IsGrid.calls k a0_0 a0_1 a0_2 true _ A5.out).mono ?_); rintro e w8 ⟨rfl, hb⟩; replace BK104 := Aside0.mk (blk_below (g := gb104) (o := .cells #[.int .i64 a0_0, .int .i64 a0_1, .string a0_2] 28 (0, 0)) (bd2_ BK104.out) hb); replace HB := Aside0.mk (below_step z2_0 hb); (try clear hb); obtain ⟨hcz9_0, hcz9_1, hcz9_2, hfz9_0, hfz9_1, hfz9_2⟩ := bc3_2_ BK104.out)))
    go_meet
    case rel => exact ⟨_, (((a1.size : Int) != (a0_2.size : Int))), z2_4, H', ⟨by first | omega | exact Nat.le_refl _⟩, ⟨z2_7⟩, ⟨z2_0⟩⟩
   ·replace c6 := Bool.eq_false_iff.mpr c6; subst c6; rw [if_neg (show ¬ (false = true) by decide)] at H
    have H' := Aside0.mk H
    clear H; obtain ⟨hcz10_0, hcz10_1, hcz10_2, hfz10_0, hfz10_1, hfz10_2⟩ := bc3_2_ BK104.out; go_wp2_with (first | (go_at_call 61; (with_reducible refine (impl_IsGrid.calls k a0_0 a0_1 a0_2 false _ A5.out).mono ?_); rintro e w11 ⟨rfl, hb⟩; replace BK104 := Aside0.mk (blk_below (g := gb104) (o := .cells #[.int .i64 a0_0, .int .i64 a0_1, .string a0_2] 28 (0, 0)) (bd2_ BK104.out) hb); replace HB := Aside0.mk (below_step z2_0 hb); (try clear hb)))
    repeat (go_quiet (first | (go_at_call 61; (with_reducible refine (impl_IsGrid.calls k a0_0 a0_1 a0_2 false _ A5.out).mono ?_); rintro e w11 ⟨rfl, hb⟩; replace BK104 := Aside0.mk (blk_below (g := gb104) (o := .cells #[.int .i64 a0_0, .int .i64 a0_1, .string a0_2] 28 (0, 0)) (bd2_ BK104.out) hb); replace HB := Aside0.mk (below_step z2_0 hb); (try clear hb))); try go_wp2_with (first | (go_at_call 61; (with_reducible refine (impl_IsGrid.calls k a0_0 a0_1 a0_2 false _ A5.out).mono ?_); rintro e w11 ⟨rfl, hb⟩; replace BK104 := Aside0.mk (blk_below (g := gb104) (o := .cells #[.int .i64 a0_0, .int .i64 a0_1, .string a0_2] 28 (0, 0)) (bd2_ BK104.out) hb); replace HB := Aside0.mk (below_step z2_0 hb); (try clear hb))))
    go_meet
    case rel => exact ⟨_, (true), z2_4, H', ⟨by first | omega | exact Nat.le_refl _⟩, ⟨z2_7⟩, ⟨z2_0⟩⟩
  case rest =>
   clear HC3; try clear p2
   try clear c3
   try clear c6
   try clear hcz10_0
   try clear hcz10_1
   try clear hcz10_2
   try clear hcz7_0
   try clear hcz7_1
   try clear hcz7_2
   try clear hcz9_0
   try clear hcz9_1
   try clear hcz9_2
   try clear hfz10_0
   try clear hfz10_1
   try clear hfz10_2
   try clear hfz7_0
   try clear hfz7_1
   try clear hfz7_2
   try clear hfz9_0
   try clear hfz9_1
   try clear hfz9_2
   obtain ⟨kq, x16_2, rfl, HA, HJ2, BK104, HB⟩ := hcut
   cases kq with
   | zero => exact absurd HA.out (by simp [impl_IsFill.j0])
   | succ kj2 =>
    have H := HA.out; clear HA; simp only [impl_IsFill.j0] at H; by_cases c12 : x16_2 = true
    ·subst c12; rw [if_pos rfl] at H
     obtain rfl := Option.some.inj H; go_wp2
     repeat (go_quiet (fail); try go_wp2)
     go_ret
     exact ⟨z2_5, z2_0⟩
    ·replace c12 := Bool.eq_false_iff.mpr c12; subst c12; rw [if_neg (show ¬ (false = true) by decide)] at H
     have H' := Aside0.mk H
     clear H; go_wp2
     repeat (go_quiet (fail); try go_wp2)
     go_loopg [19] kj2 (fun kq v19 w' => ∃ (x19_2 : Int), v19 = .int .i64 x19_2 ∧ Aside0 (impl_IsFill.l0 kq a1 (a1.size : Int) x19_2 a0_0 a0_1 a0_2 = some r) ∧ Aside0 (kq ≤ kj2) ∧ Aside0 (w'.heap[gb104]? = some (.cells #[.int .i64 a0_0, .int .i64 a0_1, .string a0_2] 28 (0, 0))) ∧ Aside0 (Below w.heap.size w w'))
     case atStart => exact ⟨(0), z2_4, H', ⟨Nat.le_refl _⟩, ⟨z2_7⟩, ⟨z2_0⟩⟩
     case round =>
      clear H'; try clear c1
      try clear p2
      try clear c3
      try clear c6
      try clear c12
      try clear hcz10_0
      try clear hcz10_1
      try clear hcz10_2
      try clear hcz7_0
      try clear hcz7_1
      try clear hcz7_2
      try clear hcz9_0
      try clear hcz9_1
      try clear hcz9_2
      try clear hfz10_0
      try clear hfz10_1
      try clear hfz10_2
      try clear hfz7_0
      try clear hfz7_1
      try clear hfz7_2
      try clear hfz9_0
      try clear hfz9_1
      try clear hfz9_2
      try clear p2
      obtain ⟨x19_2, rfl, HA, HK2, BK104, HB⟩ := hrel
      cases gk with
      | zero => exact absurd HA.out (by simp [impl_IsFill.l0])
      | succ k2 =>
       have H := HA.out; clear HA; simp only [impl_IsFill.l0] at H; by_cases c13 : x19_2 < (a1.size : Int)
       ·rw [if_pos c13] at H
        have c13b0 : decide (x19_2 < (a1.size : Int)) = true := decide_eq_true c13; clear c13; by_cases c14 : 0 ≤ x19_2
        ·rw [if_pos c14] at H
         have c14b0 : decide (0 ≤ x19_2) = true := decide_eq_true c14; clear c14; by_cases c15 : x19_2 < (a0_2.size : Int)
         ·rw [if_pos c15] at H
          have c15b0 : decide (x19_2 < (a0_2.size : Int)) = true := decide_eq_true c15; clear c15; by_cases c17 : x19_2 < (a1.size : Int)
          ·rw [if_pos c17] at H
           have c17b0 : decide (x19_2 < (a1.size : Int)) = true := decide_eq_true c17; clear c17; by_cases c19 : (bt a0_2 x19_2) = 35
           ·rw [if_pos c19] at H
            have c19b0 : ((bt a0_2 x19_2) == 35) = true := beq_iff_eq.mpr c19; have c19b1 : ((bt a0_2 x19_2) != 35) = false := bne_eq_false_iff_eq.mpr c19; clear c19; by_cases c20 : (bt a1 x19_2) = 35
            ·rw [if_pos c20] at H
             have c20b0 : ((bt a1 x19_2) == 35) = true := beq_iff_eq.mpr c20; have c20b1 : ((bt a1 x19_2) != 35) = false := bne_eq_false_iff_eq.mpr c20; clear c20; have H' := Aside0.mk H
             clear H; obtain ⟨hcz22_0, hcz22_1, hcz22_2, hfz22_0, hfz22_1, hfz22_2⟩ := bc3_2_ BK104.out; have p16 : 0 ≤ (x19_2 : Int) := of_decide_eq_true z2_1; have q16 : x19_2 < (a0_2.size : Int) := of_decide_eq_true z2_1; have hx16 := bt_at a0_2 x19_2; replace p16 := eq_true p16; replace q16 := eq_true q16; have p18 : 0 ≤ (x19_2 : Int) := of_decide_eq_true z2_1; have q18 : x19_2 < (a1.size : Int) := of_decide_eq_true z2_1; have hx18 := bt_at a1 x19_2; replace p18 := eq_true p18; replace q18 := eq_true q18; have p21 : 0 ≤ (x19_2 : Int) := of_decide_eq_true z2_1; have q21 : x19_2 < (a1.size : Int) := of_decide_eq_true z2_1; have hx21 := bt_at a1 x19_2; replace p21 := eq_true p21; replace q21 := eq_true q21; go_wp2
             repeat (go_quiet (fail); try go_wp2)
             go_roundg k2
             case measure => have := HJ2.out; have := HK2.out; omega
             case rel => exact ⟨(wrap64 (x19_2 + 1)), z2_4, H', ⟨by have := HJ2.out; have := HK2.out; omega⟩, ⟨z2_7⟩, ⟨z2_0⟩⟩
            ·rw [if_neg c20] at H
             have c20b0 : ((bt a1 x19_2) == 35) = false := beq_eq_false_iff_ne.mpr c20; have c20b1 : ((bt a1 x19_2) != 35) = true := bne_iff_ne.mpr c20; obtain rfl := Option.some.inj H; obtain ⟨hcz23_0, hcz23_1, hcz23_2, hfz23_0, hfz23_1, hfz23_2⟩ := bc3_2_ BK104.out; have p16 : 0 ≤ (x19_2 : Int) := of_decide_eq_true z2_1; have q16 : x19_2 < (a0_2.size : Int) := of_decide_eq_true z2_1; have hx16 := bt_at a0_2 x19_2; replace p16 := eq_true p16; replace q16 := eq_true q16; have p18 : 0 ≤ (x19_2 : Int) := of_decide_eq_true z2_1; have q18 : x19_2 < (a1.size : Int) := of_decide_eq_true z2_1; have hx18 := bt_at a1 x19_2; replace p18 := eq_true p18; replace q18 := eq_true q18; go_wp2
             repeat (go_quiet (fail); try go_wp2)
             go_ret
             exact ⟨z2_5, z2_0⟩
           ·rw [if_neg c19] at H
            have c19b0 : ((bt a0_2 x19_2) == 35) = false := beq_eq_false_iff_ne.mpr c19; have c19b1 : ((bt a0_2 x19_2) != 35) = true := bne_iff_ne.mpr c19; by_cases c24 : (bt a1 x19_2) = 35
            ·rw [if_pos c24] at H
             have c24b0 : ((bt a1 x19_2) == 35) = true := beq_iff_eq.mpr c24; have c24b1 : ((bt a1 x19_2) != 35) = false := bne_eq_false_iff_eq.mpr c24; clear c24; obtain rfl := Option.some.inj H; obtain ⟨hcz25_0, hcz25_1, hcz25_2, hfz25_0, hfz25_1, hfz25_2⟩ := bc3_2_ BK104.out; have p16 : 0 ≤ (x19_2 : Int) := of_decide_eq_true z2_1; have q16 : x19_2 < (a0_2.size : Int) := of_decide_eq_true z2_1; have hx16 := bt_at a0_2 x19_2; replace p16 := eq_true p16; replace q16 := eq_true q16; have p18 : 0 ≤ (x19_2 : Int) := of_decide_eq_true z2_1; have q18 : x19_2 < (a1.size : Int) := of_decide_eq_true z2_1; have hx18 := bt_at a1 x19_2; replace p18 := eq_true p18; replace q18 := eq_true q18; go_wp2
             repeat (go_quiet (fail); try go_wp2)
             go_ret
             exact ⟨z2_5, z2_0⟩
            ·rw [if_neg c24] at H
             have c24b0 : ((bt a1 x19_2) == 35) = false := beq_eq_false_iff_ne.mpr c24; have c24b1 : ((bt a1 x19_2) != 35) = true := bne_iff_ne.mpr c24; by_cases c28 : (bt a1 x19_2) = 63
             ·rw [if_pos c28] at H
              have c28b0 : ((bt a1 x19_2) == 63) = true := beq_iff_eq.mpr c28; have c28b1 : ((bt a1 x19_2) != 63) = false := bne_eq_false_iff_eq.mpr c28; clear c28; have H' := Aside0.mk H
              clear H; obtain ⟨hcz29_0, hcz29_1, hcz29_2, hfz29_0, hfz29_1, hfz29_2⟩ := bc3_2_ BK104.out; have p16 : 0 ≤ (x19_2 : Int) := of_decide_eq_true z2_1; have q16 : x19_2 < (a0_2.size : Int) := of_decide_eq_true z2_1; have hx16 := bt_at a0_2 x19_2; replace p16 := eq_true p16; replace q16 := eq_true q16; have p18 : 0 ≤ (x19_2 : Int) := of_decide_eq_true z2_1; have q18 : x19_2 < (a1.size : Int) := of_decide_eq_true z2_1; have hx18 := bt_at a1 x19_2; replace p18 := eq_true p18; replace q18 := eq_true q18; have p26 : 0 ≤ (x19_2 : Int) := of_decide_eq_true z2_1; have q26 : x19_2 < (a1.size : Int) := of_decide_eq_true z2_1; have hx26 := bt_at a1 x19_2; replace p26 := eq_true p26; replace q26 := eq_true q26; have p27 : 0 ≤ (x19_2 : Int) := of_decide_eq_true z2_1; have q27 : x19_2 < (a1.size : Int) := of_decide_eq_true z2_1; have hx27 := bt_at a1 x19_2; replace p27 := eq_true p27; replace q27 := eq_true q27; go_wp2
              repeat (go_quiet (fail); try go_wp2)
              go_roundg k2
              case measure => have := HJ2.out; have := HK2.out; omega
              case rel => exact ⟨(wrap64 (x19_2 + 1)), z2_4, H', ⟨by have := HJ2.out; have := HK2.out; omega⟩, ⟨z2_7⟩, ⟨z2_0⟩⟩
             ·rw [if_neg c28] at H
              have c28b0 : ((bt a1 x19_2) == 63) = false := beq_eq_false_iff_ne.mpr c28; have c28b1 : ((bt a1 x19_2) != 63) = true := bne_iff_ne.mpr c28; replace H := Option.bind_eq_some_iff.mp H; obtain ⟨t106, A310, H⟩ := H; try dsimp only at H
              have A31 := Aside0.mk A310; clear A310; by_cases c32 : t106 = true
              ·subst c32; rw [if_pos rfl] at H
               have H' := Aside0.mk H
               clear H; obtain ⟨hcz33_0, hcz33_1, hcz33_2, hfz33_0, hfz33_1, hfz33_2⟩ := bc3_2_ BK104.out; have p16 : 0 ≤ (x19_2 : Int) := of_decide_eq_true z2_1; have q16 : x19_2 < (a0_2.size : Int) := of_decide_eq_true z2_1; have hx16 := bt_at a0_2 x19_2; replace p16 := eq_true p16; replace q16 := eq_true q16; have p18 : 0 ≤ (x19_2 : Int) := of_decide_eq_true z2_1; have q18 : x19_2 < (a1.size : Int) := of_decide_eq_true z2_1; have hx18 := bt_at a1 x19_2; replace p18 := eq_true p18; replace q18 := eq_true q18; have p26 : 0 ≤ (x19_2 : Int) := of_decide_eq_true z2_1; have q26 : x19_2 < (a1.size : Int) := of_decide_eq_true z2_1; have hx26 := bt_at a1 x19_2; replace p26 := eq_true p26; replace q26 := eq_true q26; have p27 : 0 ≤ (x19_2 : Int) := of_decide_eq_true z2_1; have q27 : x19_2 < (a1.size : Int) := of_decide_eq_true z2_1; have hx27 := bt_at a1 x19_2; replace p27 := eq_true p27; replace q27 := eq_true q27; have p30 : 0 ≤ (x19_2 : Int) := of_decide_eq_true z2_1; have q30 : x19_2 < (a1.size : Int) := of_decide_eq_true z2_1; have hx30 := bt_at a1 x19_2; replace p30 := eq_true p30; replace q30 := eq_true q30; go_wp2_with (first | (go_at_call 77; (with_reducible refine (impl_isLetter.calls (bt a1 x19_2) true _ A31.out).mono ?_); rintro e w' ⟨rfl, ⟨nd, rfl⟩⟩; (try first | exact ⟨rfl, _, World.drewN_drewN _ _ _⟩ | exact ⟨rfl, _, Eq.trans (World.drewN_drewN _ _ _) (congrArg (World.drewN _) (Nat.add_assoc _ _ _))⟩)))
               repeat (go_quiet (first | (go_at_call 77; (with_reducible refine (impl_isLetter.calls (bt a1 x19_2) true _ A31.out).mono ?_); rintro e w' ⟨rfl, ⟨nd, rfl⟩⟩; (try first | exact ⟨rfl, _, World.drewN_drewN _ _ _⟩ | exact ⟨rfl, _, Eq.trans (World.drewN_drewN _ _ _) (congrArg (World.drewN _) (Nat.add_assoc _ _ _))⟩))); try go_wp2_with (first | (go_at_call 77; (with_reducible refine (impl_isLetter.calls (bt a1 x19_2) true _ A31.out).mono ?_); rintro e w' ⟨rfl, ⟨nd, rfl⟩⟩; (try first | exact ⟨rfl, _, World.drewN_drewN _ _ _⟩ | exact ⟨rfl, _, Eq.trans (World.drewN_drewN _ _ _) (congrArg (World.drewN _) (Nat.add_assoc _ _ _))⟩))))
               go_roundg k2
               case measure => have := HJ2.out; have := HK2.out; omega
               case rel => exact ⟨(wrap64 (x19_2 + 1)), z2_4, H', ⟨by have := HJ2.out; have := HK2.out; omega⟩, ⟨z2_7⟩, ⟨z2_0⟩⟩
              ·replace c32 := Bool.eq_false_iff.mpr c32; subst c32; rw [if_neg (show ¬ (false = true) by decide)] at H
               obtain rfl := Option.some.inj H; obtain ⟨hcz34_0, hcz34_1, hcz34_2, hfz34_0, hfz34_1, hfz34_2⟩ := bc3_2_ BK104.out; have p16 : 0 ≤ (x19_2 : Int) := of_decide_eq_true z2_1; have q16 : x19_2 < (a0_2.size : Int) := of_decide_eq_true z2_1; have hx16 := bt_at a0_2 x19_2; replace p16 := eq_true p16; replace q16 := eq_true q16; have p18 : 0 ≤ (x19_2 : Int) := of_decide_eq_true z2_1; have q18 : x19_2 < (a1.size : Int) := of_decide_eq_true z2_1; have hx18 := bt_at a1 x19_2; replace p18 := eq_true p18; replace q18 := eq_true q18; have p26 : 0 ≤ (x19_2 : Int) := of_decide_eq_true z2_1; have q26 : x19_2 < (a1.size : Int) := of_decide_eq_true z2_1; have hx26 := bt_at a1 x19_2; replace p26 := eq_true p26; replace q26 := eq_true q26; have p27 : 0 ≤ (x19_2 : Int) := of_decide_eq_true z2_1; have q27 : x19_2 < (a1.size : Int) := of_decide_eq_true z2_1; have hx27 := bt_at a1 x19_2; replace p27 := eq_true p27; replace q27 := eq_true q27; have p30 : 0 ≤ (x19_2 : Int) := of_decide_eq_true z2_1; have q30 : x19_2 < (a1.size : Int) := of_decide_eq_true z2_1; have hx30 := bt_at a1 x19_2; replace p30 := eq_true p30; replace q30 := eq_true q30; go_wp2_with (first | (go_at_call 77; (with_reducible refine (impl_isLetter.calls (bt a1 x19_2) false _ A31.out).mono ?_); rintro e w' ⟨rfl, ⟨nd, rfl⟩⟩; (try first | exact ⟨rfl, _, World.drewN_drewN _ _ _⟩ | exact ⟨rfl, _, Eq.trans (World.drewN_drewN _ _ _) (congrArg (World.drewN _) (Nat.add_assoc _ _ _))⟩)))
               repeat (go_quiet (first | (go_at_call 77; (with_reducible refine (impl_isLetter.calls (bt a1 x19_2) false _ A31.out).mono ?_); rintro e w' ⟨rfl, ⟨nd, rfl⟩⟩; (try first | exact ⟨rfl, _, World.drewN_drewN _ _ _⟩ | exact ⟨rfl, _, Eq.trans (World.drewN_drewN _ _ _) (congrArg (World.drewN _) (Nat.add_assoc _ _ _))⟩))); try go_wp2_with (first | (go_at_call 77; (with_reducible refine (impl_isLetter.calls (bt a1 x19_2) false _ A31.out).mono ?_); rintro e w' ⟨rfl, ⟨nd, rfl⟩⟩; (try first | exact ⟨rfl, _, World.drewN_drewN _ _ _⟩ | exact ⟨rfl, _, Eq.trans (World.drewN_drewN _ _ _) (congrArg (World.drewN _) (Nat.add_assoc _ _ _))⟩))))
               go_ret
               exact ⟨z2_5, z2_0⟩
          ·rw [if_neg c17] at H
           exact absurd H (by simp)
         ·rw [if_neg c15] at H
          exact absurd H (by simp)
        ·rw [if_neg c14] at H
         exact absurd H (by simp)
       ·rw [if_neg c13] at H
        have c13b0 : decide (x19_2 < (a1.size : Int)) = false := decide_eq_false c13; clear c13; obtain rfl := Option.some.inj H; go_wp2
        repeat (go_quiet (fail); try go_wp2)
        go_ret
        exact ⟨z2_5, z2_0⟩

end Go.Proofs.Ytodcckiphdnjeaa.QFnFilled
