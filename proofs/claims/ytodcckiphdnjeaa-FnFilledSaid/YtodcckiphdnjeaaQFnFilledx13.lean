-- Written by a changed copy of the kit's printer (wip/mp.py of this repo), for this claim; Lean checks it.
import Derived.Test.YtodcckiphdnjeaaQFnFilledx0
import Derived.Test.YtodcckiphdnjeaaQFnFilledx8
namespace Go.Proofs.Ytodcckiphdnjeaa.QFnFilled
open Go.RowKit Go.Proofs.YtodcckiphdnjeaaW.PrintWords Go.Proofs.YtodcckiphdnjeaaW.PrintLast Go.Proofs.YtodcckiphdnjeaaW.PrintMore
attribute [local go_sem] max2_int min2_int max_two min_two max_three min_three max_four min_four   -- for this text's walks alone
set_option linter.unusedVariables false
set_option linter.unusedSimpArgs false

theorem bc3_13_ {W : World} {g : Nat} {v0 v1 v2 : Value} {t : TypeId} (h : W.heap[g]? = some (.cells #[v0, v1, v2] t (0, 0))) : W.cell? ⟨g, 0, none⟩ = some v0 ∧ W.cell? ⟨g, 1, none⟩ = some v1 ∧ W.cell? ⟨g, 2, none⟩ = some v2 ∧ W.frozen? ⟨g, 0, none⟩ = false ∧ W.frozen? ⟨g, 1, none⟩ = false ∧ W.frozen? ⟨g, 2, none⟩ = false := ⟨(blk_cell h 0).trans rfl, (blk_cell h 1).trans rfl, (blk_cell h 2).trans rfl, blk_frozen h 0, blk_frozen h 1, blk_frozen h 2⟩
theorem z13_0 {p : Prop} (h : p := by first | (with_reducible assumption) | assumption) : p := h
theorem z13_1 {p : Prop} (h : p := by repeat (first | (with_reducible first | exact HB.out | apply below_alloc | apply pw_below_drewN | apply below_drew1 | refine below_set ?_ GE275.out) | exact HB.out)) : p := h
theorem z13_2 {p : Prop} (h : p := by (with_reducible repeat (first | refine blk_drewN ?_ _ | refine blk_drew ?_ | refine blk_alloc ?_ _)); exact BK275.out) : p := h
theorem z13_3 {p : Prop} (h : p := by first | rfl | (simp [errW_none, errW_some] <;> rfl) | (simp [*, errW_none, errW_some] <;> rfl)) : p := h
theorem z13_4 {p : Prop} (h : p := by first | rfl | (simp; done) | (simp [*]; done)) : p := h
/-! ### spec_IsFill: function 42 -/
mutual
def spec_IsFill.j0 : Nat → ByteArray → Bool → Int → Int → ByteArray → Option (Bool)
  | 0, _, _, _, _, _ => none
  | k + 1, x1, x17, x276000, x276001, x276002 => if x17 = true then (some false) else (spec_IsFill.l0 k x1 0 x276000 x276001 x276002)
def spec_IsFill.l0 : Nat → ByteArray → Int → Int → Int → ByteArray → Option (Bool)
  | 0, _, _, _, _, _ => none
  | k + 1, x1, x5, x276000, x276001, x276002 => if x5 < (x1.size : Int) then (if 0 ≤ x5 then (if (bt x1 x5) = 63 then (if x5 < (x276002.size : Int) then (if (bt x276002 x5) = 35 then (if (bt x1 x5) = 35 then (if (bt x276002 x5) = 46 then (spec_IsFill.l0 k x1 (wrap64 (x5 + 1)) x276000 x276001 x276002) else (spec_IsFill.l0 k x1 (wrap64 (x5 + 1)) x276000 x276001 x276002)) else (some false)) else (if (bt x276002 x5) = 46 then (spec_IsFill.l0 k x1 (wrap64 (x5 + 1)) x276000 x276001 x276002) else (spec_IsFill.l0 k x1 (wrap64 (x5 + 1)) x276000 x276001 x276002))) else (none)) else (if (bt x1 x5) ≥ 97 then (if x5 < (x276002.size : Int) then (if (bt x276002 x5) = 35 then (if (bt x1 x5) = 35 then (if (bt x276002 x5) = 46 then (if ((bt x1 x5) ≤ 122) then (spec_IsFill.l0 k x1 (wrap64 (x5 + 1)) x276000 x276001 x276002) else (some false)) else (spec_IsFill.l0 k x1 (wrap64 (x5 + 1)) x276000 x276001 x276002)) else (some false)) else (if (bt x276002 x5) = 46 then (if ((bt x1 x5) ≤ 122) then (spec_IsFill.l0 k x1 (wrap64 (x5 + 1)) x276000 x276001 x276002) else (some false)) else (spec_IsFill.l0 k x1 (wrap64 (x5 + 1)) x276000 x276001 x276002))) else (none)) else (if x5 < (x276002.size : Int) then (if (bt x276002 x5) = 35 then (if (bt x1 x5) = 35 then (if (bt x276002 x5) = 46 then (some false) else (spec_IsFill.l0 k x1 (wrap64 (x5 + 1)) x276000 x276001 x276002)) else (some false)) else (if (bt x276002 x5) = 46 then (some false) else (spec_IsFill.l0 k x1 (wrap64 (x5 + 1)) x276000 x276001 x276002))) else (none)))) else (none)) else (some true)
end
def spec_IsFill.f (k : Nat) (a0_0 : Int) (a0_1 : Int) (a0_2 : ByteArray) (a1 : ByteArray) : Option (Bool) := (spec_IsGrid.f k a0_0 a0_1 a0_2).bind fun t276 => (if t276 = true then (spec_IsFill.j0 k a1 ((a1.size : Int) != (a0_2.size : Int)) a0_0 a0_1 a0_2) else (spec_IsFill.j0 k a1 true a0_0 a0_1 a0_2))
theorem spec_IsFill.mono_l : ∀ k, (∀ y0 y1 y2 y3 y4, LeO (spec_IsFill.j0 k y0 y1 y2 y3 y4) (spec_IsFill.j0 (k + 1) y0 y1 y2 y3 y4)) ∧ (∀ y0 y1 y2 y3 y4, LeO (spec_IsFill.l0 k y0 y1 y2 y3 y4) (spec_IsFill.l0 (k + 1) y0 y1 y2 y3 y4))
  | 0 => ⟨fun _ _ _ _ _ r h => by simp [spec_IsFill.j0] at h, fun _ _ _ _ _ r h => by simp [spec_IsFill.l0] at h⟩
  | k + 1 => by
   obtain ⟨ih0, ih1⟩ := spec_IsFill.mono_l k; refine ⟨?_, ?_⟩
   ·intro y0 y1 y2 y3 y4
    unfold spec_IsFill.j0
    with_reducible repeat' first
    | exact ih0 _ _ _ _ _
    | exact ih1 _ _ _ _ _
    | exact spec_IsGrid.mono _ _ _ _
    | exact LeO.refl _
    | exact LeO.none _
    | refine LeO.ite ?_ ?_
    | refine LeO.bind ?_ (fun _ => ?_)
   ·intro y0 y1 y2 y3 y4
    unfold spec_IsFill.l0
    with_reducible repeat' first
    | exact ih0 _ _ _ _ _
    | exact ih1 _ _ _ _ _
    | exact spec_IsGrid.mono _ _ _ _
    | exact LeO.refl _
    | exact LeO.none _
    | refine LeO.ite ?_ ?_
    | refine LeO.bind ?_ (fun _ => ?_)
theorem spec_IsFill.mono : ∀ a0 a1 a2 a3 k, LeO (spec_IsFill.f k a0 a1 a2 a3) (spec_IsFill.f (k + 1) a0 a1 a2 a3) := by
  intro a0 a1 a2 a3 k
  obtain ⟨ih0, ih1⟩ := spec_IsFill.mono_l k; unfold spec_IsFill.f
  with_reducible repeat' first
  | exact ih0 _ _ _ _ _
  | exact ih1 _ _ _ _ _
  | exact spec_IsGrid.mono _ _ _ _
  | exact LeO.refl _
  | exact LeO.none _
  | refine LeO.ite ?_ ?_
  | refine LeO.bind ?_ (fun _ => ?_)
set_option maxHeartbeats 8000000 in
set_option maxRecDepth 100000 in
theorem spec_IsFill.calls (k : Nat) (a0_0 : Int) (a0_1 : Int) (a0_2 : ByteArray) (a1 : ByteArray) (r : Bool) (w : World) (h : spec_IsFill.f k a0_0 a0_1 a0_2 a1 = some r) :
   Calls Try.prog 42 #[.agg #[.int .i64 a0_0, .int .i64 a0_1, .string a0_2], .string a1] w fun e w' => e = .returned (.bool r) ∧ Below w.heap.size w w' := by
  have hu28 := Try.underlying28; have HB := Aside0.mk (Below.refl w.heap.size w); have H : ((spec_IsGrid.f k a0_0 a0_1 a0_2).bind fun t276 => (if t276 = true then (spec_IsFill.j0 k a1 ((a1.size : Int) != (a0_2.size : Int)) a0_0 a0_1 a0_2) else (spec_IsFill.j0 k a1 true a0_0 a0_1 a0_2))) = some r := h; clear h; have HC3 := Aside0.mk H; clear H; go_enter Try.func42, Try.ntmps42
  go_upto_region 1 with (first | ((with_reducible refine gate_dst (N := 2) rfl ?_); (try (refine gate_guard (by rfl) ?_; dsimp only)); refine box_event ?hg (N := 2) ?hd (cs := #[.int .i64 a0_0, .int .i64 a0_1, .string a0_2]) (t := 28) ?hr ?_; (case hd => rfl); (case hg => rfl); (case hr => first | (go_simp; done) | (go_simp; rfl)); intro gb275 hg w4 hbox hb; have BK275 := Aside0.mk (hbox); have GW275 := Aside0.mk ((by rw [hg]; exact (below_size (by repeat (first | (with_reducible first | exact HB.out | apply below_alloc | apply pw_below_drewN | apply below_drew1) | exact HB.out))) : w.heap.size ≤ gb275)); have GE275 := Aside0.mk ((by rw [hg]; exact (below_size (by repeat (first | (with_reducible first | exact HB.out | apply below_alloc | apply pw_below_drewN | apply below_drew1) | exact HB.out))) : w.heap.size ≤ gb275)); replace HB := Aside0.mk (below_step (by repeat (first | (with_reducible first | exact HB.out | apply below_alloc | apply pw_below_drewN | apply below_drew1) | exact HB.out)) hb); clear hb hbox hg))
  (try simp only [Act.put, List.setIfInBounds_toArray, List.set_cons_zero, List.set_cons_succ])
  go_cut [17] (fun v17 wc => ∃ (kq : Nat) (x17_2 : Bool), v17 = .bool x17_2 ∧ Aside0 (spec_IsFill.j0 kq a1 x17_2 a0_0 a0_1 a0_2 = some r) ∧ Aside0 (kq ≤ k) ∧ Aside0 (wc.heap[gb275]? = some (.cells #[.int .i64 a0_0, .int .i64 a0_1, .string a0_2] 28 (0, 0))) ∧ Aside0 (Below w.heap.size w wc))
  case first =>
   have H := HC3.out; clear HC3; replace H := Option.bind_eq_some_iff.mp H; obtain ⟨t276, A50, H⟩ := H; try dsimp only at H
   have A5 := Aside0.mk A50; clear A50; by_cases c6 : t276 = true
   ·subst c6; rw [if_pos rfl] at H
    have H' := Aside0.mk H
    clear H; obtain ⟨hcz7_0, hcz7_1, hcz7_2, hfz7_0, hfz7_1, hfz7_2⟩ := bc3_13_ BK275.out; go_wp2_with (first | ((with_reducible refine gate_callee (f := 80) rfl ?_); refine goesL_ (some 8) rfl rfl Try.func80 (by kernel_rfl) rfl #[.agg #[.int .i64 a0_0, .int .i64 a0_1, .string a0_2]] rfl (by (try simp only [List.map_toArray, List.map_cons, List.map_nil]); first | done | rfl | (simp only [List.length_drop, List.length_take]; rfl)) ?_; (with_reducible refine (spec_IsGrid.calls k a0_0 a0_1 a0_2 true _ A5.out).mono ?_); rintro e w8 ⟨rfl, hb⟩; refine ⟨_, rfl, ?_⟩; replace BK275 := Aside0.mk (blk_below (g := gb275) (o := .cells #[.int .i64 a0_0, .int .i64 a0_1, .string a0_2] 28 (0, 0)) z13_2 hb); replace HB := Aside0.mk (below_step z13_1 hb); (try clear hb); obtain ⟨hcz9_0, hcz9_1, hcz9_2, hfz9_0, hfz9_1, hfz9_2⟩ := bc3_13_ BK275.out))
    go_meet
    case rel => exact ⟨_, (((a1.size : Int) != (a0_2.size : Int))), z13_4, H', ⟨by first | omega | exact Nat.le_refl _⟩, ⟨z13_2⟩, ⟨z13_1⟩⟩
   ·replace c6 := Bool.eq_false_iff.mpr c6; subst c6; rw [if_neg (show ¬ (false = true) by decide)] at H
    have H' := Aside0.mk H
    clear H; obtain ⟨hcz10_0, hcz10_1, hcz10_2, hfz10_0, hfz10_1, hfz10_2⟩ := bc3_13_ BK275.out; go_wp2_with (first | ((with_reducible refine gate_callee (f := 80) rfl ?_); refine goesL_ (some 8) rfl rfl Try.func80 (by kernel_rfl) rfl #[.agg #[.int .i64 a0_0, .int .i64 a0_1, .string a0_2]] rfl (by (try simp only [List.map_toArray, List.map_cons, List.map_nil]); first | done | rfl | (simp only [List.length_drop, List.length_take]; rfl)) ?_; (with_reducible refine (spec_IsGrid.calls k a0_0 a0_1 a0_2 false _ A5.out).mono ?_); rintro e w11 ⟨rfl, hb⟩; refine ⟨_, rfl, ?_⟩; replace BK275 := Aside0.mk (blk_below (g := gb275) (o := .cells #[.int .i64 a0_0, .int .i64 a0_1, .string a0_2] 28 (0, 0)) z13_2 hb); replace HB := Aside0.mk (below_step z13_1 hb); (try clear hb)))
    go_meet
    case rel => exact ⟨_, (true), z13_4, H', ⟨by first | omega | exact Nat.le_refl _⟩, ⟨z13_2⟩, ⟨z13_1⟩⟩
  case rest =>
   clear HC3; try clear p2
   try clear c4
   try clear c6
   try clear c8
   try clear hcz10_0
   try clear hcz10_1
   try clear hcz10_2
   try clear hcz7_0
   try clear hcz7_1
   try clear hcz7_2
   try clear hcz9_0
   try clear hcz9_1
   try clear hcz9_2
   try clear hfz10_0
   try clear hfz10_1
   try clear hfz10_2
   try clear hfz7_0
   try clear hfz7_1
   try clear hfz7_2
   try clear hfz9_0
   try clear hfz9_1
   try clear hfz9_2
   obtain ⟨kq, x17_2, rfl, HA, HJ2, BK275, HB⟩ := hcut
   cases kq with
   | zero => exact absurd HA.out (by simp [spec_IsFill.j0])
   | succ kj2 =>
    have H := HA.out; clear HA; simp only [spec_IsFill.j0] at H; by_cases c12 : x17_2 = true
    ·subst c12; rw [if_pos rfl] at H
     obtain rfl := Option.some.inj H; go_wp2
     go_ret
     exact ⟨z13_3, z13_1⟩
    ·replace c12 := Bool.eq_false_iff.mpr c12; subst c12; rw [if_neg (show ¬ (false = true) by decide)] at H
     have H' := Aside0.mk H
     clear H; go_wp2
     go_loopg [5] kj2 (fun kq v5 w' => ∃ (x5_2 : Int), v5 = .int .i64 x5_2 ∧ Aside0 (spec_IsFill.l0 kq a1 x5_2 a0_0 a0_1 a0_2 = some r) ∧ Aside0 (kq ≤ kj2) ∧ Aside0 (w'.heap[gb275]? = some (.cells #[.int .i64 a0_0, .int .i64 a0_1, .string a0_2] 28 (0, 0))) ∧ Aside0 (Below w.heap.size w w'))
     case atStart => exact ⟨(0), z13_4, H', ⟨Nat.le_refl _⟩, ⟨z13_2⟩, ⟨z13_1⟩⟩
     case round =>
      clear H'; try clear c1
      try clear p2
      try clear c4
      try clear c6
      try clear c8
      try clear c12
      try clear hcz10_0
      try clear hcz10_1
      try clear hcz10_2
      try clear hcz7_0
      try clear hcz7_1
      try clear hcz7_2
      try clear hcz9_0
      try clear hcz9_1
      try clear hcz9_2
      try clear hfz10_0
      try clear hfz10_1
      try clear hfz10_2
      try clear hfz7_0
      try clear hfz7_1
      try clear hfz7_2
      try clear hfz9_0
      try clear hfz9_1
      try clear hfz9_2
      try clear p2
      obtain ⟨x5_2, rfl, HA, HK2, BK275, HB⟩ := hrel
      cases gk with
      | zero => exact absurd HA.out (by simp [spec_IsFill.l0])
      | succ k2 =>
       have H := HA.out; clear HA; simp only [spec_IsFill.l0] at H; by_cases c13 : x5_2 < (a1.size : Int)
       ·rw [if_pos c13] at H
        have c13b0 : decide (x5_2 < (a1.size : Int)) = true := decide_eq_true c13; clear c13; by_cases c14 : 0 ≤ x5_2
        ·rw [if_pos c14] at H
         have c14b0 : decide (0 ≤ x5_2) = true := decide_eq_true c14; clear c14; by_cases c16 : (bt a1 x5_2) = 63
         ·rw [if_pos c16] at H
          have c16b0 : ((bt a1 x5_2) == 63) = true := beq_iff_eq.mpr c16; have c16b1 : ((bt a1 x5_2) != 63) = false := bne_eq_false_iff_eq.mpr c16; clear c16; by_cases c17 : x5_2 < (a0_2.size : Int)
          ·rw [if_pos c17] at H
           have c17b0 : decide (x5_2 < (a0_2.size : Int)) = true := decide_eq_true c17; clear c17; by_cases c19 : (bt a0_2 x5_2) = 35
           ·rw [if_pos c19] at H
            have c19b0 : ((bt a0_2 x5_2) == 35) = true := beq_iff_eq.mpr c19; have c19b1 : ((bt a0_2 x5_2) != 35) = false := bne_eq_false_iff_eq.mpr c19; clear c19; by_cases c21 : (bt a1 x5_2) = 35
            ·rw [if_pos c21] at H
             have c21b0 : ((bt a1 x5_2) == 35) = true := beq_iff_eq.mpr c21; have c21b1 : ((bt a1 x5_2) != 35) = false := bne_eq_false_iff_eq.mpr c21; clear c21; by_cases c23 : (bt a0_2 x5_2) = 46
             ·rw [if_pos c23] at H
              have c23b0 : ((bt a0_2 x5_2) == 46) = true := beq_iff_eq.mpr c23; have c23b1 : ((bt a0_2 x5_2) != 46) = false := bne_eq_false_iff_eq.mpr c23; clear c23; have H' := Aside0.mk H
              clear H; have p15 : 0 ≤ (x5_2 : Int) := of_decide_eq_true z13_0; have q15 : x5_2 < (a1.size : Int) := of_decide_eq_true z13_0; have hx15 := bt_at a1 x5_2; replace p15 := eq_true p15; replace q15 := eq_true q15; obtain ⟨hcz24_0, hcz24_1, hcz24_2, hfz24_0, hfz24_1, hfz24_2⟩ := bc3_13_ BK275.out; have p18 : 0 ≤ (x5_2 : Int) := of_decide_eq_true z13_0; have q18 : x5_2 < (a0_2.size : Int) := of_decide_eq_true z13_0; have hx18 := bt_at a0_2 x5_2; replace p18 := eq_true p18; replace q18 := eq_true q18; have p20 : 0 ≤ (x5_2 : Int) := of_decide_eq_true z13_0; have q20 : x5_2 < (a1.size : Int) := of_decide_eq_true z13_0; have hx20 := bt_at a1 x5_2; replace p20 := eq_true p20; replace q20 := eq_true q20; have p22 : 0 ≤ (x5_2 : Int) := of_decide_eq_true z13_0; have q22 : x5_2 < (a0_2.size : Int) := of_decide_eq_true z13_0; have hx22 := bt_at a0_2 x5_2; replace p22 := eq_true p22; replace q22 := eq_true q22; go_wp2
              go_roundg k2
              case measure => have := HJ2.out; have := HK2.out; omega
              case rel => exact ⟨(wrap64 (x5_2 + 1)), z13_4, H', ⟨by have := HJ2.out; have := HK2.out; omega⟩, ⟨z13_2⟩, ⟨z13_1⟩⟩
             ·rw [if_neg c23] at H
              have c23b0 : ((bt a0_2 x5_2) == 46) = false := beq_eq_false_iff_ne.mpr c23; have c23b1 : ((bt a0_2 x5_2) != 46) = true := bne_iff_ne.mpr c23; have H' := Aside0.mk H
              clear H; have p15 : 0 ≤ (x5_2 : Int) := of_decide_eq_true z13_0; have q15 : x5_2 < (a1.size : Int) := of_decide_eq_true z13_0; have hx15 := bt_at a1 x5_2; replace p15 := eq_true p15; replace q15 := eq_true q15; obtain ⟨hcz25_0, hcz25_1, hcz25_2, hfz25_0, hfz25_1, hfz25_2⟩ := bc3_13_ BK275.out; have p18 : 0 ≤ (x5_2 : Int) := of_decide_eq_true z13_0; have q18 : x5_2 < (a0_2.size : Int) := of_decide_eq_true z13_0; have hx18 := bt_at a0_2 x5_2; replace p18 := eq_true p18; replace q18 := eq_true q18; have p20 : 0 ≤ (x5_2 : Int) := of_decide_eq_true z13_0; have q20 : x5_2 < (a1.size : Int) := of_decide_eq_true z13_0; have hx20 := bt_at a1 x5_2; replace p20 := eq_true p20; replace q20 := eq_true q20; have p22 : 0 ≤ (x5_2 : Int) := of_decide_eq_true z13_0; have q22 : x5_2 < (a0_2.size : Int) := of_decide_eq_true z13_0; have hx22 := bt_at a0_2 x5_2; replace p22 := eq_true p22; replace q22 := eq_true q22; go_wp2
              go_roundg k2
              case measure => have := HJ2.out; have := HK2.out; omega
              case rel => exact ⟨(wrap64 (x5_2 + 1)), z13_4, H', ⟨by have := HJ2.out; have := HK2.out; omega⟩, ⟨z13_2⟩, ⟨z13_1⟩⟩
            ·rw [if_neg c21] at H
             have c21b0 : ((bt a1 x5_2) == 35) = false := beq_eq_false_iff_ne.mpr c21; have c21b1 : ((bt a1 x5_2) != 35) = true := bne_iff_ne.mpr c21; obtain rfl := Option.some.inj H; have p15 : 0 ≤ (x5_2 : Int) := of_decide_eq_true z13_0; have q15 : x5_2 < (a1.size : Int) := of_decide_eq_true z13_0; have hx15 := bt_at a1 x5_2; replace p15 := eq_true p15; replace q15 := eq_true q15; obtain ⟨hcz26_0, hcz26_1, hcz26_2, hfz26_0, hfz26_1, hfz26_2⟩ := bc3_13_ BK275.out; have p18 : 0 ≤ (x5_2 : Int) := of_decide_eq_true z13_0; have q18 : x5_2 < (a0_2.size : Int) := of_decide_eq_true z13_0; have hx18 := bt_at a0_2 x5_2; replace p18 := eq_true p18; replace q18 := eq_true q18; have p20 : 0 ≤ (x5_2 : Int) := of_decide_eq_true z13_0; have q20 : x5_2 < (a1.size : Int) := of_decide_eq_true z13_0; have hx20 := bt_at a1 x5_2; replace p20 := eq_true p20; replace q20 := eq_true q20; go_wp2
             go_ret
             exact ⟨z13_3, z13_1⟩
           ·rw [if_neg c19] at H
            have c19b0 : ((bt a0_2 x5_2) == 35) = false := beq_eq_false_iff_ne.mpr c19; have c19b1 : ((bt a0_2 x5_2) != 35) = true := bne_iff_ne.mpr c19; by_cases c28 : (bt a0_2 x5_2) = 46
            ·rw [if_pos c28] at H
             have c28b0 : ((bt a0_2 x5_2) == 46) = true := beq_iff_eq.mpr c28; have c28b1 : ((bt a0_2 x5_2) != 46) = false := bne_eq_false_iff_eq.mpr c28; clear c28; have H' := Aside0.mk H
             clear H; have p15 : 0 ≤ (x5_2 : Int) := of_decide_eq_true z13_0; have q15 : x5_2 < (a1.size : Int) := of_decide_eq_true z13_0; have hx15 := bt_at a1 x5_2; replace p15 := eq_true p15; replace q15 := eq_true q15; obtain ⟨hcz29_0, hcz29_1, hcz29_2, hfz29_0, hfz29_1, hfz29_2⟩ := bc3_13_ BK275.out; have p18 : 0 ≤ (x5_2 : Int) := of_decide_eq_true z13_0; have q18 : x5_2 < (a0_2.size : Int) := of_decide_eq_true z13_0; have hx18 := bt_at a0_2 x5_2; replace p18 := eq_true p18; replace q18 := eq_true q18; have p27 : 0 ≤ (x5_2 : Int) := of_decide_eq_true z13_0; have q27 : x5_2 < (a0_2.size : Int) := of_decide_eq_true z13_0; have hx27 := bt_at a0_2 x5_2; replace p27 := eq_true p27; replace q27 := eq_true q27; go_wp2
             go_roundg k2
             case measure => have := HJ2.out; have := HK2.out; omega
             case rel => exact ⟨(wrap64 (x5_2 + 1)), z13_4, H', ⟨by have := HJ2.out; have := HK2.out; omega⟩, ⟨z13_2⟩, ⟨z13_1⟩⟩
            ·rw [if_neg c28] at H
             have c28b0 : ((bt a0_2 x5_2) == 46) = false := beq_eq_false_iff_ne.mpr c28; have c28b1 : ((bt a0_2 x5_2) != 46) = true := bne_iff_ne.mpr c28; have H' := Aside0.mk H
             clear H; have p15 : 0 ≤ (x5_2 : Int) := of_decide_eq_true z13_0; have q15 : x5_2 < (a1.size : Int) := of_decide_eq_true z13_0; have hx15 := bt_at a1 x5_2; replace p15 := eq_true p15; replace q15 := eq_true q15; obtain ⟨hcz30_0, hcz30_1, hcz30_2, hfz30_0, hfz30_1, hfz30_2⟩ := bc3_13_ BK275.out; have p18 : 0 ≤ (x5_2 : Int) := of_decide_eq_true z13_0; have q18 : x5_2 < (a0_2.size : Int) := of_decide_eq_true z13_0; have hx18 := bt_at a0_2 x5_2; replace p18 := eq_true p18; replace q18 := eq_true q18; have p27 : 0 ≤ (x5_2 : Int) := of_decide_eq_true z13_0; have q27 : x5_2 < (a0_2.size : Int) := of_decide_eq_true z13_0; have hx27 := bt_at a0_2 x5_2; replace p27 := eq_true p27; replace q27 := eq_true q27; go_wp2
             go_roundg k2
             case measure => have := HJ2.out; have := HK2.out; omega
             case rel => exact ⟨(wrap64 (x5_2 + 1)), z13_4, H', ⟨by have := HJ2.out; have := HK2.out; omega⟩, ⟨z13_2⟩, ⟨z13_1⟩⟩
          ·rw [if_neg c17] at H
           exact absurd H (by simp)
         ·rw [if_neg c16] at H
          have c16b0 : ((bt a1 x5_2) == 63) = false := beq_eq_false_iff_ne.mpr c16; have c16b1 : ((bt a1 x5_2) != 63) = true := bne_iff_ne.mpr c16; by_cases c32 : (bt a1 x5_2) ≥ 97
          ·rw [if_pos c32] at H
           have c32b0 : decide (97 ≤ (bt a1 x5_2)) = true := decide_eq_true c32; clear c32; by_cases c34 : x5_2 < (a0_2.size : Int)
           ·rw [if_pos c34] at H
            have c34b0 : decide (x5_2 < (a0_2.size : Int)) = true := decide_eq_true c34; clear c34; by_cases c36 : (bt a0_2 x5_2) = 35
            ·rw [if_pos c36] at H
             have c36b0 : ((bt a0_2 x5_2) == 35) = true := beq_iff_eq.mpr c36; have c36b1 : ((bt a0_2 x5_2) != 35) = false := bne_eq_false_iff_eq.mpr c36; clear c36; by_cases c38 : (bt a1 x5_2) = 35
             ·rw [if_pos c38] at H
              have c38b0 : ((bt a1 x5_2) == 35) = true := beq_iff_eq.mpr c38; have c38b1 : ((bt a1 x5_2) != 35) = false := bne_eq_false_iff_eq.mpr c38; clear c38; by_cases c40 : (bt a0_2 x5_2) = 46
              ·rw [if_pos c40] at H
               have c40b0 : ((bt a0_2 x5_2) == 46) = true := beq_iff_eq.mpr c40; have c40b1 : ((bt a0_2 x5_2) != 46) = false := bne_eq_false_iff_eq.mpr c40; clear c40; by_cases c41 : ((bt a1 x5_2) ≤ 122)
               ·rw [if_pos c41] at H
                have c41b0 : decide ((bt a1 x5_2) ≤ 122) = true := decide_eq_true c41; clear c41; have H' := Aside0.mk H
                clear H; have p15 : 0 ≤ (x5_2 : Int) := of_decide_eq_true z13_0; have q15 : x5_2 < (a1.size : Int) := of_decide_eq_true z13_0; have hx15 := bt_at a1 x5_2; replace p15 := eq_true p15; replace q15 := eq_true q15; have p31 : 0 ≤ (x5_2 : Int) := of_decide_eq_true z13_0; have q31 : x5_2 < (a1.size : Int) := of_decide_eq_true z13_0; have hx31 := bt_at a1 x5_2; replace p31 := eq_true p31; replace q31 := eq_true q31; have p33 : 0 ≤ (x5_2 : Int) := of_decide_eq_true z13_0; have q33 : x5_2 < (a1.size : Int) := of_decide_eq_true z13_0; have hx33 := bt_at a1 x5_2; replace p33 := eq_true p33; replace q33 := eq_true q33; obtain ⟨hcz42_0, hcz42_1, hcz42_2, hfz42_0, hfz42_1, hfz42_2⟩ := bc3_13_ BK275.out; have p35 : 0 ≤ (x5_2 : Int) := of_decide_eq_true z13_0; have q35 : x5_2 < (a0_2.size : Int) := of_decide_eq_true z13_0; have hx35 := bt_at a0_2 x5_2; replace p35 := eq_true p35; replace q35 := eq_true q35; have p37 : 0 ≤ (x5_2 : Int) := of_decide_eq_true z13_0; have q37 : x5_2 < (a1.size : Int) := of_decide_eq_true z13_0; have hx37 := bt_at a1 x5_2; replace p37 := eq_true p37; replace q37 := eq_true q37; have p39 : 0 ≤ (x5_2 : Int) := of_decide_eq_true z13_0; have q39 : x5_2 < (a0_2.size : Int) := of_decide_eq_true z13_0; have hx39 := bt_at a0_2 x5_2; replace p39 := eq_true p39; replace q39 := eq_true q39; go_wp2
                go_roundg k2
                case measure => have := HJ2.out; have := HK2.out; omega
                case rel => exact ⟨(wrap64 (x5_2 + 1)), z13_4, H', ⟨by have := HJ2.out; have := HK2.out; omega⟩, ⟨z13_2⟩, ⟨z13_1⟩⟩
               ·rw [if_neg c41] at H
                have c41b0 : decide ((bt a1 x5_2) ≤ 122) = false := decide_eq_false c41; clear c41; obtain rfl := Option.some.inj H; have p15 : 0 ≤ (x5_2 : Int) := of_decide_eq_true z13_0; have q15 : x5_2 < (a1.size : Int) := of_decide_eq_true z13_0; have hx15 := bt_at a1 x5_2; replace p15 := eq_true p15; replace q15 := eq_true q15; have p31 : 0 ≤ (x5_2 : Int) := of_decide_eq_true z13_0; have q31 : x5_2 < (a1.size : Int) := of_decide_eq_true z13_0; have hx31 := bt_at a1 x5_2; replace p31 := eq_true p31; replace q31 := eq_true q31; have p33 : 0 ≤ (x5_2 : Int) := of_decide_eq_true z13_0; have q33 : x5_2 < (a1.size : Int) := of_decide_eq_true z13_0; have hx33 := bt_at a1 x5_2; replace p33 := eq_true p33; replace q33 := eq_true q33; obtain ⟨hcz43_0, hcz43_1, hcz43_2, hfz43_0, hfz43_1, hfz43_2⟩ := bc3_13_ BK275.out; have p35 : 0 ≤ (x5_2 : Int) := of_decide_eq_true z13_0; have q35 : x5_2 < (a0_2.size : Int) := of_decide_eq_true z13_0; have hx35 := bt_at a0_2 x5_2; replace p35 := eq_true p35; replace q35 := eq_true q35; have p37 : 0 ≤ (x5_2 : Int) := of_decide_eq_true z13_0; have q37 : x5_2 < (a1.size : Int) := of_decide_eq_true z13_0; have hx37 := bt_at a1 x5_2; replace p37 := eq_true p37; replace q37 := eq_true q37; have p39 : 0 ≤ (x5_2 : Int) := of_decide_eq_true z13_0; have q39 : x5_2 < (a0_2.size : Int) := of_decide_eq_true z13_0; have hx39 := bt_at a0_2 x5_2; replace p39 := eq_true p39; replace q39 := eq_true q39; go_wp2
                go_ret
                exact ⟨z13_3, z13_1⟩
              ·rw [if_neg c40] at H
               have c40b0 : ((bt a0_2 x5_2) == 46) = false := beq_eq_false_iff_ne.mpr c40; have c40b1 : ((bt a0_2 x5_2) != 46) = true := bne_iff_ne.mpr c40; have H' := Aside0.mk H
               clear H; have p15 : 0 ≤ (x5_2 : Int) := of_decide_eq_true z13_0; have q15 : x5_2 < (a1.size : Int) := of_decide_eq_true z13_0; have hx15 := bt_at a1 x5_2; replace p15 := eq_true p15; replace q15 := eq_true q15; have p31 : 0 ≤ (x5_2 : Int) := of_decide_eq_true z13_0; have q31 : x5_2 < (a1.size : Int) := of_decide_eq_true z13_0; have hx31 := bt_at a1 x5_2; replace p31 := eq_true p31; replace q31 := eq_true q31; have p33 : 0 ≤ (x5_2 : Int) := of_decide_eq_true z13_0; have q33 : x5_2 < (a1.size : Int) := of_decide_eq_true z13_0; have hx33 := bt_at a1 x5_2; replace p33 := eq_true p33; replace q33 := eq_true q33; obtain ⟨hcz44_0, hcz44_1, hcz44_2, hfz44_0, hfz44_1, hfz44_2⟩ := bc3_13_ BK275.out; have p35 : 0 ≤ (x5_2 : Int) := of_decide_eq_true z13_0; have q35 : x5_2 < (a0_2.size : Int) := of_decide_eq_true z13_0; have hx35 := bt_at a0_2 x5_2; replace p35 := eq_true p35; replace q35 := eq_true q35; have p37 : 0 ≤ (x5_2 : Int) := of_decide_eq_true z13_0; have q37 : x5_2 < (a1.size : Int) := of_decide_eq_true z13_0; have hx37 := bt_at a1 x5_2; replace p37 := eq_true p37; replace q37 := eq_true q37; have p39 : 0 ≤ (x5_2 : Int) := of_decide_eq_true z13_0; have q39 : x5_2 < (a0_2.size : Int) := of_decide_eq_true z13_0; have hx39 := bt_at a0_2 x5_2; replace p39 := eq_true p39; replace q39 := eq_true q39; go_wp2
               go_roundg k2
               case measure => have := HJ2.out; have := HK2.out; omega
               case rel => exact ⟨(wrap64 (x5_2 + 1)), z13_4, H', ⟨by have := HJ2.out; have := HK2.out; omega⟩, ⟨z13_2⟩, ⟨z13_1⟩⟩
             ·rw [if_neg c38] at H
              have c38b0 : ((bt a1 x5_2) == 35) = false := beq_eq_false_iff_ne.mpr c38; have c38b1 : ((bt a1 x5_2) != 35) = true := bne_iff_ne.mpr c38; obtain rfl := Option.some.inj H; have p15 : 0 ≤ (x5_2 : Int) := of_decide_eq_true z13_0; have q15 : x5_2 < (a1.size : Int) := of_decide_eq_true z13_0; have hx15 := bt_at a1 x5_2; replace p15 := eq_true p15; replace q15 := eq_true q15; have p31 : 0 ≤ (x5_2 : Int) := of_decide_eq_true z13_0; have q31 : x5_2 < (a1.size : Int) := of_decide_eq_true z13_0; have hx31 := bt_at a1 x5_2; replace p31 := eq_true p31; replace q31 := eq_true q31; have p33 : 0 ≤ (x5_2 : Int) := of_decide_eq_true z13_0; have q33 : x5_2 < (a1.size : Int) := of_decide_eq_true z13_0; have hx33 := bt_at a1 x5_2; replace p33 := eq_true p33; replace q33 := eq_true q33; obtain ⟨hcz45_0, hcz45_1, hcz45_2, hfz45_0, hfz45_1, hfz45_2⟩ := bc3_13_ BK275.out; have p35 : 0 ≤ (x5_2 : Int) := of_decide_eq_true z13_0; have q35 : x5_2 < (a0_2.size : Int) := of_decide_eq_true z13_0; have hx35 := bt_at a0_2 x5_2; replace p35 := eq_true p35; replace q35 := eq_true q35; have p37 : 0 ≤ (x5_2 : Int) := of_decide_eq_true z13_0; have q37 : x5_2 < (a1.size : Int) := of_decide_eq_true z13_0; have hx37 := bt_at a1 x5_2; replace p37 := eq_true p37; replace q37 := eq_true q37; go_wp2
              go_ret
              exact ⟨z13_3, z13_1⟩
            ·rw [if_neg c36] at H
             have c36b0 : ((bt a0_2 x5_2) == 35) = false := beq_eq_false_iff_ne.mpr c36; have c36b1 : ((bt a0_2 x5_2) != 35) = true := bne_iff_ne.mpr c36; by_cases c47 : (bt a0_2 x5_2) = 46
             ·rw [if_pos c47] at H
              have c47b0 : ((bt a0_2 x5_2) == 46) = true := beq_iff_eq.mpr c47; have c47b1 : ((bt a0_2 x5_2) != 46) = false := bne_eq_false_iff_eq.mpr c47; clear c47; by_cases c48 : ((bt a1 x5_2) ≤ 122)
              ·rw [if_pos c48] at H
               have c48b0 : decide ((bt a1 x5_2) ≤ 122) = true := decide_eq_true c48; clear c48; have H' := Aside0.mk H
               clear H; have p15 : 0 ≤ (x5_2 : Int) := of_decide_eq_true z13_0; have q15 : x5_2 < (a1.size : Int) := of_decide_eq_true z13_0; have hx15 := bt_at a1 x5_2; replace p15 := eq_true p15; replace q15 := eq_true q15; have p31 : 0 ≤ (x5_2 : Int) := of_decide_eq_true z13_0; have q31 : x5_2 < (a1.size : Int) := of_decide_eq_true z13_0; have hx31 := bt_at a1 x5_2; replace p31 := eq_true p31; replace q31 := eq_true q31; have p33 : 0 ≤ (x5_2 : Int) := of_decide_eq_true z13_0; have q33 : x5_2 < (a1.size : Int) := of_decide_eq_true z13_0; have hx33 := bt_at a1 x5_2; replace p33 := eq_true p33; replace q33 := eq_true q33; obtain ⟨hcz49_0, hcz49_1, hcz49_2, hfz49_0, hfz49_1, hfz49_2⟩ := bc3_13_ BK275.out; have p35 : 0 ≤ (x5_2 : Int) := of_decide_eq_true z13_0; have q35 : x5_2 < (a0_2.size : Int) := of_decide_eq_true z13_0; have hx35 := bt_at a0_2 x5_2; replace p35 := eq_true p35; replace q35 := eq_true q35; have p46 : 0 ≤ (x5_2 : Int) := of_decide_eq_true z13_0; have q46 : x5_2 < (a0_2.size : Int) := of_decide_eq_true z13_0; have hx46 := bt_at a0_2 x5_2; replace p46 := eq_true p46; replace q46 := eq_true q46; go_wp2
               go_roundg k2
               case measure => have := HJ2.out; have := HK2.out; omega
               case rel => exact ⟨(wrap64 (x5_2 + 1)), z13_4, H', ⟨by have := HJ2.out; have := HK2.out; omega⟩, ⟨z13_2⟩, ⟨z13_1⟩⟩
              ·rw [if_neg c48] at H
               have c48b0 : decide ((bt a1 x5_2) ≤ 122) = false := decide_eq_false c48; clear c48; obtain rfl := Option.some.inj H; have p15 : 0 ≤ (x5_2 : Int) := of_decide_eq_true z13_0; have q15 : x5_2 < (a1.size : Int) := of_decide_eq_true z13_0; have hx15 := bt_at a1 x5_2; replace p15 := eq_true p15; replace q15 := eq_true q15; have p31 : 0 ≤ (x5_2 : Int) := of_decide_eq_true z13_0; have q31 : x5_2 < (a1.size : Int) := of_decide_eq_true z13_0; have hx31 := bt_at a1 x5_2; replace p31 := eq_true p31; replace q31 := eq_true q31; have p33 : 0 ≤ (x5_2 : Int) := of_decide_eq_true z13_0; have q33 : x5_2 < (a1.size : Int) := of_decide_eq_true z13_0; have hx33 := bt_at a1 x5_2; replace p33 := eq_true p33; replace q33 := eq_true q33; obtain ⟨hcz50_0, hcz50_1, hcz50_2, hfz50_0, hfz50_1, hfz50_2⟩ := bc3_13_ BK275.out; have p35 : 0 ≤ (x5_2 : Int) := of_decide_eq_true z13_0; have q35 : x5_2 < (a0_2.size : Int) := of_decide_eq_true z13_0; have hx35 := bt_at a0_2 x5_2; replace p35 := eq_true p35; replace q35 := eq_true q35; have p46 : 0 ≤ (x5_2 : Int) := of_decide_eq_true z13_0; have q46 : x5_2 < (a0_2.size : Int) := of_decide_eq_true z13_0; have hx46 := bt_at a0_2 x5_2; replace p46 := eq_true p46; replace q46 := eq_true q46; go_wp2
               go_ret
               exact ⟨z13_3, z13_1⟩
             ·rw [if_neg c47] at H
              have c47b0 : ((bt a0_2 x5_2) == 46) = false := beq_eq_false_iff_ne.mpr c47; have c47b1 : ((bt a0_2 x5_2) != 46) = true := bne_iff_ne.mpr c47; have H' := Aside0.mk H
              clear H; have p15 : 0 ≤ (x5_2 : Int) := of_decide_eq_true z13_0; have q15 : x5_2 < (a1.size : Int) := of_decide_eq_true z13_0; have hx15 := bt_at a1 x5_2; replace p15 := eq_true p15; replace q15 := eq_true q15; have p31 : 0 ≤ (x5_2 : Int) := of_decide_eq_true z13_0; have q31 : x5_2 < (a1.size : Int) := of_decide_eq_true z13_0; have hx31 := bt_at a1 x5_2; replace p31 := eq_true p31; replace q31 := eq_true q31; have p33 : 0 ≤ (x5_2 : Int) := of_decide_eq_true z13_0; have q33 : x5_2 < (a1.size : Int) := of_decide_eq_true z13_0; have hx33 := bt_at a1 x5_2; replace p33 := eq_true p33; replace q33 := eq_true q33; obtain ⟨hcz51_0, hcz51_1, hcz51_2, hfz51_0, hfz51_1, hfz51_2⟩ := bc3_13_ BK275.out; have p35 : 0 ≤ (x5_2 : Int) := of_decide_eq_true z13_0; have q35 : x5_2 < (a0_2.size : Int) := of_decide_eq_true z13_0; have hx35 := bt_at a0_2 x5_2; replace p35 := eq_true p35; replace q35 := eq_true q35; have p46 : 0 ≤ (x5_2 : Int) := of_decide_eq_true z13_0; have q46 : x5_2 < (a0_2.size : Int) := of_decide_eq_true z13_0; have hx46 := bt_at a0_2 x5_2; replace p46 := eq_true p46; replace q46 := eq_true q46; go_wp2
              go_roundg k2
              case measure => have := HJ2.out; have := HK2.out; omega
              case rel => exact ⟨(wrap64 (x5_2 + 1)), z13_4, H', ⟨by have := HJ2.out; have := HK2.out; omega⟩, ⟨z13_2⟩, ⟨z13_1⟩⟩
           ·rw [if_neg c34] at H
            exact absurd H (by simp)
          ·rw [if_neg c32] at H
           have c32b0 : decide (97 ≤ (bt a1 x5_2)) = false := decide_eq_false c32; clear c32; by_cases c52 : x5_2 < (a0_2.size : Int)
           ·rw [if_pos c52] at H
            have c52b0 : decide (x5_2 < (a0_2.size : Int)) = true := decide_eq_true c52; clear c52; by_cases c54 : (bt a0_2 x5_2) = 35
            ·rw [if_pos c54] at H
             have c54b0 : ((bt a0_2 x5_2) == 35) = true := beq_iff_eq.mpr c54; have c54b1 : ((bt a0_2 x5_2) != 35) = false := bne_eq_false_iff_eq.mpr c54; clear c54; by_cases c56 : (bt a1 x5_2) = 35
             ·rw [if_pos c56] at H
              have c56b0 : ((bt a1 x5_2) == 35) = true := beq_iff_eq.mpr c56; have c56b1 : ((bt a1 x5_2) != 35) = false := bne_eq_false_iff_eq.mpr c56; clear c56; by_cases c58 : (bt a0_2 x5_2) = 46
              ·rw [if_pos c58] at H
               have c58b0 : ((bt a0_2 x5_2) == 46) = true := beq_iff_eq.mpr c58; have c58b1 : ((bt a0_2 x5_2) != 46) = false := bne_eq_false_iff_eq.mpr c58; clear c58; obtain rfl := Option.some.inj H; have p15 : 0 ≤ (x5_2 : Int) := of_decide_eq_true z13_0; have q15 : x5_2 < (a1.size : Int) := of_decide_eq_true z13_0; have hx15 := bt_at a1 x5_2; replace p15 := eq_true p15; replace q15 := eq_true q15; have p31 : 0 ≤ (x5_2 : Int) := of_decide_eq_true z13_0; have q31 : x5_2 < (a1.size : Int) := of_decide_eq_true z13_0; have hx31 := bt_at a1 x5_2; replace p31 := eq_true p31; replace q31 := eq_true q31; obtain ⟨hcz59_0, hcz59_1, hcz59_2, hfz59_0, hfz59_1, hfz59_2⟩ := bc3_13_ BK275.out; have p53 : 0 ≤ (x5_2 : Int) := of_decide_eq_true z13_0; have q53 : x5_2 < (a0_2.size : Int) := of_decide_eq_true z13_0; have hx53 := bt_at a0_2 x5_2; replace p53 := eq_true p53; replace q53 := eq_true q53; have p55 : 0 ≤ (x5_2 : Int) := of_decide_eq_true z13_0; have q55 : x5_2 < (a1.size : Int) := of_decide_eq_true z13_0; have hx55 := bt_at a1 x5_2; replace p55 := eq_true p55; replace q55 := eq_true q55; have p57 : 0 ≤ (x5_2 : Int) := of_decide_eq_true z13_0; have q57 : x5_2 < (a0_2.size : Int) := of_decide_eq_true z13_0; have hx57 := bt_at a0_2 x5_2; replace p57 := eq_true p57; replace q57 := eq_true q57; go_wp2
               go_ret
               exact ⟨z13_3, z13_1⟩
              ·rw [if_neg c58] at H
               have c58b0 : ((bt a0_2 x5_2) == 46) = false := beq_eq_false_iff_ne.mpr c58; have c58b1 : ((bt a0_2 x5_2) != 46) = true := bne_iff_ne.mpr c58; have H' := Aside0.mk H
               clear H; have p15 : 0 ≤ (x5_2 : Int) := of_decide_eq_true z13_0; have q15 : x5_2 < (a1.size : Int) := of_decide_eq_true z13_0; have hx15 := bt_at a1 x5_2; replace p15 := eq_true p15; replace q15 := eq_true q15; have p31 : 0 ≤ (x5_2 : Int) := of_decide_eq_true z13_0; have q31 : x5_2 < (a1.size : Int) := of_decide_eq_true z13_0; have hx31 := bt_at a1 x5_2; replace p31 := eq_true p31; replace q31 := eq_true q31; obtain ⟨hcz60_0, hcz60_1, hcz60_2, hfz60_0, hfz60_1, hfz60_2⟩ := bc3_13_ BK275.out; have p53 : 0 ≤ (x5_2 : Int) := of_decide_eq_true z13_0; have q53 : x5_2 < (a0_2.size : Int) := of_decide_eq_true z13_0; have hx53 := bt_at a0_2 x5_2; replace p53 := eq_true p53; replace q53 := eq_true q53; have p55 : 0 ≤ (x5_2 : Int) := of_decide_eq_true z13_0; have q55 : x5_2 < (a1.size : Int) := of_decide_eq_true z13_0; have hx55 := bt_at a1 x5_2; replace p55 := eq_true p55; replace q55 := eq_true q55; have p57 : 0 ≤ (x5_2 : Int) := of_decide_eq_true z13_0; have q57 : x5_2 < (a0_2.size : Int) := of_decide_eq_true z13_0; have hx57 := bt_at a0_2 x5_2; replace p57 := eq_true p57; replace q57 := eq_true q57; go_wp2
               go_roundg k2
               case measure => have := HJ2.out; have := HK2.out; omega
               case rel => exact ⟨(wrap64 (x5_2 + 1)), z13_4, H', ⟨by have := HJ2.out; have := HK2.out; omega⟩, ⟨z13_2⟩, ⟨z13_1⟩⟩
             ·rw [if_neg c56] at H
              have c56b0 : ((bt a1 x5_2) == 35) = false := beq_eq_false_iff_ne.mpr c56; have c56b1 : ((bt a1 x5_2) != 35) = true := bne_iff_ne.mpr c56; obtain rfl := Option.some.inj H; have p15 : 0 ≤ (x5_2 : Int) := of_decide_eq_true z13_0; have q15 : x5_2 < (a1.size : Int) := of_decide_eq_true z13_0; have hx15 := bt_at a1 x5_2; replace p15 := eq_true p15; replace q15 := eq_true q15; have p31 : 0 ≤ (x5_2 : Int) := of_decide_eq_true z13_0; have q31 : x5_2 < (a1.size : Int) := of_decide_eq_true z13_0; have hx31 := bt_at a1 x5_2; replace p31 := eq_true p31; replace q31 := eq_true q31; obtain ⟨hcz61_0, hcz61_1, hcz61_2, hfz61_0, hfz61_1, hfz61_2⟩ := bc3_13_ BK275.out; have p53 : 0 ≤ (x5_2 : Int) := of_decide_eq_true z13_0; have q53 : x5_2 < (a0_2.size : Int) := of_decide_eq_true z13_0; have hx53 := bt_at a0_2 x5_2; replace p53 := eq_true p53; replace q53 := eq_true q53; have p55 : 0 ≤ (x5_2 : Int) := of_decide_eq_true z13_0; have q55 : x5_2 < (a1.size : Int) := of_decide_eq_true z13_0; have hx55 := bt_at a1 x5_2; replace p55 := eq_true p55; replace q55 := eq_true q55; go_wp2
              go_ret
              exact ⟨z13_3, z13_1⟩
            ·rw [if_neg c54] at H
             have c54b0 : ((bt a0_2 x5_2) == 35) = false := beq_eq_false_iff_ne.mpr c54; have c54b1 : ((bt a0_2 x5_2) != 35) = true := bne_iff_ne.mpr c54; by_cases c63 : (bt a0_2 x5_2) = 46
             ·rw [if_pos c63] at H
              have c63b0 : ((bt a0_2 x5_2) == 46) = true := beq_iff_eq.mpr c63; have c63b1 : ((bt a0_2 x5_2) != 46) = false := bne_eq_false_iff_eq.mpr c63; clear c63; obtain rfl := Option.some.inj H; have p15 : 0 ≤ (x5_2 : Int) := of_decide_eq_true z13_0; have q15 : x5_2 < (a1.size : Int) := of_decide_eq_true z13_0; have hx15 := bt_at a1 x5_2; replace p15 := eq_true p15; replace q15 := eq_true q15; have p31 : 0 ≤ (x5_2 : Int) := of_decide_eq_true z13_0; have q31 : x5_2 < (a1.size : Int) := of_decide_eq_true z13_0; have hx31 := bt_at a1 x5_2; replace p31 := eq_true p31; replace q31 := eq_true q31; obtain ⟨hcz64_0, hcz64_1, hcz64_2, hfz64_0, hfz64_1, hfz64_2⟩ := bc3_13_ BK275.out; have p53 : 0 ≤ (x5_2 : Int) := of_decide_eq_true z13_0; have q53 : x5_2 < (a0_2.size : Int) := of_decide_eq_true z13_0; have hx53 := bt_at a0_2 x5_2; replace p53 := eq_true p53; replace q53 := eq_true q53; have p62 : 0 ≤ (x5_2 : Int) := of_decide_eq_true z13_0; have q62 : x5_2 < (a0_2.size : Int) := of_decide_eq_true z13_0; have hx62 := bt_at a0_2 x5_2; replace p62 := eq_true p62; replace q62 := eq_true q62; go_wp2
              go_ret
              exact ⟨z13_3, z13_1⟩
             ·rw [if_neg c63] at H
              have c63b0 : ((bt a0_2 x5_2) == 46) = false := beq_eq_false_iff_ne.mpr c63; have c63b1 : ((bt a0_2 x5_2) != 46) = true := bne_iff_ne.mpr c63; have H' := Aside0.mk H
              clear H; have p15 : 0 ≤ (x5_2 : Int) := of_decide_eq_true z13_0; have q15 : x5_2 < (a1.size : Int) := of_decide_eq_true z13_0; have hx15 := bt_at a1 x5_2; replace p15 := eq_true p15; replace q15 := eq_true q15; have p31 : 0 ≤ (x5_2 : Int) := of_decide_eq_true z13_0; have q31 : x5_2 < (a1.size : Int) := of_decide_eq_true z13_0; have hx31 := bt_at a1 x5_2; replace p31 := eq_true p31; replace q31 := eq_true q31; obtain ⟨hcz65_0, hcz65_1, hcz65_2, hfz65_0, hfz65_1, hfz65_2⟩ := bc3_13_ BK275.out; have p53 : 0 ≤ (x5_2 : Int) := of_decide_eq_true z13_0; have q53 : x5_2 < (a0_2.size : Int) := of_decide_eq_true z13_0; have hx53 := bt_at a0_2 x5_2; replace p53 := eq_true p53; replace q53 := eq_true q53; have p62 : 0 ≤ (x5_2 : Int) := of_decide_eq_true z13_0; have q62 : x5_2 < (a0_2.size : Int) := of_decide_eq_true z13_0; have hx62 := bt_at a0_2 x5_2; replace p62 := eq_true p62; replace q62 := eq_true q62; go_wp2
              go_roundg k2
              case measure => have := HJ2.out; have := HK2.out; omega
              case rel => exact ⟨(wrap64 (x5_2 + 1)), z13_4, H', ⟨by have := HJ2.out; have := HK2.out; omega⟩, ⟨z13_2⟩, ⟨z13_1⟩⟩
           ·rw [if_neg c52] at H
            exact absurd H (by simp)
        ·rw [if_neg c14] at H
         exact absurd H (by simp)
       ·rw [if_neg c13] at H
        have c13b0 : decide (x5_2 < (a1.size : Int)) = false := decide_eq_false c13; clear c13; obtain rfl := Option.some.inj H; go_wp2
        go_ret
        exact ⟨z13_3, z13_1⟩

end Go.Proofs.Ytodcckiphdnjeaa.QFnFilled
