-- Written by a changed copy of the kit's printer (wip/mp.py of this repo), for this claim; Lean checks it.
import Derived.Test.YtodcckiphdnjeabDoorQFnFillsx0
import Derived.Test.YtodcckiphdnjeabDoorQFnFillsx2
namespace Go.Proofs.YtodcckiphdnjeabDoor.QFnFills
open Go.RowKit Go.Proofs.YtodcckiphdnjeabDoorW.PrintWords Go.Proofs.YtodcckiphdnjeabDoorW.PrintLast Go.Proofs.YtodcckiphdnjeabDoorW.PrintMore
attribute [local go_sem] max2_int min2_int max_two min_two max_three min_three max_four min_four   -- for this text's walks alone
set_option linter.unusedVariables false
set_option linter.unusedSimpArgs false

theorem z7_0 {p : Prop} (h : p := by first | (with_reducible assumption) | assumption) : p := h
theorem z7_1 {p : Prop} (h : p := by repeat (first | (with_reducible first | exact HB.out | apply below_alloc | apply pw_below_drewN | apply below_drew1 | refine below_set ?_ GE217.out) | exact HB.out)) : p := h
theorem z7_2 {p : Prop} (h : p := by (with_reducible repeat (first | refine blk_drewN ?_ _ | refine blk_drew ?_ | refine blk_alloc ?_ _)); exact BK217.out) : p := h
theorem z7_3 {p : Prop} (h : p := by first | rfl | (simp [errW_none, errW_some] <;> rfl) | (simp [*, errW_none, errW_some] <;> rfl)) : p := h
theorem z7_4 {p : Prop} (h : p := by first | rfl | (simp; done) | (simp [*]; done)) : p := h
/-! ### spec_IsFill: function 46 -/
mutual
def spec_IsFill.j0 : Nat → ByteArray → Bool → Int → Int → ByteArray → Option (Bool)
  | 0, _, _, _, _, _ => none
  | k + 1, x1, x17, x218000, x218001, x218002 => if x17 = true then (some false) else (spec_IsFill.l0 k x1 0 x218000 x218001 x218002)
def spec_IsFill.l0 : Nat → ByteArray → Int → Int → Int → ByteArray → Option (Bool)
  | 0, _, _, _, _, _ => none
  | k + 1, x1, x5, x218000, x218001, x218002 => if x5 < (x1.size : Int) then (if 0 ≤ x5 then (if (bt x1 x5) = 63 then (if x5 < (x218002.size : Int) then (if (bt x218002 x5) = 35 then (if (bt x1 x5) = 35 then (if (bt x218002 x5) = 46 then (spec_IsFill.l0 k x1 (wrap64 (x5 + 1)) x218000 x218001 x218002) else (spec_IsFill.l0 k x1 (wrap64 (x5 + 1)) x218000 x218001 x218002)) else (some false)) else (if (bt x218002 x5) = 46 then (spec_IsFill.l0 k x1 (wrap64 (x5 + 1)) x218000 x218001 x218002) else (spec_IsFill.l0 k x1 (wrap64 (x5 + 1)) x218000 x218001 x218002))) else (none)) else (if (bt x1 x5) ≥ 97 then (if x5 < (x218002.size : Int) then (if (bt x218002 x5) = 35 then (if (bt x1 x5) = 35 then (if (bt x218002 x5) = 46 then (if ((bt x1 x5) ≤ 122) then (spec_IsFill.l0 k x1 (wrap64 (x5 + 1)) x218000 x218001 x218002) else (some false)) else (spec_IsFill.l0 k x1 (wrap64 (x5 + 1)) x218000 x218001 x218002)) else (some false)) else (if (bt x218002 x5) = 46 then (if ((bt x1 x5) ≤ 122) then (spec_IsFill.l0 k x1 (wrap64 (x5 + 1)) x218000 x218001 x218002) else (some false)) else (spec_IsFill.l0 k x1 (wrap64 (x5 + 1)) x218000 x218001 x218002))) else (none)) else (if x5 < (x218002.size : Int) then (if (bt x218002 x5) = 35 then (if (bt x1 x5) = 35 then (if (bt x218002 x5) = 46 then (some false) else (spec_IsFill.l0 k x1 (wrap64 (x5 + 1)) x218000 x218001 x218002)) else (some false)) else (if (bt x218002 x5) = 46 then (some false) else (spec_IsFill.l0 k x1 (wrap64 (x5 + 1)) x218000 x218001 x218002))) else (none)))) else (none)) else (some true)
end
def spec_IsFill.f (k : Nat) (a0_0 : Int) (a0_1 : Int) (a0_2 : ByteArray) (a1 : ByteArray) : Option (Bool) := (spec_IsGrid.f k a0_0 a0_1 a0_2).bind fun t218 => (if t218 = true then (spec_IsFill.j0 k a1 ((a1.size : Int) != (a0_2.size : Int)) a0_0 a0_1 a0_2) else (spec_IsFill.j0 k a1 true a0_0 a0_1 a0_2))
theorem spec_IsFill.mono_l : ∀ k, (∀ y0 y1 y2 y3 y4, LeO (spec_IsFill.j0 k y0 y1 y2 y3 y4) (spec_IsFill.j0 (k + 1) y0 y1 y2 y3 y4)) ∧ (∀ y0 y1 y2 y3 y4, LeO (spec_IsFill.l0 k y0 y1 y2 y3 y4) (spec_IsFill.l0 (k + 1) y0 y1 y2 y3 y4))
  | 0 => ⟨fun _ _ _ _ _ r h => by simp [spec_IsFill.j0] at h, fun _ _ _ _ _ r h => by simp [spec_IsFill.l0] at h⟩
  | k + 1 => by
   obtain ⟨ih0, ih1⟩ := spec_IsFill.mono_l k; refine ⟨?_, ?_⟩
   ·intro y0 y1 y2 y3 y4
    unfold spec_IsFill.j0
    repeat' first
    | (with_reducible exact ih0 _ _ _ _ _)
    | (with_reducible exact ih1 _ _ _ _ _)
    | (with_reducible exact spec_IsGrid.mono _ _ _ _)
    | (with_reducible exact LeO.refl _)
    | (with_reducible exact LeO.none _)
    | (with_reducible refine LeO.ite ?_ ?_)
    | (with_reducible refine LeO.bind ?_ (fun _ => ?_))
    | exact ih0 _ _ _ _ _
    | exact ih1 _ _ _ _ _
    | exact spec_IsGrid.mono _ _ _ _
    | exact LeO.none _
    | refine LeO.ite ?_ ?_
    | refine LeO.bind ?_ (fun _ => ?_)
   ·intro y0 y1 y2 y3 y4
    unfold spec_IsFill.l0
    repeat' first
    | (with_reducible exact ih0 _ _ _ _ _)
    | (with_reducible exact ih1 _ _ _ _ _)
    | (with_reducible exact spec_IsGrid.mono _ _ _ _)
    | (with_reducible exact LeO.refl _)
    | (with_reducible exact LeO.none _)
    | (with_reducible refine LeO.ite ?_ ?_)
    | (with_reducible refine LeO.bind ?_ (fun _ => ?_))
    | exact ih0 _ _ _ _ _
    | exact ih1 _ _ _ _ _
    | exact spec_IsGrid.mono _ _ _ _
    | exact LeO.none _
    | refine LeO.ite ?_ ?_
    | refine LeO.bind ?_ (fun _ => ?_)
theorem spec_IsFill.mono : ∀ a0 a1 a2 a3 k, LeO (spec_IsFill.f k a0 a1 a2 a3) (spec_IsFill.f (k + 1) a0 a1 a2 a3) := by
  intro a0 a1 a2 a3 k
  obtain ⟨ih0, ih1⟩ := spec_IsFill.mono_l k; unfold spec_IsFill.f
  repeat' first
    | (with_reducible exact ih0 _ _ _ _ _)
    | (with_reducible exact ih1 _ _ _ _ _)
    | (with_reducible exact spec_IsGrid.mono _ _ _ _)
    | (with_reducible exact LeO.refl _)
    | (with_reducible exact LeO.none _)
    | (with_reducible refine LeO.ite ?_ ?_)
    | (with_reducible refine LeO.bind ?_ (fun _ => ?_))
    | exact ih0 _ _ _ _ _
    | exact ih1 _ _ _ _ _
    | exact spec_IsGrid.mono _ _ _ _
    | exact LeO.none _
    | refine LeO.ite ?_ ?_
    | refine LeO.bind ?_ (fun _ => ?_)
set_option maxHeartbeats 8000000 in
set_option maxRecDepth 100000 in
theorem spec_IsFill.calls (k : Nat) (a0_0 : Int) (a0_1 : Int) (a0_2 : ByteArray) (a1 : ByteArray) (r : Bool) (w : World) (h : spec_IsFill.f k a0_0 a0_1 a0_2 a1 = some r) :
   Calls Tryd.prog 46 #[.agg #[.int .i64 a0_0, .int .i64 a0_1, .string a0_2], .string a1] w fun e w' => e = .returned (.bool r) ∧ Below w.heap.size w w' := by
  have hu25 := Tryd.underlying25; have HB := Aside0.mk (Below.refl w.heap.size w); have H : ((spec_IsGrid.f k a0_0 a0_1 a0_2).bind fun t218 => (if t218 = true then (spec_IsFill.j0 k a1 ((a1.size : Int) != (a0_2.size : Int)) a0_0 a0_1 a0_2) else (spec_IsFill.j0 k a1 true a0_0 a0_1 a0_2))) = some r := h; clear h; have HC3 := Aside0.mk H; clear H; go_enter Tryd.func46, Tryd.ntmps46
  go_upto_region 1 with (first | ((with_reducible refine gate_dst (N := 2) rfl ?_); (try (refine gate_guard (by rfl) ?_; dsimp only)); refine box_event ?hg (N := 2) ?hd (cs := #[.int .i64 a0_0, .int .i64 a0_1, .string a0_2]) (t := 25) ?hr ?_; (case hd => rfl); (case hg => rfl); (case hr => first | (go_simp; done) | (go_simp; rfl)); intro gb217 hg w4 hbox hb; have n0_ := Aside0.mk (below_step (by repeat (first | (with_reducible first | exact HB.out | apply below_alloc | apply pw_below_drewN | apply below_drew1) | exact HB.out)) hb); have n1_ := Aside0.mk (hbox); have n2_ := Aside0.mk ((by rw [hg]; exact (below_size (by repeat (first | (with_reducible first | exact HB.out | apply below_alloc | apply pw_below_drewN | apply below_drew1) | exact HB.out))) : w.heap.size ≤ gb217)); have n3_ := Aside0.mk ((by rw [hg]; exact (below_size (by repeat (first | (with_reducible first | exact HB.out | apply below_alloc | apply pw_below_drewN | apply below_drew1) | exact HB.out))) : w.heap.size ≤ gb217)); clear HB; have HB := n0_; have BK217 := n1_; have GW217 := n2_; have GE217 := n3_; clear n0_ n1_ n2_ n3_; clear hb hbox hg))
  (try simp only [Act.put, List.setIfInBounds_toArray, List.set_cons_zero, List.set_cons_succ])
  go_cut [17] (fun v17 wc => ∃ (kq : Nat) (x17_2 : Bool), v17 = .bool x17_2 ∧ Aside0 (spec_IsFill.j0 kq a1 x17_2 a0_0 a0_1 a0_2 = some r) ∧ Aside0 (kq ≤ k) ∧ Aside0 (wc.heap[gb217]? = some (.cells #[.int .i64 a0_0, .int .i64 a0_1, .string a0_2] 25 (0, 0))) ∧ Aside0 (Below w.heap.size w wc))
  case first =>
   have H := HC3.out; clear HC3; replace H := Option.bind_eq_some_iff.mp H; obtain ⟨t218, A50, H⟩ := H; replace H : (if t218 = true then (spec_IsFill.j0 k a1 ((a1.size : Int) != (a0_2.size : Int)) a0_0 a0_1 a0_2) else (spec_IsFill.j0 k a1 true a0_0 a0_1 a0_2)) = some r := H; have A5 := Aside0.mk A50; clear A50; by_cases c6 : t218 = true
   ·subst c6; have H1 : (spec_IsFill.j0 k a1 ((a1.size : Int) != (a0_2.size : Int)) a0_0 a0_1 a0_2) = some r := by rw [if_pos rfl] at H; exact H
    clear H; have H := H1; clear H1; have H' := Aside0.mk H
    clear H; have hcz7_0 : w4.cell? ⟨gb217, 0, none⟩ = some (.int .i64 a0_0) := (blk_cell BK217.out 0).trans rfl; have hcz7_1 : w4.cell? ⟨gb217, 1, none⟩ = some (.int .i64 a0_1) := (blk_cell BK217.out 1).trans rfl; have hcz7_2 : w4.cell? ⟨gb217, 2, none⟩ = some (.string a0_2) := (blk_cell BK217.out 2).trans rfl; have hfz7_0 := blk_frozen BK217.out 0; have hfz7_1 := blk_frozen BK217.out 1; have hfz7_2 := blk_frozen BK217.out 2; go_wp2_with (first | ((with_reducible refine gate_callee (f := 61) rfl ?_); refine goesL_ (some 8) rfl rfl Tryd.func61 (by kernel_rfl) rfl #[.agg #[.int .i64 a0_0, .int .i64 a0_1, .string a0_2]] rfl (by (try simp only [List.map_toArray, List.map_cons, List.map_nil]); first | done | rfl | (simp only [List.length_drop, List.length_take]; rfl)) ?_; (with_reducible refine (spec_IsGrid.calls k a0_0 a0_1 a0_2 true _ A5.out).mono ?_); rintro e w8 ⟨rfl, hb⟩; refine ⟨_, rfl, ?_⟩; have n0_ := Aside0.mk (blk_below (g := gb217) (o := .cells #[.int .i64 a0_0, .int .i64 a0_1, .string a0_2] 25 (0, 0)) z7_2 hb); have n1_ := Aside0.mk (below_step z7_1 hb); clear BK217; clear HB; have BK217 := n0_; have HB := n1_; clear n0_ n1_; (try clear hb); (try clear hb2); (try clear hk); (try clear hi); have hcz9_0 : w8.cell? ⟨gb217, 0, none⟩ = some (.int .i64 a0_0) := (blk_cell BK217.out 0).trans rfl; have hcz9_1 : w8.cell? ⟨gb217, 1, none⟩ = some (.int .i64 a0_1) := (blk_cell BK217.out 1).trans rfl; have hcz9_2 : w8.cell? ⟨gb217, 2, none⟩ = some (.string a0_2) := (blk_cell BK217.out 2).trans rfl; have hfz9_0 := blk_frozen BK217.out 0; have hfz9_1 := blk_frozen BK217.out 1; have hfz9_2 := blk_frozen BK217.out 2))
    go_meet
    case rel => exact ⟨_, (((a1.size : Int) != (a0_2.size : Int))), z7_4, H', ⟨by first | omega | exact Nat.le_refl _⟩, ⟨z7_2⟩, ⟨z7_1⟩⟩
   ·replace c6 := Bool.eq_false_iff.mpr c6; subst c6; have H1 : (spec_IsFill.j0 k a1 true a0_0 a0_1 a0_2) = some r := by rw [if_neg (show ¬ (false = true) by decide)] at H; exact H
    clear H; have H := H1; clear H1; have H' := Aside0.mk H
    clear H; have hcz10_0 : w4.cell? ⟨gb217, 0, none⟩ = some (.int .i64 a0_0) := (blk_cell BK217.out 0).trans rfl; have hcz10_1 : w4.cell? ⟨gb217, 1, none⟩ = some (.int .i64 a0_1) := (blk_cell BK217.out 1).trans rfl; have hcz10_2 : w4.cell? ⟨gb217, 2, none⟩ = some (.string a0_2) := (blk_cell BK217.out 2).trans rfl; have hfz10_0 := blk_frozen BK217.out 0; have hfz10_1 := blk_frozen BK217.out 1; have hfz10_2 := blk_frozen BK217.out 2; go_wp2_with (first | ((with_reducible refine gate_callee (f := 61) rfl ?_); refine goesL_ (some 8) rfl rfl Tryd.func61 (by kernel_rfl) rfl #[.agg #[.int .i64 a0_0, .int .i64 a0_1, .string a0_2]] rfl (by (try simp only [List.map_toArray, List.map_cons, List.map_nil]); first | done | rfl | (simp only [List.length_drop, List.length_take]; rfl)) ?_; (with_reducible refine (spec_IsGrid.calls k a0_0 a0_1 a0_2 false _ A5.out).mono ?_); rintro e w11 ⟨rfl, hb⟩; refine ⟨_, rfl, ?_⟩; have n0_ := Aside0.mk (blk_below (g := gb217) (o := .cells #[.int .i64 a0_0, .int .i64 a0_1, .string a0_2] 25 (0, 0)) z7_2 hb); have n1_ := Aside0.mk (below_step z7_1 hb); clear BK217; clear HB; have BK217 := n0_; have HB := n1_; clear n0_ n1_; (try clear hb); (try clear hb2); (try clear hk); (try clear hi)))
    go_meet
    case rel => exact ⟨_, (true), z7_4, H', ⟨by first | omega | exact Nat.le_refl _⟩, ⟨z7_2⟩, ⟨z7_1⟩⟩
  case rest =>
   clear HC3; try clear p2
   try clear c4
   try clear c6
   try clear hcz10_0
   try clear hcz10_1
   try clear hcz10_2
   try clear hcz7_0
   try clear hcz7_1
   try clear hcz7_2
   try clear hcz9_0
   try clear hcz9_1
   try clear hcz9_2
   try clear hfz10_0
   try clear hfz10_1
   try clear hfz10_2
   try clear hfz7_0
   try clear hfz7_1
   try clear hfz7_2
   try clear hfz9_0
   try clear hfz9_1
   try clear hfz9_2
   obtain ⟨kq, x17_2, rfl, HA, HJ2, BK217, HB⟩ := hcut
   cases kq with
   | zero => exact absurd HA.out (by simp [spec_IsFill.j0])
   | succ kj2 =>
    have H := HA.out; clear HA; simp only [spec_IsFill.j0] at H; by_cases c12 : x17_2 = true
    ·subst c12; have H1 : (some false) = some r := by rw [if_pos rfl] at H; exact H
     clear H; have H := H1; clear H1; obtain rfl := Option.some.inj H; go_wp2
     go_ret
     exact ⟨z7_3, z7_1⟩
    ·replace c12 := Bool.eq_false_iff.mpr c12; subst c12; have H1 : (spec_IsFill.l0 kj2 a1 0 a0_0 a0_1 a0_2) = some r := by rw [if_neg (show ¬ (false = true) by decide)] at H; exact H
     clear H; have H := H1; clear H1; have H' := Aside0.mk H
     clear H; go_wp2
     go_loopg [5] kj2 (fun kq v5 w' => ∃ (x5_2 : Int), v5 = .int .i64 x5_2 ∧ Aside0 (spec_IsFill.l0 kq a1 x5_2 a0_0 a0_1 a0_2 = some r) ∧ Aside0 (kq ≤ kj2) ∧ Aside0 (w'.heap[gb217]? = some (.cells #[.int .i64 a0_0, .int .i64 a0_1, .string a0_2] 25 (0, 0))) ∧ Aside0 (Below w.heap.size w w'))
     case atStart => exact ⟨(0), z7_4, H', ⟨Nat.le_refl _⟩, ⟨z7_2⟩, ⟨z7_1⟩⟩
     case round =>
      clear H'; try clear c1
      try clear p2
      try clear c4
      try clear c6
      try clear c12
      try clear hcz10_0
      try clear hcz10_1
      try clear hcz10_2
      try clear hcz7_0
      try clear hcz7_1
      try clear hcz7_2
      try clear hcz9_0
      try clear hcz9_1
      try clear hcz9_2
      try clear hfz10_0
      try clear hfz10_1
      try clear hfz10_2
      try clear hfz7_0
      try clear hfz7_1
      try clear hfz7_2
      try clear hfz9_0
      try clear hfz9_1
      try clear hfz9_2
      try clear p2
      obtain ⟨x5_2, rfl, HA, HK2, BK217, HB⟩ := hrel
      cases gk with
      | zero => exact absurd HA.out (by simp [spec_IsFill.l0])
      | succ k2 =>
       have H := HA.out; clear HA; simp only [spec_IsFill.l0] at H; by_cases c13 : x5_2 < (a1.size : Int)
       ·rw [if_pos c13] at H
        have c13b0 : decide (x5_2 < (a1.size : Int)) = true := decide_eq_true c13; clear c13; by_cases c14 : 0 ≤ x5_2
        ·rw [if_pos c14] at H
         have c14b0 : decide (0 ≤ x5_2) = true := decide_eq_true c14; clear c14; by_cases c16 : (bt a1 x5_2) = 63
         ·rw [if_pos c16] at H
          have c16b0 : ((bt a1 x5_2) == 63) = true := beq_iff_eq.mpr c16; have c16b1 : ((bt a1 x5_2) != 63) = false := bne_eq_false_iff_eq.mpr c16; clear c16; by_cases c17 : x5_2 < (a0_2.size : Int)
          ·rw [if_pos c17] at H
           have c17b0 : decide (x5_2 < (a0_2.size : Int)) = true := decide_eq_true c17; clear c17; by_cases c19 : (bt a0_2 x5_2) = 35
           ·rw [if_pos c19] at H
            have c19b0 : ((bt a0_2 x5_2) == 35) = true := beq_iff_eq.mpr c19; have c19b1 : ((bt a0_2 x5_2) != 35) = false := bne_eq_false_iff_eq.mpr c19; clear c19; by_cases c21 : (bt a1 x5_2) = 35
            ·rw [if_pos c21] at H
             have c21b0 : ((bt a1 x5_2) == 35) = true := beq_iff_eq.mpr c21; have c21b1 : ((bt a1 x5_2) != 35) = false := bne_eq_false_iff_eq.mpr c21; clear c21; by_cases c23 : (bt a0_2 x5_2) = 46
             ·rw [if_pos c23] at H
              have c23b0 : ((bt a0_2 x5_2) == 46) = true := beq_iff_eq.mpr c23; have c23b1 : ((bt a0_2 x5_2) != 46) = false := bne_eq_false_iff_eq.mpr c23; clear c23; have H' := Aside0.mk H
              clear H; have p15 : 0 ≤ (x5_2 : Int) := of_decide_eq_true z7_0; have q15 : x5_2 < (a1.size : Int) := of_decide_eq_true z7_0; have hx15 := bt_at a1 x5_2; replace p15 := eq_true p15; replace q15 := eq_true q15; have hcz24_0 : wr.cell? ⟨gb217, 0, none⟩ = some (.int .i64 a0_0) := (blk_cell BK217.out 0).trans rfl; have hcz24_1 : wr.cell? ⟨gb217, 1, none⟩ = some (.int .i64 a0_1) := (blk_cell BK217.out 1).trans rfl; have hcz24_2 : wr.cell? ⟨gb217, 2, none⟩ = some (.string a0_2) := (blk_cell BK217.out 2).trans rfl; have hfz24_0 := blk_frozen BK217.out 0; have hfz24_1 := blk_frozen BK217.out 1; have hfz24_2 := blk_frozen BK217.out 2; have p18 : 0 ≤ (x5_2 : Int) := of_decide_eq_true z7_0; have q18 : x5_2 < (a0_2.size : Int) := of_decide_eq_true z7_0; have hx18 := bt_at a0_2 x5_2; replace p18 := eq_true p18; replace q18 := eq_true q18; have p20 : 0 ≤ (x5_2 : Int) := of_decide_eq_true z7_0; have q20 : x5_2 < (a1.size : Int) := of_decide_eq_true z7_0; have hx20 := bt_at a1 x5_2; replace p20 := eq_true p20; replace q20 := eq_true q20; have p22 : 0 ≤ (x5_2 : Int) := of_decide_eq_true z7_0; have q22 : x5_2 < (a0_2.size : Int) := of_decide_eq_true z7_0; have hx22 := bt_at a0_2 x5_2; replace p22 := eq_true p22; replace q22 := eq_true q22; go_wp2
              go_roundg k2
              case measure => have := HJ2.out; have := HK2.out; omega
              case rel => exact ⟨(wrap64 (x5_2 + 1)), z7_4, H', ⟨by have := HJ2.out; have := HK2.out; omega⟩, ⟨z7_2⟩, ⟨z7_1⟩⟩
             ·rw [if_neg c23] at H
              have c23b0 : ((bt a0_2 x5_2) == 46) = false := beq_eq_false_iff_ne.mpr c23; have c23b1 : ((bt a0_2 x5_2) != 46) = true := bne_iff_ne.mpr c23; have H' := Aside0.mk H
              clear H; have p15 : 0 ≤ (x5_2 : Int) := of_decide_eq_true z7_0; have q15 : x5_2 < (a1.size : Int) := of_decide_eq_true z7_0; have hx15 := bt_at a1 x5_2; replace p15 := eq_true p15; replace q15 := eq_true q15; have hcz25_0 : wr.cell? ⟨gb217, 0, none⟩ = some (.int .i64 a0_0) := (blk_cell BK217.out 0).trans rfl; have hcz25_1 : wr.cell? ⟨gb217, 1, none⟩ = some (.int .i64 a0_1) := (blk_cell BK217.out 1).trans rfl; have hcz25_2 : wr.cell? ⟨gb217, 2, none⟩ = some (.string a0_2) := (blk_cell BK217.out 2).trans rfl; have hfz25_0 := blk_frozen BK217.out 0; have hfz25_1 := blk_frozen BK217.out 1; have hfz25_2 := blk_frozen BK217.out 2; have p18 : 0 ≤ (x5_2 : Int) := of_decide_eq_true z7_0; have q18 : x5_2 < (a0_2.size : Int) := of_decide_eq_true z7_0; have hx18 := bt_at a0_2 x5_2; replace p18 := eq_true p18; replace q18 := eq_true q18; have p20 : 0 ≤ (x5_2 : Int) := of_decide_eq_true z7_0; have q20 : x5_2 < (a1.size : Int) := of_decide_eq_true z7_0; have hx20 := bt_at a1 x5_2; replace p20 := eq_true p20; replace q20 := eq_true q20; have p22 : 0 ≤ (x5_2 : Int) := of_decide_eq_true z7_0; have q22 : x5_2 < (a0_2.size : Int) := of_decide_eq_true z7_0; have hx22 := bt_at a0_2 x5_2; replace p22 := eq_true p22; replace q22 := eq_true q22; go_wp2
              go_roundg k2
              case measure => have := HJ2.out; have := HK2.out; omega
              case rel => exact ⟨(wrap64 (x5_2 + 1)), z7_4, H', ⟨by have := HJ2.out; have := HK2.out; omega⟩, ⟨z7_2⟩, ⟨z7_1⟩⟩
            ·rw [if_neg c21] at H
             have c21b0 : ((bt a1 x5_2) == 35) = false := beq_eq_false_iff_ne.mpr c21; have c21b1 : ((bt a1 x5_2) != 35) = true := bne_iff_ne.mpr c21; obtain rfl := Option.some.inj H; have p15 : 0 ≤ (x5_2 : Int) := of_decide_eq_true z7_0; have q15 : x5_2 < (a1.size : Int) := of_decide_eq_true z7_0; have hx15 := bt_at a1 x5_2; replace p15 := eq_true p15; replace q15 := eq_true q15; have hcz26_0 : wr.cell? ⟨gb217, 0, none⟩ = some (.int .i64 a0_0) := (blk_cell BK217.out 0).trans rfl; have hcz26_1 : wr.cell? ⟨gb217, 1, none⟩ = some (.int .i64 a0_1) := (blk_cell BK217.out 1).trans rfl; have hcz26_2 : wr.cell? ⟨gb217, 2, none⟩ = some (.string a0_2) := (blk_cell BK217.out 2).trans rfl; have hfz26_0 := blk_frozen BK217.out 0; have hfz26_1 := blk_frozen BK217.out 1; have hfz26_2 := blk_frozen BK217.out 2; have p18 : 0 ≤ (x5_2 : Int) := of_decide_eq_true z7_0; have q18 : x5_2 < (a0_2.size : Int) := of_decide_eq_true z7_0; have hx18 := bt_at a0_2 x5_2; replace p18 := eq_true p18; replace q18 := eq_true q18; have p20 : 0 ≤ (x5_2 : Int) := of_decide_eq_true z7_0; have q20 : x5_2 < (a1.size : Int) := of_decide_eq_true z7_0; have hx20 := bt_at a1 x5_2; replace p20 := eq_true p20; replace q20 := eq_true q20; go_wp2
             go_ret
             exact ⟨z7_3, z7_1⟩
           ·rw [if_neg c19] at H
            have c19b0 : ((bt a0_2 x5_2) == 35) = false := beq_eq_false_iff_ne.mpr c19; have c19b1 : ((bt a0_2 x5_2) != 35) = true := bne_iff_ne.mpr c19; by_cases c28 : (bt a0_2 x5_2) = 46
            ·rw [if_pos c28] at H
             have c28b0 : ((bt a0_2 x5_2) == 46) = true := beq_iff_eq.mpr c28; have c28b1 : ((bt a0_2 x5_2) != 46) = false := bne_eq_false_iff_eq.mpr c28; clear c28; have H' := Aside0.mk H
             clear H; have p15 : 0 ≤ (x5_2 : Int) := of_decide_eq_true z7_0; have q15 : x5_2 < (a1.size : Int) := of_decide_eq_true z7_0; have hx15 := bt_at a1 x5_2; replace p15 := eq_true p15; replace q15 := eq_true q15; have hcz29_0 : wr.cell? ⟨gb217, 0, none⟩ = some (.int .i64 a0_0) := (blk_cell BK217.out 0).trans rfl; have hcz29_1 : wr.cell? ⟨gb217, 1, none⟩ = some (.int .i64 a0_1) := (blk_cell BK217.out 1).trans rfl; have hcz29_2 : wr.cell? ⟨gb217, 2, none⟩ = some (.string a0_2) := (blk_cell BK217.out 2).trans rfl; have hfz29_0 := blk_frozen BK217.out 0; have hfz29_1 := blk_frozen BK217.out 1; have hfz29_2 := blk_frozen BK217.out 2; have p18 : 0 ≤ (x5_2 : Int) := of_decide_eq_true z7_0; have q18 : x5_2 < (a0_2.size : Int) := of_decide_eq_true z7_0; have hx18 := bt_at a0_2 x5_2; replace p18 := eq_true p18; replace q18 := eq_true q18; have p27 : 0 ≤ (x5_2 : Int) := of_decide_eq_true z7_0; have q27 : x5_2 < (a0_2.size : Int) := of_decide_eq_true z7_0; have hx27 := bt_at a0_2 x5_2; replace p27 := eq_true p27; replace q27 := eq_true q27; go_wp2
             go_roundg k2
             case measure => have := HJ2.out; have := HK2.out; omega
             case rel => exact ⟨(wrap64 (x5_2 + 1)), z7_4, H', ⟨by have := HJ2.out; have := HK2.out; omega⟩, ⟨z7_2⟩, ⟨z7_1⟩⟩
            ·rw [if_neg c28] at H
             have c28b0 : ((bt a0_2 x5_2) == 46) = false := beq_eq_false_iff_ne.mpr c28; have c28b1 : ((bt a0_2 x5_2) != 46) = true := bne_iff_ne.mpr c28; have H' := Aside0.mk H
             clear H; have p15 : 0 ≤ (x5_2 : Int) := of_decide_eq_true z7_0; have q15 : x5_2 < (a1.size : Int) := of_decide_eq_true z7_0; have hx15 := bt_at a1 x5_2; replace p15 := eq_true p15; replace q15 := eq_true q15; have hcz30_0 : wr.cell? ⟨gb217, 0, none⟩ = some (.int .i64 a0_0) := (blk_cell BK217.out 0).trans rfl; have hcz30_1 : wr.cell? ⟨gb217, 1, none⟩ = some (.int .i64 a0_1) := (blk_cell BK217.out 1).trans rfl; have hcz30_2 : wr.cell? ⟨gb217, 2, none⟩ = some (.string a0_2) := (blk_cell BK217.out 2).trans rfl; have hfz30_0 := blk_frozen BK217.out 0; have hfz30_1 := blk_frozen BK217.out 1; have hfz30_2 := blk_frozen BK217.out 2; have p18 : 0 ≤ (x5_2 : Int) := of_decide_eq_true z7_0; have q18 : x5_2 < (a0_2.size : Int) := of_decide_eq_true z7_0; have hx18 := bt_at a0_2 x5_2; replace p18 := eq_true p18; replace q18 := eq_true q18; have p27 : 0 ≤ (x5_2 : Int) := of_decide_eq_true z7_0; have q27 : x5_2 < (a0_2.size : Int) := of_decide_eq_true z7_0; have hx27 := bt_at a0_2 x5_2; replace p27 := eq_true p27; replace q27 := eq_true q27; go_wp2
             go_roundg k2
             case measure => have := HJ2.out; have := HK2.out; omega
             case rel => exact ⟨(wrap64 (x5_2 + 1)), z7_4, H', ⟨by have := HJ2.out; have := HK2.out; omega⟩, ⟨z7_2⟩, ⟨z7_1⟩⟩
          ·rw [if_neg c17] at H
           exact absurd H (by simp)
         ·rw [if_neg c16] at H
          have c16b0 : ((bt a1 x5_2) == 63) = false := beq_eq_false_iff_ne.mpr c16; have c16b1 : ((bt a1 x5_2) != 63) = true := bne_iff_ne.mpr c16; by_cases c32 : (bt a1 x5_2) ≥ 97
          ·rw [if_pos c32] at H
           have c32b0 : decide (97 ≤ (bt a1 x5_2)) = true := decide_eq_true c32; clear c32; by_cases c34 : x5_2 < (a0_2.size : Int)
           ·rw [if_pos c34] at H
            have c34b0 : decide (x5_2 < (a0_2.size : Int)) = true := decide_eq_true c34; clear c34; by_cases c36 : (bt a0_2 x5_2) = 35
            ·rw [if_pos c36] at H
             have c36b0 : ((bt a0_2 x5_2) == 35) = true := beq_iff_eq.mpr c36; have c36b1 : ((bt a0_2 x5_2) != 35) = false := bne_eq_false_iff_eq.mpr c36; clear c36; by_cases c38 : (bt a1 x5_2) = 35
             ·rw [if_pos c38] at H
              have c38b0 : ((bt a1 x5_2) == 35) = true := beq_iff_eq.mpr c38; have c38b1 : ((bt a1 x5_2) != 35) = false := bne_eq_false_iff_eq.mpr c38; clear c38; by_cases c40 : (bt a0_2 x5_2) = 46
              ·rw [if_pos c40] at H
               have c40b0 : ((bt a0_2 x5_2) == 46) = true := beq_iff_eq.mpr c40; have c40b1 : ((bt a0_2 x5_2) != 46) = false := bne_eq_false_iff_eq.mpr c40; clear c40; by_cases c41 : ((bt a1 x5_2) ≤ 122)
               ·rw [if_pos c41] at H
                have c41b0 : decide ((bt a1 x5_2) ≤ 122) = true := decide_eq_true c41; clear c41; have H' := Aside0.mk H
                clear H; have p15 : 0 ≤ (x5_2 : Int) := of_decide_eq_true z7_0; have q15 : x5_2 < (a1.size : Int) := of_decide_eq_true z7_0; have hx15 := bt_at a1 x5_2; replace p15 := eq_true p15; replace q15 := eq_true q15; have p31 : 0 ≤ (x5_2 : Int) := of_decide_eq_true z7_0; have q31 : x5_2 < (a1.size : Int) := of_decide_eq_true z7_0; have hx31 := bt_at a1 x5_2; replace p31 := eq_true p31; replace q31 := eq_true q31; have p33 : 0 ≤ (x5_2 : Int) := of_decide_eq_true z7_0; have q33 : x5_2 < (a1.size : Int) := of_decide_eq_true z7_0; have hx33 := bt_at a1 x5_2; replace p33 := eq_true p33; replace q33 := eq_true q33; have hcz42_0 : wr.cell? ⟨gb217, 0, none⟩ = some (.int .i64 a0_0) := (blk_cell BK217.out 0).trans rfl; have hcz42_1 : wr.cell? ⟨gb217, 1, none⟩ = some (.int .i64 a0_1) := (blk_cell BK217.out 1).trans rfl; have hcz42_2 : wr.cell? ⟨gb217, 2, none⟩ = some (.string a0_2) := (blk_cell BK217.out 2).trans rfl; have hfz42_0 := blk_frozen BK217.out 0; have hfz42_1 := blk_frozen BK217.out 1; have hfz42_2 := blk_frozen BK217.out 2; have p35 : 0 ≤ (x5_2 : Int) := of_decide_eq_true z7_0; have q35 : x5_2 < (a0_2.size : Int) := of_decide_eq_true z7_0; have hx35 := bt_at a0_2 x5_2; replace p35 := eq_true p35; replace q35 := eq_true q35; have p37 : 0 ≤ (x5_2 : Int) := of_decide_eq_true z7_0; have q37 : x5_2 < (a1.size : Int) := of_decide_eq_true z7_0; have hx37 := bt_at a1 x5_2; replace p37 := eq_true p37; replace q37 := eq_true q37; have p39 : 0 ≤ (x5_2 : Int) := of_decide_eq_true z7_0; have q39 : x5_2 < (a0_2.size : Int) := of_decide_eq_true z7_0; have hx39 := bt_at a0_2 x5_2; replace p39 := eq_true p39; replace q39 := eq_true q39; go_wp2
                go_roundg k2
                case measure => have := HJ2.out; have := HK2.out; omega
                case rel => exact ⟨(wrap64 (x5_2 + 1)), z7_4, H', ⟨by have := HJ2.out; have := HK2.out; omega⟩, ⟨z7_2⟩, ⟨z7_1⟩⟩
               ·rw [if_neg c41] at H
                have c41b0 : decide ((bt a1 x5_2) ≤ 122) = false := decide_eq_false c41; clear c41; obtain rfl := Option.some.inj H; have p15 : 0 ≤ (x5_2 : Int) := of_decide_eq_true z7_0; have q15 : x5_2 < (a1.size : Int) := of_decide_eq_true z7_0; have hx15 := bt_at a1 x5_2; replace p15 := eq_true p15; replace q15 := eq_true q15; have p31 : 0 ≤ (x5_2 : Int) := of_decide_eq_true z7_0; have q31 : x5_2 < (a1.size : Int) := of_decide_eq_true z7_0; have hx31 := bt_at a1 x5_2; replace p31 := eq_true p31; replace q31 := eq_true q31; have p33 : 0 ≤ (x5_2 : Int) := of_decide_eq_true z7_0; have q33 : x5_2 < (a1.size : Int) := of_decide_eq_true z7_0; have hx33 := bt_at a1 x5_2; replace p33 := eq_true p33; replace q33 := eq_true q33; have hcz43_0 : wr.cell? ⟨gb217, 0, none⟩ = some (.int .i64 a0_0) := (blk_cell BK217.out 0).trans rfl; have hcz43_1 : wr.cell? ⟨gb217, 1, none⟩ = some (.int .i64 a0_1) := (blk_cell BK217.out 1).trans rfl; have hcz43_2 : wr.cell? ⟨gb217, 2, none⟩ = some (.string a0_2) := (blk_cell BK217.out 2).trans rfl; have hfz43_0 := blk_frozen BK217.out 0; have hfz43_1 := blk_frozen BK217.out 1; have hfz43_2 := blk_frozen BK217.out 2; have p35 : 0 ≤ (x5_2 : Int) := of_decide_eq_true z7_0; have q35 : x5_2 < (a0_2.size : Int) := of_decide_eq_true z7_0; have hx35 := bt_at a0_2 x5_2; replace p35 := eq_true p35; replace q35 := eq_true q35; have p37 : 0 ≤ (x5_2 : Int) := of_decide_eq_true z7_0; have q37 : x5_2 < (a1.size : Int) := of_decide_eq_true z7_0; have hx37 := bt_at a1 x5_2; replace p37 := eq_true p37; replace q37 := eq_true q37; have p39 : 0 ≤ (x5_2 : Int) := of_decide_eq_true z7_0; have q39 : x5_2 < (a0_2.size : Int) := of_decide_eq_true z7_0; have hx39 := bt_at a0_2 x5_2; replace p39 := eq_true p39; replace q39 := eq_true q39; go_wp2
                go_ret
                exact ⟨z7_3, z7_1⟩
              ·rw [if_neg c40] at H
               have c40b0 : ((bt a0_2 x5_2) == 46) = false := beq_eq_false_iff_ne.mpr c40; have c40b1 : ((bt a0_2 x5_2) != 46) = true := bne_iff_ne.mpr c40; have H' := Aside0.mk H
               clear H; have p15 : 0 ≤ (x5_2 : Int) := of_decide_eq_true z7_0; have q15 : x5_2 < (a1.size : Int) := of_decide_eq_true z7_0; have hx15 := bt_at a1 x5_2; replace p15 := eq_true p15; replace q15 := eq_true q15; have p31 : 0 ≤ (x5_2 : Int) := of_decide_eq_true z7_0; have q31 : x5_2 < (a1.size : Int) := of_decide_eq_true z7_0; have hx31 := bt_at a1 x5_2; replace p31 := eq_true p31; replace q31 := eq_true q31; have p33 : 0 ≤ (x5_2 : Int) := of_decide_eq_true z7_0; have q33 : x5_2 < (a1.size : Int) := of_decide_eq_true z7_0; have hx33 := bt_at a1 x5_2; replace p33 := eq_true p33; replace q33 := eq_true q33; have hcz44_0 : wr.cell? ⟨gb217, 0, none⟩ = some (.int .i64 a0_0) := (blk_cell BK217.out 0).trans rfl; have hcz44_1 : wr.cell? ⟨gb217, 1, none⟩ = some (.int .i64 a0_1) := (blk_cell BK217.out 1).trans rfl; have hcz44_2 : wr.cell? ⟨gb217, 2, none⟩ = some (.string a0_2) := (blk_cell BK217.out 2).trans rfl; have hfz44_0 := blk_frozen BK217.out 0; have hfz44_1 := blk_frozen BK217.out 1; have hfz44_2 := blk_frozen BK217.out 2; have p35 : 0 ≤ (x5_2 : Int) := of_decide_eq_true z7_0; have q35 : x5_2 < (a0_2.size : Int) := of_decide_eq_true z7_0; have hx35 := bt_at a0_2 x5_2; replace p35 := eq_true p35; replace q35 := eq_true q35; have p37 : 0 ≤ (x5_2 : Int) := of_decide_eq_true z7_0; have q37 : x5_2 < (a1.size : Int) := of_decide_eq_true z7_0; have hx37 := bt_at a1 x5_2; replace p37 := eq_true p37; replace q37 := eq_true q37; have p39 : 0 ≤ (x5_2 : Int) := of_decide_eq_true z7_0; have q39 : x5_2 < (a0_2.size : Int) := of_decide_eq_true z7_0; have hx39 := bt_at a0_2 x5_2; replace p39 := eq_true p39; replace q39 := eq_true q39; go_wp2
               go_roundg k2
               case measure => have := HJ2.out; have := HK2.out; omega
               case rel => exact ⟨(wrap64 (x5_2 + 1)), z7_4, H', ⟨by have := HJ2.out; have := HK2.out; omega⟩, ⟨z7_2⟩, ⟨z7_1⟩⟩
             ·rw [if_neg c38] at H
              have c38b0 : ((bt a1 x5_2) == 35) = false := beq_eq_false_iff_ne.mpr c38; have c38b1 : ((bt a1 x5_2) != 35) = true := bne_iff_ne.mpr c38; obtain rfl := Option.some.inj H; have p15 : 0 ≤ (x5_2 : Int) := of_decide_eq_true z7_0; have q15 : x5_2 < (a1.size : Int) := of_decide_eq_true z7_0; have hx15 := bt_at a1 x5_2; replace p15 := eq_true p15; replace q15 := eq_true q15; have p31 : 0 ≤ (x5_2 : Int) := of_decide_eq_true z7_0; have q31 : x5_2 < (a1.size : Int) := of_decide_eq_true z7_0; have hx31 := bt_at a1 x5_2; replace p31 := eq_true p31; replace q31 := eq_true q31; have p33 : 0 ≤ (x5_2 : Int) := of_decide_eq_true z7_0; have q33 : x5_2 < (a1.size : Int) := of_decide_eq_true z7_0; have hx33 := bt_at a1 x5_2; replace p33 := eq_true p33; replace q33 := eq_true q33; have hcz45_0 : wr.cell? ⟨gb217, 0, none⟩ = some (.int .i64 a0_0) := (blk_cell BK217.out 0).trans rfl; have hcz45_1 : wr.cell? ⟨gb217, 1, none⟩ = some (.int .i64 a0_1) := (blk_cell BK217.out 1).trans rfl; have hcz45_2 : wr.cell? ⟨gb217, 2, none⟩ = some (.string a0_2) := (blk_cell BK217.out 2).trans rfl; have hfz45_0 := blk_frozen BK217.out 0; have hfz45_1 := blk_frozen BK217.out 1; have hfz45_2 := blk_frozen BK217.out 2; have p35 : 0 ≤ (x5_2 : Int) := of_decide_eq_true z7_0; have q35 : x5_2 < (a0_2.size : Int) := of_decide_eq_true z7_0; have hx35 := bt_at a0_2 x5_2; replace p35 := eq_true p35; replace q35 := eq_true q35; have p37 : 0 ≤ (x5_2 : Int) := of_decide_eq_true z7_0; have q37 : x5_2 < (a1.size : Int) := of_decide_eq_true z7_0; have hx37 := bt_at a1 x5_2; replace p37 := eq_true p37; replace q37 := eq_true q37; go_wp2
              go_ret
              exact ⟨z7_3, z7_1⟩
            ·rw [if_neg c36] at H
             have c36b0 : ((bt a0_2 x5_2) == 35) = false := beq_eq_false_iff_ne.mpr c36; have c36b1 : ((bt a0_2 x5_2) != 35) = true := bne_iff_ne.mpr c36; by_cases c47 : (bt a0_2 x5_2) = 46
             ·rw [if_pos c47] at H
              have c47b0 : ((bt a0_2 x5_2) == 46) = true := beq_iff_eq.mpr c47; have c47b1 : ((bt a0_2 x5_2) != 46) = false := bne_eq_false_iff_eq.mpr c47; clear c47; by_cases c48 : ((bt a1 x5_2) ≤ 122)
              ·rw [if_pos c48] at H
               have c48b0 : decide ((bt a1 x5_2) ≤ 122) = true := decide_eq_true c48; clear c48; have H' := Aside0.mk H
               clear H; have p15 : 0 ≤ (x5_2 : Int) := of_decide_eq_true z7_0; have q15 : x5_2 < (a1.size : Int) := of_decide_eq_true z7_0; have hx15 := bt_at a1 x5_2; replace p15 := eq_true p15; replace q15 := eq_true q15; have p31 : 0 ≤ (x5_2 : Int) := of_decide_eq_true z7_0; have q31 : x5_2 < (a1.size : Int) := of_decide_eq_true z7_0; have hx31 := bt_at a1 x5_2; replace p31 := eq_true p31; replace q31 := eq_true q31; have p33 : 0 ≤ (x5_2 : Int) := of_decide_eq_true z7_0; have q33 : x5_2 < (a1.size : Int) := of_decide_eq_true z7_0; have hx33 := bt_at a1 x5_2; replace p33 := eq_true p33; replace q33 := eq_true q33; have hcz49_0 : wr.cell? ⟨gb217, 0, none⟩ = some (.int .i64 a0_0) := (blk_cell BK217.out 0).trans rfl; have hcz49_1 : wr.cell? ⟨gb217, 1, none⟩ = some (.int .i64 a0_1) := (blk_cell BK217.out 1).trans rfl; have hcz49_2 : wr.cell? ⟨gb217, 2, none⟩ = some (.string a0_2) := (blk_cell BK217.out 2).trans rfl; have hfz49_0 := blk_frozen BK217.out 0; have hfz49_1 := blk_frozen BK217.out 1; have hfz49_2 := blk_frozen BK217.out 2; have p35 : 0 ≤ (x5_2 : Int) := of_decide_eq_true z7_0; have q35 : x5_2 < (a0_2.size : Int) := of_decide_eq_true z7_0; have hx35 := bt_at a0_2 x5_2; replace p35 := eq_true p35; replace q35 := eq_true q35; have p46 : 0 ≤ (x5_2 : Int) := of_decide_eq_true z7_0; have q46 : x5_2 < (a0_2.size : Int) := of_decide_eq_true z7_0; have hx46 := bt_at a0_2 x5_2; replace p46 := eq_true p46; replace q46 := eq_true q46; go_wp2
               go_roundg k2
               case measure => have := HJ2.out; have := HK2.out; omega
               case rel => exact ⟨(wrap64 (x5_2 + 1)), z7_4, H', ⟨by have := HJ2.out; have := HK2.out; omega⟩, ⟨z7_2⟩, ⟨z7_1⟩⟩
              ·rw [if_neg c48] at H
               have c48b0 : decide ((bt a1 x5_2) ≤ 122) = false := decide_eq_false c48; clear c48; obtain rfl := Option.some.inj H; have p15 : 0 ≤ (x5_2 : Int) := of_decide_eq_true z7_0; have q15 : x5_2 < (a1.size : Int) := of_decide_eq_true z7_0; have hx15 := bt_at a1 x5_2; replace p15 := eq_true p15; replace q15 := eq_true q15; have p31 : 0 ≤ (x5_2 : Int) := of_decide_eq_true z7_0; have q31 : x5_2 < (a1.size : Int) := of_decide_eq_true z7_0; have hx31 := bt_at a1 x5_2; replace p31 := eq_true p31; replace q31 := eq_true q31; have p33 : 0 ≤ (x5_2 : Int) := of_decide_eq_true z7_0; have q33 : x5_2 < (a1.size : Int) := of_decide_eq_true z7_0; have hx33 := bt_at a1 x5_2; replace p33 := eq_true p33; replace q33 := eq_true q33; have hcz50_0 : wr.cell? ⟨gb217, 0, none⟩ = some (.int .i64 a0_0) := (blk_cell BK217.out 0).trans rfl; have hcz50_1 : wr.cell? ⟨gb217, 1, none⟩ = some (.int .i64 a0_1) := (blk_cell BK217.out 1).trans rfl; have hcz50_2 : wr.cell? ⟨gb217, 2, none⟩ = some (.string a0_2) := (blk_cell BK217.out 2).trans rfl; have hfz50_0 := blk_frozen BK217.out 0; have hfz50_1 := blk_frozen BK217.out 1; have hfz50_2 := blk_frozen BK217.out 2; have p35 : 0 ≤ (x5_2 : Int) := of_decide_eq_true z7_0; have q35 : x5_2 < (a0_2.size : Int) := of_decide_eq_true z7_0; have hx35 := bt_at a0_2 x5_2; replace p35 := eq_true p35; replace q35 := eq_true q35; have p46 : 0 ≤ (x5_2 : Int) := of_decide_eq_true z7_0; have q46 : x5_2 < (a0_2.size : Int) := of_decide_eq_true z7_0; have hx46 := bt_at a0_2 x5_2; replace p46 := eq_true p46; replace q46 := eq_true q46; go_wp2
               go_ret
               exact ⟨z7_3, z7_1⟩
             ·rw [if_neg c47] at H
              have c47b0 : ((bt a0_2 x5_2) == 46) = false := beq_eq_false_iff_ne.mpr c47; have c47b1 : ((bt a0_2 x5_2) != 46) = true := bne_iff_ne.mpr c47; have H' := Aside0.mk H
              clear H; have p15 : 0 ≤ (x5_2 : Int) := of_decide_eq_true z7_0; have q15 : x5_2 < (a1.size : Int) := of_decide_eq_true z7_0; have hx15 := bt_at a1 x5_2; replace p15 := eq_true p15; replace q15 := eq_true q15; have p31 : 0 ≤ (x5_2 : Int) := of_decide_eq_true z7_0; have q31 : x5_2 < (a1.size : Int) := of_decide_eq_true z7_0; have hx31 := bt_at a1 x5_2; replace p31 := eq_true p31; replace q31 := eq_true q31; have p33 : 0 ≤ (x5_2 : Int) := of_decide_eq_true z7_0; have q33 : x5_2 < (a1.size : Int) := of_decide_eq_true z7_0; have hx33 := bt_at a1 x5_2; replace p33 := eq_true p33; replace q33 := eq_true q33; have hcz51_0 : wr.cell? ⟨gb217, 0, none⟩ = some (.int .i64 a0_0) := (blk_cell BK217.out 0).trans rfl; have hcz51_1 : wr.cell? ⟨gb217, 1, none⟩ = some (.int .i64 a0_1) := (blk_cell BK217.out 1).trans rfl; have hcz51_2 : wr.cell? ⟨gb217, 2, none⟩ = some (.string a0_2) := (blk_cell BK217.out 2).trans rfl; have hfz51_0 := blk_frozen BK217.out 0; have hfz51_1 := blk_frozen BK217.out 1; have hfz51_2 := blk_frozen BK217.out 2; have p35 : 0 ≤ (x5_2 : Int) := of_decide_eq_true z7_0; have q35 : x5_2 < (a0_2.size : Int) := of_decide_eq_true z7_0; have hx35 := bt_at a0_2 x5_2; replace p35 := eq_true p35; replace q35 := eq_true q35; have p46 : 0 ≤ (x5_2 : Int) := of_decide_eq_true z7_0; have q46 : x5_2 < (a0_2.size : Int) := of_decide_eq_true z7_0; have hx46 := bt_at a0_2 x5_2; replace p46 := eq_true p46; replace q46 := eq_true q46; go_wp2
              go_roundg k2
              case measure => have := HJ2.out; have := HK2.out; omega
              case rel => exact ⟨(wrap64 (x5_2 + 1)), z7_4, H', ⟨by have := HJ2.out; have := HK2.out; omega⟩, ⟨z7_2⟩, ⟨z7_1⟩⟩
           ·rw [if_neg c34] at H
            exact absurd H (by simp)
          ·rw [if_neg c32] at H
           have c32b0 : decide (97 ≤ (bt a1 x5_2)) = false := decide_eq_false c32; clear c32; by_cases c52 : x5_2 < (a0_2.size : Int)
           ·rw [if_pos c52] at H
            have c52b0 : decide (x5_2 < (a0_2.size : Int)) = true := decide_eq_true c52; clear c52; by_cases c54 : (bt a0_2 x5_2) = 35
            ·rw [if_pos c54] at H
             have c54b0 : ((bt a0_2 x5_2) == 35) = true := beq_iff_eq.mpr c54; have c54b1 : ((bt a0_2 x5_2) != 35) = false := bne_eq_false_iff_eq.mpr c54; clear c54; by_cases c56 : (bt a1 x5_2) = 35
             ·rw [if_pos c56] at H
              have c56b0 : ((bt a1 x5_2) == 35) = true := beq_iff_eq.mpr c56; have c56b1 : ((bt a1 x5_2) != 35) = false := bne_eq_false_iff_eq.mpr c56; clear c56; by_cases c58 : (bt a0_2 x5_2) = 46
              ·rw [if_pos c58] at H
               have c58b0 : ((bt a0_2 x5_2) == 46) = true := beq_iff_eq.mpr c58; have c58b1 : ((bt a0_2 x5_2) != 46) = false := bne_eq_false_iff_eq.mpr c58; clear c58; obtain rfl := Option.some.inj H; have p15 : 0 ≤ (x5_2 : Int) := of_decide_eq_true z7_0; have q15 : x5_2 < (a1.size : Int) := of_decide_eq_true z7_0; have hx15 := bt_at a1 x5_2; replace p15 := eq_true p15; replace q15 := eq_true q15; have p31 : 0 ≤ (x5_2 : Int) := of_decide_eq_true z7_0; have q31 : x5_2 < (a1.size : Int) := of_decide_eq_true z7_0; have hx31 := bt_at a1 x5_2; replace p31 := eq_true p31; replace q31 := eq_true q31; have hcz59_0 : wr.cell? ⟨gb217, 0, none⟩ = some (.int .i64 a0_0) := (blk_cell BK217.out 0).trans rfl; have hcz59_1 : wr.cell? ⟨gb217, 1, none⟩ = some (.int .i64 a0_1) := (blk_cell BK217.out 1).trans rfl; have hcz59_2 : wr.cell? ⟨gb217, 2, none⟩ = some (.string a0_2) := (blk_cell BK217.out 2).trans rfl; have hfz59_0 := blk_frozen BK217.out 0; have hfz59_1 := blk_frozen BK217.out 1; have hfz59_2 := blk_frozen BK217.out 2; have p53 : 0 ≤ (x5_2 : Int) := of_decide_eq_true z7_0; have q53 : x5_2 < (a0_2.size : Int) := of_decide_eq_true z7_0; have hx53 := bt_at a0_2 x5_2; replace p53 := eq_true p53; replace q53 := eq_true q53; have p55 : 0 ≤ (x5_2 : Int) := of_decide_eq_true z7_0; have q55 : x5_2 < (a1.size : Int) := of_decide_eq_true z7_0; have hx55 := bt_at a1 x5_2; replace p55 := eq_true p55; replace q55 := eq_true q55; have p57 : 0 ≤ (x5_2 : Int) := of_decide_eq_true z7_0; have q57 : x5_2 < (a0_2.size : Int) := of_decide_eq_true z7_0; have hx57 := bt_at a0_2 x5_2; replace p57 := eq_true p57; replace q57 := eq_true q57; go_wp2
               go_ret
               exact ⟨z7_3, z7_1⟩
              ·rw [if_neg c58] at H
               have c58b0 : ((bt a0_2 x5_2) == 46) = false := beq_eq_false_iff_ne.mpr c58; have c58b1 : ((bt a0_2 x5_2) != 46) = true := bne_iff_ne.mpr c58; have H' := Aside0.mk H
               clear H; have p15 : 0 ≤ (x5_2 : Int) := of_decide_eq_true z7_0; have q15 : x5_2 < (a1.size : Int) := of_decide_eq_true z7_0; have hx15 := bt_at a1 x5_2; replace p15 := eq_true p15; replace q15 := eq_true q15; have p31 : 0 ≤ (x5_2 : Int) := of_decide_eq_true z7_0; have q31 : x5_2 < (a1.size : Int) := of_decide_eq_true z7_0; have hx31 := bt_at a1 x5_2; replace p31 := eq_true p31; replace q31 := eq_true q31; have hcz60_0 : wr.cell? ⟨gb217, 0, none⟩ = some (.int .i64 a0_0) := (blk_cell BK217.out 0).trans rfl; have hcz60_1 : wr.cell? ⟨gb217, 1, none⟩ = some (.int .i64 a0_1) := (blk_cell BK217.out 1).trans rfl; have hcz60_2 : wr.cell? ⟨gb217, 2, none⟩ = some (.string a0_2) := (blk_cell BK217.out 2).trans rfl; have hfz60_0 := blk_frozen BK217.out 0; have hfz60_1 := blk_frozen BK217.out 1; have hfz60_2 := blk_frozen BK217.out 2; have p53 : 0 ≤ (x5_2 : Int) := of_decide_eq_true z7_0; have q53 : x5_2 < (a0_2.size : Int) := of_decide_eq_true z7_0; have hx53 := bt_at a0_2 x5_2; replace p53 := eq_true p53; replace q53 := eq_true q53; have p55 : 0 ≤ (x5_2 : Int) := of_decide_eq_true z7_0; have q55 : x5_2 < (a1.size : Int) := of_decide_eq_true z7_0; have hx55 := bt_at a1 x5_2; replace p55 := eq_true p55; replace q55 := eq_true q55; have p57 : 0 ≤ (x5_2 : Int) := of_decide_eq_true z7_0; have q57 : x5_2 < (a0_2.size : Int) := of_decide_eq_true z7_0; have hx57 := bt_at a0_2 x5_2; replace p57 := eq_true p57; replace q57 := eq_true q57; go_wp2
               go_roundg k2
               case measure => have := HJ2.out; have := HK2.out; omega
               case rel => exact ⟨(wrap64 (x5_2 + 1)), z7_4, H', ⟨by have := HJ2.out; have := HK2.out; omega⟩, ⟨z7_2⟩, ⟨z7_1⟩⟩
             ·rw [if_neg c56] at H
              have c56b0 : ((bt a1 x5_2) == 35) = false := beq_eq_false_iff_ne.mpr c56; have c56b1 : ((bt a1 x5_2) != 35) = true := bne_iff_ne.mpr c56; obtain rfl := Option.some.inj H; have p15 : 0 ≤ (x5_2 : Int) := of_decide_eq_true z7_0; have q15 : x5_2 < (a1.size : Int) := of_decide_eq_true z7_0; have hx15 := bt_at a1 x5_2; replace p15 := eq_true p15; replace q15 := eq_true q15; have p31 : 0 ≤ (x5_2 : Int) := of_decide_eq_true z7_0; have q31 : x5_2 < (a1.size : Int) := of_decide_eq_true z7_0; have hx31 := bt_at a1 x5_2; replace p31 := eq_true p31; replace q31 := eq_true q31; have hcz61_0 : wr.cell? ⟨gb217, 0, none⟩ = some (.int .i64 a0_0) := (blk_cell BK217.out 0).trans rfl; have hcz61_1 : wr.cell? ⟨gb217, 1, none⟩ = some (.int .i64 a0_1) := (blk_cell BK217.out 1).trans rfl; have hcz61_2 : wr.cell? ⟨gb217, 2, none⟩ = some (.string a0_2) := (blk_cell BK217.out 2).trans rfl; have hfz61_0 := blk_frozen BK217.out 0; have hfz61_1 := blk_frozen BK217.out 1; have hfz61_2 := blk_frozen BK217.out 2; have p53 : 0 ≤ (x5_2 : Int) := of_decide_eq_true z7_0; have q53 : x5_2 < (a0_2.size : Int) := of_decide_eq_true z7_0; have hx53 := bt_at a0_2 x5_2; replace p53 := eq_true p53; replace q53 := eq_true q53; have p55 : 0 ≤ (x5_2 : Int) := of_decide_eq_true z7_0; have q55 : x5_2 < (a1.size : Int) := of_decide_eq_true z7_0; have hx55 := bt_at a1 x5_2; replace p55 := eq_true p55; replace q55 := eq_true q55; go_wp2
              go_ret
              exact ⟨z7_3, z7_1⟩
            ·rw [if_neg c54] at H
             have c54b0 : ((bt a0_2 x5_2) == 35) = false := beq_eq_false_iff_ne.mpr c54; have c54b1 : ((bt a0_2 x5_2) != 35) = true := bne_iff_ne.mpr c54; by_cases c63 : (bt a0_2 x5_2) = 46
             ·rw [if_pos c63] at H
              have c63b0 : ((bt a0_2 x5_2) == 46) = true := beq_iff_eq.mpr c63; have c63b1 : ((bt a0_2 x5_2) != 46) = false := bne_eq_false_iff_eq.mpr c63; clear c63; obtain rfl := Option.some.inj H; have p15 : 0 ≤ (x5_2 : Int) := of_decide_eq_true z7_0; have q15 : x5_2 < (a1.size : Int) := of_decide_eq_true z7_0; have hx15 := bt_at a1 x5_2; replace p15 := eq_true p15; replace q15 := eq_true q15; have p31 : 0 ≤ (x5_2 : Int) := of_decide_eq_true z7_0; have q31 : x5_2 < (a1.size : Int) := of_decide_eq_true z7_0; have hx31 := bt_at a1 x5_2; replace p31 := eq_true p31; replace q31 := eq_true q31; have hcz64_0 : wr.cell? ⟨gb217, 0, none⟩ = some (.int .i64 a0_0) := (blk_cell BK217.out 0).trans rfl; have hcz64_1 : wr.cell? ⟨gb217, 1, none⟩ = some (.int .i64 a0_1) := (blk_cell BK217.out 1).trans rfl; have hcz64_2 : wr.cell? ⟨gb217, 2, none⟩ = some (.string a0_2) := (blk_cell BK217.out 2).trans rfl; have hfz64_0 := blk_frozen BK217.out 0; have hfz64_1 := blk_frozen BK217.out 1; have hfz64_2 := blk_frozen BK217.out 2; have p53 : 0 ≤ (x5_2 : Int) := of_decide_eq_true z7_0; have q53 : x5_2 < (a0_2.size : Int) := of_decide_eq_true z7_0; have hx53 := bt_at a0_2 x5_2; replace p53 := eq_true p53; replace q53 := eq_true q53; have p62 : 0 ≤ (x5_2 : Int) := of_decide_eq_true z7_0; have q62 : x5_2 < (a0_2.size : Int) := of_decide_eq_true z7_0; have hx62 := bt_at a0_2 x5_2; replace p62 := eq_true p62; replace q62 := eq_true q62; go_wp2
              go_ret
              exact ⟨z7_3, z7_1⟩
             ·rw [if_neg c63] at H
              have c63b0 : ((bt a0_2 x5_2) == 46) = false := beq_eq_false_iff_ne.mpr c63; have c63b1 : ((bt a0_2 x5_2) != 46) = true := bne_iff_ne.mpr c63; have H' := Aside0.mk H
              clear H; have p15 : 0 ≤ (x5_2 : Int) := of_decide_eq_true z7_0; have q15 : x5_2 < (a1.size : Int) := of_decide_eq_true z7_0; have hx15 := bt_at a1 x5_2; replace p15 := eq_true p15; replace q15 := eq_true q15; have p31 : 0 ≤ (x5_2 : Int) := of_decide_eq_true z7_0; have q31 : x5_2 < (a1.size : Int) := of_decide_eq_true z7_0; have hx31 := bt_at a1 x5_2; replace p31 := eq_true p31; replace q31 := eq_true q31; have hcz65_0 : wr.cell? ⟨gb217, 0, none⟩ = some (.int .i64 a0_0) := (blk_cell BK217.out 0).trans rfl; have hcz65_1 : wr.cell? ⟨gb217, 1, none⟩ = some (.int .i64 a0_1) := (blk_cell BK217.out 1).trans rfl; have hcz65_2 : wr.cell? ⟨gb217, 2, none⟩ = some (.string a0_2) := (blk_cell BK217.out 2).trans rfl; have hfz65_0 := blk_frozen BK217.out 0; have hfz65_1 := blk_frozen BK217.out 1; have hfz65_2 := blk_frozen BK217.out 2; have p53 : 0 ≤ (x5_2 : Int) := of_decide_eq_true z7_0; have q53 : x5_2 < (a0_2.size : Int) := of_decide_eq_true z7_0; have hx53 := bt_at a0_2 x5_2; replace p53 := eq_true p53; replace q53 := eq_true q53; have p62 : 0 ≤ (x5_2 : Int) := of_decide_eq_true z7_0; have q62 : x5_2 < (a0_2.size : Int) := of_decide_eq_true z7_0; have hx62 := bt_at a0_2 x5_2; replace p62 := eq_true p62; replace q62 := eq_true q62; go_wp2
              go_roundg k2
              case measure => have := HJ2.out; have := HK2.out; omega
              case rel => exact ⟨(wrap64 (x5_2 + 1)), z7_4, H', ⟨by have := HJ2.out; have := HK2.out; omega⟩, ⟨z7_2⟩, ⟨z7_1⟩⟩
           ·rw [if_neg c52] at H
            exact absurd H (by simp)
        ·rw [if_neg c14] at H
         exact absurd H (by simp)
       ·rw [if_neg c13] at H
        have c13b0 : decide (x5_2 < (a1.size : Int)) = false := decide_eq_false c13; clear c13; obtain rfl := Option.some.inj H; go_wp2
        go_ret
        exact ⟨z7_3, z7_1⟩

end Go.Proofs.YtodcckiphdnjeabDoor.QFnFills
