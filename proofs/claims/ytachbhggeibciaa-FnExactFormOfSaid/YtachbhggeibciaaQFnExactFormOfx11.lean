-- Written by a changed copy of the kit's printer (wip/mp.py of this repo), for this claim; Lean checks it.
import Derived.Test.YtachbhggeibciaaQFnExactFormOfx0
import Derived.Test.YtachbhggeibciaaQFnExactFormOfx10
namespace Go.Proofs.Ytachbhggeibciaa.QFnExactFormOf
open Go.RowKit Go.Proofs.YtachbhggeibciaaW.PrintWords Go.Proofs.YtachbhggeibciaaW.PrintLast Go.Proofs.YtachbhggeibciaaW.PrintMore
attribute [local go_sem] max2_int min2_int max_two min_two max_three min_three max_four min_four   -- for this text's walks alone
set_option linter.unusedVariables false
set_option linter.unusedSimpArgs false

/-! ### impl_IsGrid: function 50 -/
mutual
def impl_IsGrid.j0 : Nat → Bool → Int → Int → ByteArray → Option (Bool)
  | 0, _, _, _, _ => none
  | k + 1, x24, x262000, x262001, x262002 => if x24 = true then (some false) else (impl_IsGrid.l0 k (x262002.size : Int) 0 x262000 x262001 x262002)
def impl_IsGrid.l0 : Nat → Int → Int → Int → Int → ByteArray → Option (Bool)
  | 0, _, _, _, _, _ => none
  | k + 1, x27, x28, x262000, x262001, x262002 => if x28 < x27 then (if 0 ≤ x28 then (if x28 < (x262002.size : Int) then (if (bt x262002 x28) = 35 then (impl_IsGrid.l0 k x27 (wrap64 (x28 + 1)) x262000 x262001 x262002) else (if (bt x262002 x28) = 46 then (impl_IsGrid.l0 k x27 (wrap64 (x28 + 1)) x262000 x262001 x262002) else (some false))) else (none)) else (none)) else (some true)
end
def impl_IsGrid.f (k : Nat) (a0_0 : Int) (a0_1 : Int) (a0_2 : ByteArray) : Option (Bool) := (impl_InRange.f a0_0 2 6).bind fun t262 => (if t262 = true then ((impl_InRange.f a0_1 2 6).bind fun t263 => (if t263 = true then (impl_IsGrid.j0 k ((a0_2.size : Int) != (wrap64 (a0_0 * a0_1))) a0_0 a0_1 a0_2) else (impl_IsGrid.j0 k true a0_0 a0_1 a0_2))) else (impl_IsGrid.j0 k true a0_0 a0_1 a0_2))
theorem impl_IsGrid.mono_l : ∀ k, (∀ y0 y1 y2 y3, LeO (impl_IsGrid.j0 k y0 y1 y2 y3) (impl_IsGrid.j0 (k + 1) y0 y1 y2 y3)) ∧ (∀ y0 y1 y2 y3 y4, LeO (impl_IsGrid.l0 k y0 y1 y2 y3 y4) (impl_IsGrid.l0 (k + 1) y0 y1 y2 y3 y4))
  | 0 => ⟨fun _ _ _ _ r h => by simp [impl_IsGrid.j0] at h, fun _ _ _ _ _ r h => by simp [impl_IsGrid.l0] at h⟩
  | k + 1 => by
   obtain ⟨ih0, ih1⟩ := impl_IsGrid.mono_l k; refine ⟨?_, ?_⟩
   ·intro y0 y1 y2 y3
    unfold impl_IsGrid.j0
    repeat' first
    | (with_reducible exact ih0 _ _ _ _)
    | (with_reducible exact ih1 _ _ _ _ _)
    | (with_reducible exact LeO.refl _)
    | (with_reducible exact LeO.none _)
    | (with_reducible refine LeO.ite ?_ ?_)
    | (with_reducible refine LeO.bind ?_ (fun _ => ?_))
    | exact ih0 _ _ _ _
    | exact ih1 _ _ _ _ _
    | exact LeO.none _
    | refine LeO.ite ?_ ?_
    | refine LeO.bind ?_ (fun _ => ?_)
   ·intro y0 y1 y2 y3 y4
    unfold impl_IsGrid.l0
    repeat' first
    | (with_reducible exact ih0 _ _ _ _)
    | (with_reducible exact ih1 _ _ _ _ _)
    | (with_reducible exact LeO.refl _)
    | (with_reducible exact LeO.none _)
    | (with_reducible refine LeO.ite ?_ ?_)
    | (with_reducible refine LeO.bind ?_ (fun _ => ?_))
    | exact ih0 _ _ _ _
    | exact ih1 _ _ _ _ _
    | exact LeO.none _
    | refine LeO.ite ?_ ?_
    | refine LeO.bind ?_ (fun _ => ?_)
theorem impl_IsGrid.mono : ∀ a0 a1 a2 k, LeO (impl_IsGrid.f k a0 a1 a2) (impl_IsGrid.f (k + 1) a0 a1 a2) := by
  intro a0 a1 a2 k
  obtain ⟨ih0, ih1⟩ := impl_IsGrid.mono_l k; unfold impl_IsGrid.f
  repeat' first
    | (with_reducible exact ih0 _ _ _ _)
    | (with_reducible exact ih1 _ _ _ _ _)
    | (with_reducible exact LeO.refl _)
    | (with_reducible exact LeO.none _)
    | (with_reducible refine LeO.ite ?_ ?_)
    | (with_reducible refine LeO.bind ?_ (fun _ => ?_))
    | exact ih0 _ _ _ _
    | exact ih1 _ _ _ _ _
    | exact LeO.none _
    | refine LeO.ite ?_ ?_
    | refine LeO.bind ?_ (fun _ => ?_)
set_option maxHeartbeats 8000000 in
set_option maxRecDepth 100000 in
theorem impl_IsGrid.calls (k : Nat) (a0_0 : Int) (a0_1 : Int) (a0_2 : ByteArray) (r : Bool) (w : World) (h : impl_IsGrid.f k a0_0 a0_1 a0_2 = some r) :
   Calls Try.prog 50 #[.agg #[.int .i64 a0_0, .int .i64 a0_1, .string a0_2]] w fun e w' => e = .returned (.bool r) ∧ Below w.heap.size w w' := by
  have hu52 := Try.underlying52; have HB := Aside0.mk (Below.refl w.heap.size w); have H : ((impl_InRange.f a0_0 2 6).bind fun t262 => (if t262 = true then ((impl_InRange.f a0_1 2 6).bind fun t263 => (if t263 = true then (impl_IsGrid.j0 k ((a0_2.size : Int) != (wrap64 (a0_0 * a0_1))) a0_0 a0_1 a0_2) else (impl_IsGrid.j0 k true a0_0 a0_1 a0_2))) else (impl_IsGrid.j0 k true a0_0 a0_1 a0_2))) = some r := h; clear h; have HC2 := Aside0.mk H; clear H; go_enter Try.func50, Try.ntmps50
  go_upto_region 1 with (first | ((with_reducible refine gate_dst (N := 1) rfl ?_); (try (refine gate_guard (by rfl) ?_; dsimp only)); refine box_event ?hg (N := 1) ?hd (cs := #[.int .i64 a0_0, .int .i64 a0_1, .string a0_2]) (t := 52) ?hr ?_; (case hd => rfl); (case hg => rfl); (case hr => first | (go_simp; done) | (go_simp; rfl)); intro gb261 hg w3 hbox hb; have n0_ := Aside0.mk (below_step (by repeat (first | (with_reducible first | exact HB.out | apply below_alloc | apply pw_below_drewN | apply below_drew1) | exact HB.out)) hb); have n1_ := Aside0.mk (hbox); have n2_ := Aside0.mk ((by rw [hg]; exact (below_size (by repeat (first | (with_reducible first | exact HB.out | apply below_alloc | apply pw_below_drewN | apply below_drew1) | exact HB.out))) : w.heap.size ≤ gb261)); have n3_ := Aside0.mk ((by rw [hg]; exact (below_size (by repeat (first | (with_reducible first | exact HB.out | apply below_alloc | apply pw_below_drewN | apply below_drew1) | exact HB.out))) : w.heap.size ≤ gb261)); clear HB; have HB := n0_; have BK261 := n1_; have GW261 := n2_; have GE261 := n3_; clear n0_ n1_ n2_ n3_; clear hb hbox hg))
  (try simp only [Act.put, List.setIfInBounds_toArray, List.set_cons_zero, List.set_cons_succ])
  go_cut [24] (fun v24 wc => ∃ (kq : Nat) (x24_1 : Bool), v24 = .bool x24_1 ∧ Aside0 (impl_IsGrid.j0 kq x24_1 a0_0 a0_1 a0_2 = some r) ∧ Aside0 (kq ≤ k) ∧ Aside0 (wc.heap[gb261]? = some (.cells #[.int .i64 a0_0, .int .i64 a0_1, .string a0_2] 52 (0, 0))) ∧ Aside0 (Below w.heap.size w wc))
  case first =>
   have H := HC2.out; clear HC2; replace H := Option.bind_eq_some_iff.mp H; obtain ⟨t262, A40, H⟩ := H; replace H : (if t262 = true then ((impl_InRange.f a0_1 2 6).bind fun t263 => (if t263 = true then (impl_IsGrid.j0 k ((a0_2.size : Int) != (wrap64 (a0_0 * a0_1))) a0_0 a0_1 a0_2) else (impl_IsGrid.j0 k true a0_0 a0_1 a0_2))) else (impl_IsGrid.j0 k true a0_0 a0_1 a0_2)) = some r := H; have A4 := Aside0.mk A40; clear A40; by_cases c5 : t262 = true
   ·subst c5; have H1 : ((impl_InRange.f a0_1 2 6).bind fun t263 => (if t263 = true then (impl_IsGrid.j0 k ((a0_2.size : Int) != (wrap64 (a0_0 * a0_1))) a0_0 a0_1 a0_2) else (impl_IsGrid.j0 k true a0_0 a0_1 a0_2))) = some r := by rw [if_pos rfl] at H; exact H
    clear H; have H := H1; clear H1; replace H := Option.bind_eq_some_iff.mp H; obtain ⟨t263, A60, H⟩ := H; replace H : (if t263 = true then (impl_IsGrid.j0 k ((a0_2.size : Int) != (wrap64 (a0_0 * a0_1))) a0_0 a0_1 a0_2) else (impl_IsGrid.j0 k true a0_0 a0_1 a0_2)) = some r := H; have A6 := Aside0.mk A60; clear A60; by_cases c7 : t263 = true
    ·subst c7; have H1 : (impl_IsGrid.j0 k ((a0_2.size : Int) != (wrap64 (a0_0 * a0_1))) a0_0 a0_1 a0_2) = some r := by rw [if_pos rfl] at H; exact H
     clear H; have H := H1; clear H1; have H' := Aside0.mk H
     clear H; have hcz8_0 : w3.cell? ⟨gb261, 0, none⟩ = some (.int .i64 a0_0) := (blk_cell BK261.out 0).trans rfl; have hcz8_1 : w3.cell? ⟨gb261, 1, none⟩ = some (.int .i64 a0_1) := (blk_cell BK261.out 1).trans rfl; have hcz8_2 : w3.cell? ⟨gb261, 2, none⟩ = some (.string a0_2) := (blk_cell BK261.out 2).trans rfl; have hfz8_0 := blk_frozen BK261.out 0; have hfz8_1 := blk_frozen BK261.out 1; have hfz8_2 := blk_frozen BK261.out 2; go_wp2_with (first | ((with_reducible refine gate_callee (f := 61) rfl ?_); refine goesL_ (some 6) rfl rfl Try.func61 (by kernel_rfl) rfl #[.int .i64 a0_0, .int .i64 2, .int .i64 6] rfl (by (try simp only [List.map_toArray, List.map_cons, List.map_nil]); first | done | rfl | (simp only [List.length_drop, List.length_take]; rfl)) ?_; (with_reducible refine (impl_InRange.calls a0_0 2 6 true _ A4.out).mono ?_); rintro e w' ⟨rfl, ⟨nd, rfl⟩⟩; refine ⟨_, rfl, ?_⟩) | (go_at_call 61; (with_reducible refine (impl_InRange.calls a0_1 2 6 true _ A6.out).mono ?_); rintro e w' ⟨rfl, ⟨nd, rfl⟩⟩))
     go_meet
     case rel => exact ⟨_, (((a0_2.size : Int) != (wrap64 (a0_0 * a0_1)))), (by first | rfl | (simp; done) | (simp [*]; done)), H', ⟨by first | omega | exact Nat.le_refl _⟩, ⟨by (with_reducible repeat (first | refine blk_drewN ?_ _ | refine blk_drew ?_ | refine blk_alloc ?_ _)); exact BK261.out⟩, ⟨by repeat (first | (with_reducible first | exact HB.out | apply below_alloc | apply pw_below_drewN | apply below_drew1 | refine below_set ?_ GE261.out) | exact HB.out)⟩⟩
    ·replace c7 := Bool.eq_false_iff.mpr c7; subst c7; have H1 : (impl_IsGrid.j0 k true a0_0 a0_1 a0_2) = some r := by rw [if_neg (show ¬ (false = true) by decide)] at H; exact H
     clear H; have H := H1; clear H1; have H' := Aside0.mk H
     clear H; have hcz9_0 : w3.cell? ⟨gb261, 0, none⟩ = some (.int .i64 a0_0) := (blk_cell BK261.out 0).trans rfl; have hcz9_1 : w3.cell? ⟨gb261, 1, none⟩ = some (.int .i64 a0_1) := (blk_cell BK261.out 1).trans rfl; have hcz9_2 : w3.cell? ⟨gb261, 2, none⟩ = some (.string a0_2) := (blk_cell BK261.out 2).trans rfl; have hfz9_0 := blk_frozen BK261.out 0; have hfz9_1 := blk_frozen BK261.out 1; have hfz9_2 := blk_frozen BK261.out 2; go_wp2_with (first | ((with_reducible refine gate_callee (f := 61) rfl ?_); refine goesL_ (some 6) rfl rfl Try.func61 (by kernel_rfl) rfl #[.int .i64 a0_0, .int .i64 2, .int .i64 6] rfl (by (try simp only [List.map_toArray, List.map_cons, List.map_nil]); first | done | rfl | (simp only [List.length_drop, List.length_take]; rfl)) ?_; (with_reducible refine (impl_InRange.calls a0_0 2 6 true _ A4.out).mono ?_); rintro e w' ⟨rfl, ⟨nd, rfl⟩⟩; refine ⟨_, rfl, ?_⟩) | (go_at_call 61; (with_reducible refine (impl_InRange.calls a0_1 2 6 false _ A6.out).mono ?_); rintro e w' ⟨rfl, ⟨nd, rfl⟩⟩))
     go_meet
     case rel => exact ⟨_, (true), (by first | rfl | (simp; done) | (simp [*]; done)), H', ⟨by first | omega | exact Nat.le_refl _⟩, ⟨by (with_reducible repeat (first | refine blk_drewN ?_ _ | refine blk_drew ?_ | refine blk_alloc ?_ _)); exact BK261.out⟩, ⟨by repeat (first | (with_reducible first | exact HB.out | apply below_alloc | apply pw_below_drewN | apply below_drew1 | refine below_set ?_ GE261.out) | exact HB.out)⟩⟩
   ·replace c5 := Bool.eq_false_iff.mpr c5; subst c5; have H1 : (impl_IsGrid.j0 k true a0_0 a0_1 a0_2) = some r := by rw [if_neg (show ¬ (false = true) by decide)] at H; exact H
    clear H; have H := H1; clear H1; have H' := Aside0.mk H
    clear H; have hcz10_0 : w3.cell? ⟨gb261, 0, none⟩ = some (.int .i64 a0_0) := (blk_cell BK261.out 0).trans rfl; have hcz10_1 : w3.cell? ⟨gb261, 1, none⟩ = some (.int .i64 a0_1) := (blk_cell BK261.out 1).trans rfl; have hcz10_2 : w3.cell? ⟨gb261, 2, none⟩ = some (.string a0_2) := (blk_cell BK261.out 2).trans rfl; have hfz10_0 := blk_frozen BK261.out 0; have hfz10_1 := blk_frozen BK261.out 1; have hfz10_2 := blk_frozen BK261.out 2; go_wp2_with (first | ((with_reducible refine gate_callee (f := 61) rfl ?_); refine goesL_ (some 6) rfl rfl Try.func61 (by kernel_rfl) rfl #[.int .i64 a0_0, .int .i64 2, .int .i64 6] rfl (by (try simp only [List.map_toArray, List.map_cons, List.map_nil]); first | done | rfl | (simp only [List.length_drop, List.length_take]; rfl)) ?_; (with_reducible refine (impl_InRange.calls a0_0 2 6 false _ A4.out).mono ?_); rintro e w' ⟨rfl, ⟨nd, rfl⟩⟩; refine ⟨_, rfl, ?_⟩))
    go_meet
    case rel => exact ⟨_, (true), (by first | rfl | (simp; done) | (simp [*]; done)), H', ⟨by first | omega | exact Nat.le_refl _⟩, ⟨by (with_reducible repeat (first | refine blk_drewN ?_ _ | refine blk_drew ?_ | refine blk_alloc ?_ _)); exact BK261.out⟩, ⟨by repeat (first | (with_reducible first | exact HB.out | apply below_alloc | apply pw_below_drewN | apply below_drew1 | refine below_set ?_ GE261.out) | exact HB.out)⟩⟩
  case rest =>
   clear HC2; try clear p2
   try clear c5
   try clear c6
   try clear p6
   try clear c7
   try clear hcz10_0
   try clear hcz10_1
   try clear hcz10_2
   try clear hcz8_0
   try clear hcz8_1
   try clear hcz8_2
   try clear hcz9_0
   try clear hcz9_1
   try clear hcz9_2
   try clear hfz10_0
   try clear hfz10_1
   try clear hfz10_2
   try clear hfz8_0
   try clear hfz8_1
   try clear hfz8_2
   try clear hfz9_0
   try clear hfz9_1
   try clear hfz9_2
   obtain ⟨kq, x24_1, rfl, HA, HJ1, BK261, HB⟩ := hcut
   cases kq with
   | zero => exact absurd HA.out (by simp [impl_IsGrid.j0])
   | succ kj1 =>
    have H := HA.out; clear HA; simp only [impl_IsGrid.j0] at H; by_cases c11 : x24_1 = true
    ·subst c11; have H1 : (some false) = some r := by rw [if_pos rfl] at H; exact H
     clear H; have H := H1; clear H1; obtain rfl := Option.some.inj H; go_wp2
     go_ret
     exact ⟨by first | rfl | (simp [errW_none, errW_some] <;> rfl) | (simp [*, errW_none, errW_some] <;> rfl), by repeat (first | (with_reducible first | exact HB.out | apply below_alloc | apply pw_below_drewN | apply below_drew1 | refine below_set ?_ GE261.out) | exact HB.out)⟩
    ·replace c11 := Bool.eq_false_iff.mpr c11; subst c11; have H1 : (impl_IsGrid.l0 kj1 (a0_2.size : Int) 0 a0_0 a0_1 a0_2) = some r := by rw [if_neg (show ¬ (false = true) by decide)] at H; exact H
     clear H; have H := H1; clear H1; have H' := Aside0.mk H
     clear H; have hcz12_0 : wc.cell? ⟨gb261, 0, none⟩ = some (.int .i64 a0_0) := (blk_cell BK261.out 0).trans rfl; have hcz12_1 : wc.cell? ⟨gb261, 1, none⟩ = some (.int .i64 a0_1) := (blk_cell BK261.out 1).trans rfl; have hcz12_2 : wc.cell? ⟨gb261, 2, none⟩ = some (.string a0_2) := (blk_cell BK261.out 2).trans rfl; have hfz12_0 := blk_frozen BK261.out 0; have hfz12_1 := blk_frozen BK261.out 1; have hfz12_2 := blk_frozen BK261.out 2; go_wp2
     go_loopg [28] kj1 (fun kq v28 w' => ∃ (x28_2 : Int), v28 = .int .i64 x28_2 ∧ Aside0 (impl_IsGrid.l0 kq (a0_2.size : Int) x28_2 a0_0 a0_1 a0_2 = some r) ∧ Aside0 (kq ≤ kj1) ∧ Aside0 (w'.heap[gb261]? = some (.cells #[.int .i64 a0_0, .int .i64 a0_1, .string a0_2] 52 (0, 0))) ∧ Aside0 (Below w.heap.size w w'))
     case atStart => exact ⟨(0), (by first | rfl | (simp; done) | (simp [*]; done)), H', ⟨Nat.le_refl _⟩, ⟨by (with_reducible repeat (first | refine blk_drewN ?_ _ | refine blk_drew ?_ | refine blk_alloc ?_ _)); exact BK261.out⟩, ⟨by repeat (first | (with_reducible first | exact HB.out | apply below_alloc | apply pw_below_drewN | apply below_drew1 | refine below_set ?_ GE261.out) | exact HB.out)⟩⟩
     case round =>
      clear H'; try clear c1
      try clear p2
      try clear c5
      try clear c6
      try clear p6
      try clear c7
      try clear c11
      try clear hcz10_0
      try clear hcz10_1
      try clear hcz10_2
      try clear hcz12_0
      try clear hcz12_1
      try clear hcz12_2
      try clear hcz8_0
      try clear hcz8_1
      try clear hcz8_2
      try clear hcz9_0
      try clear hcz9_1
      try clear hcz9_2
      try clear hfz10_0
      try clear hfz10_1
      try clear hfz10_2
      try clear hfz12_0
      try clear hfz12_1
      try clear hfz12_2
      try clear hfz8_0
      try clear hfz8_1
      try clear hfz8_2
      try clear hfz9_0
      try clear hfz9_1
      try clear hfz9_2
      try clear p2
      try clear p6
      obtain ⟨x28_2, rfl, HA, HK2, BK261, HB⟩ := hrel
      cases gk with
      | zero => exact absurd HA.out (by simp [impl_IsGrid.l0])
      | succ k2 =>
       have H := HA.out; clear HA; simp only [impl_IsGrid.l0] at H; by_cases c13 : x28_2 < (a0_2.size : Int)
       ·rw [if_pos c13] at H
        have c13b0 : decide (x28_2 < (a0_2.size : Int)) = true := decide_eq_true c13; clear c13; by_cases c14 : 0 ≤ x28_2
        ·rw [if_pos c14] at H
         have c14b0 : decide (0 ≤ x28_2) = true := decide_eq_true c14; clear c14; by_cases c15 : x28_2 < (a0_2.size : Int)
         ·rw [if_pos c15] at H
          have c15b0 : decide (x28_2 < (a0_2.size : Int)) = true := decide_eq_true c15; clear c15; by_cases c17 : (bt a0_2 x28_2) = 35
          ·rw [if_pos c17] at H
           have c17b0 : ((bt a0_2 x28_2) == 35) = true := beq_iff_eq.mpr c17; have c17b1 : ((bt a0_2 x28_2) != 35) = false := bne_eq_false_iff_eq.mpr c17; clear c17; have H' := Aside0.mk H
           clear H; have hcz18_0 : wr.cell? ⟨gb261, 0, none⟩ = some (.int .i64 a0_0) := (blk_cell BK261.out 0).trans rfl; have hcz18_1 : wr.cell? ⟨gb261, 1, none⟩ = some (.int .i64 a0_1) := (blk_cell BK261.out 1).trans rfl; have hcz18_2 : wr.cell? ⟨gb261, 2, none⟩ = some (.string a0_2) := (blk_cell BK261.out 2).trans rfl; have hfz18_0 := blk_frozen BK261.out 0; have hfz18_1 := blk_frozen BK261.out 1; have hfz18_2 := blk_frozen BK261.out 2; have p16 : 0 ≤ (x28_2 : Int) := of_decide_eq_true (by first | (with_reducible assumption) | assumption)
           have q16 : x28_2 < (a0_2.size : Int) := of_decide_eq_true (by first | (with_reducible assumption) | assumption)
           have hx16 := bt_at a0_2 x28_2; replace p16 := eq_true p16; replace q16 := eq_true q16; go_wp2
           go_roundg k2
           case measure => have := HJ1.out; have := HK2.out; omega
           case rel => exact ⟨(wrap64 (x28_2 + 1)), (by first | rfl | (simp; done) | (simp [*]; done)), H', ⟨by have := HJ1.out; have := HK2.out; omega⟩, ⟨by (with_reducible repeat (first | refine blk_drewN ?_ _ | refine blk_drew ?_ | refine blk_alloc ?_ _)); exact BK261.out⟩, ⟨by repeat (first | (with_reducible first | exact HB.out | apply below_alloc | apply pw_below_drewN | apply below_drew1 | refine below_set ?_ GE261.out) | exact HB.out)⟩⟩
          ·rw [if_neg c17] at H
           have c17b0 : ((bt a0_2 x28_2) == 35) = false := beq_eq_false_iff_ne.mpr c17; have c17b1 : ((bt a0_2 x28_2) != 35) = true := bne_iff_ne.mpr c17; by_cases c20 : (bt a0_2 x28_2) = 46
           ·rw [if_pos c20] at H
            have c20b0 : ((bt a0_2 x28_2) == 46) = true := beq_iff_eq.mpr c20; have c20b1 : ((bt a0_2 x28_2) != 46) = false := bne_eq_false_iff_eq.mpr c20; clear c20; have H' := Aside0.mk H
            clear H; have hcz21_0 : wr.cell? ⟨gb261, 0, none⟩ = some (.int .i64 a0_0) := (blk_cell BK261.out 0).trans rfl; have hcz21_1 : wr.cell? ⟨gb261, 1, none⟩ = some (.int .i64 a0_1) := (blk_cell BK261.out 1).trans rfl; have hcz21_2 : wr.cell? ⟨gb261, 2, none⟩ = some (.string a0_2) := (blk_cell BK261.out 2).trans rfl; have hfz21_0 := blk_frozen BK261.out 0; have hfz21_1 := blk_frozen BK261.out 1; have hfz21_2 := blk_frozen BK261.out 2; have p16 : 0 ≤ (x28_2 : Int) := of_decide_eq_true (by first | (with_reducible assumption) | assumption)
            have q16 : x28_2 < (a0_2.size : Int) := of_decide_eq_true (by first | (with_reducible assumption) | assumption)
            have hx16 := bt_at a0_2 x28_2; replace p16 := eq_true p16; replace q16 := eq_true q16; have p19 : 0 ≤ (x28_2 : Int) := of_decide_eq_true (by first | (with_reducible assumption) | assumption)
            have q19 : x28_2 < (a0_2.size : Int) := of_decide_eq_true (by first | (with_reducible assumption) | assumption)
            have hx19 := bt_at a0_2 x28_2; replace p19 := eq_true p19; replace q19 := eq_true q19; go_wp2
            go_roundg k2
            case measure => have := HJ1.out; have := HK2.out; omega
            case rel => exact ⟨(wrap64 (x28_2 + 1)), (by first | rfl | (simp; done) | (simp [*]; done)), H', ⟨by have := HJ1.out; have := HK2.out; omega⟩, ⟨by (with_reducible repeat (first | refine blk_drewN ?_ _ | refine blk_drew ?_ | refine blk_alloc ?_ _)); exact BK261.out⟩, ⟨by repeat (first | (with_reducible first | exact HB.out | apply below_alloc | apply pw_below_drewN | apply below_drew1 | refine below_set ?_ GE261.out) | exact HB.out)⟩⟩
           ·rw [if_neg c20] at H
            have c20b0 : ((bt a0_2 x28_2) == 46) = false := beq_eq_false_iff_ne.mpr c20; have c20b1 : ((bt a0_2 x28_2) != 46) = true := bne_iff_ne.mpr c20; obtain rfl := Option.some.inj H; have hcz22_0 : wr.cell? ⟨gb261, 0, none⟩ = some (.int .i64 a0_0) := (blk_cell BK261.out 0).trans rfl; have hcz22_1 : wr.cell? ⟨gb261, 1, none⟩ = some (.int .i64 a0_1) := (blk_cell BK261.out 1).trans rfl; have hcz22_2 : wr.cell? ⟨gb261, 2, none⟩ = some (.string a0_2) := (blk_cell BK261.out 2).trans rfl; have hfz22_0 := blk_frozen BK261.out 0; have hfz22_1 := blk_frozen BK261.out 1; have hfz22_2 := blk_frozen BK261.out 2; have p16 : 0 ≤ (x28_2 : Int) := of_decide_eq_true (by first | (with_reducible assumption) | assumption)
            have q16 : x28_2 < (a0_2.size : Int) := of_decide_eq_true (by first | (with_reducible assumption) | assumption)
            have hx16 := bt_at a0_2 x28_2; replace p16 := eq_true p16; replace q16 := eq_true q16; have p19 : 0 ≤ (x28_2 : Int) := of_decide_eq_true (by first | (with_reducible assumption) | assumption)
            have q19 : x28_2 < (a0_2.size : Int) := of_decide_eq_true (by first | (with_reducible assumption) | assumption)
            have hx19 := bt_at a0_2 x28_2; replace p19 := eq_true p19; replace q19 := eq_true q19; go_wp2
            go_ret
            exact ⟨by first | rfl | (simp [errW_none, errW_some] <;> rfl) | (simp [*, errW_none, errW_some] <;> rfl), by repeat (first | (with_reducible first | exact HB.out | apply below_alloc | apply pw_below_drewN | apply below_drew1 | refine below_set ?_ GE261.out) | exact HB.out)⟩
         ·rw [if_neg c15] at H
          exact absurd H (by simp)
        ·rw [if_neg c14] at H
         exact absurd H (by simp)
       ·rw [if_neg c13] at H
        have c13b0 : decide (x28_2 < (a0_2.size : Int)) = false := decide_eq_false c13; clear c13; obtain rfl := Option.some.inj H; go_wp2
        go_ret
        exact ⟨by first | rfl | (simp [errW_none, errW_some] <;> rfl) | (simp [*, errW_none, errW_some] <;> rfl), by repeat (first | (with_reducible first | exact HB.out | apply below_alloc | apply pw_below_drewN | apply below_drew1 | refine below_set ?_ GE261.out) | exact HB.out)⟩

/-! ### impl_at: function 62 -/
def impl_at.f (a0 : Int) (a1 : Int) : Option (Bool) := if a0 ≥ 0 then (some (decide (a0 < a1))) else (some false)
set_option maxHeartbeats 8000000 in
set_option maxRecDepth 100000 in
theorem impl_at.calls (a0 : Int) (a1 : Int) (r : Bool) (w : World) (h : impl_at.f a0 a1 = some r) :
   Calls Try.prog 62 #[.int .i64 a0, .int .i64 a1] w fun e w' => e = .returned (.bool r) ∧ Drawn0 w w' := by
  have H : (if a0 ≥ 0 then (some (decide (a0 < a1))) else (some false)) = some r := h; clear h; by_cases c3 : a0 ≥ 0
  ·rw [if_pos c3] at H
   have c3b0 : decide (0 ≤ a0) = true := decide_eq_true c3; clear c3; obtain rfl := Option.some.inj H; go_enter Try.func62, Try.ntmps62
   go_wp2
   go_ret
   exact ⟨by first | rfl | (simp; done) | (simp [*]; done), by repeat (first | exact Drawn0.refl _ | apply Drawn0.step)⟩
  ·rw [if_neg c3] at H
   have c3b0 : decide (0 ≤ a0) = false := decide_eq_false c3; clear c3; obtain rfl := Option.some.inj H; go_enter Try.func62, Try.ntmps62
   go_wp2
   go_ret
   exact ⟨by first | rfl | (simp; done) | (simp [*]; done), by repeat (first | exact Drawn0.refl _ | apply Drawn0.step)⟩

-- NOT PRINTED: function 100 (impl_PartsOf_1)

/-! ### impl_PartsOf: function 49 (given) -/
/-- One mark in memory. -/
def encBo (b : Bool) : Value := .bool b
def visF (R C : Int) (s : ByteArray) : Nat → List Bool → Int → Int → List Bool
  | 0, m, _, _ => m
  | k + 1, m, r, c => if (0 ≤ r ∧ r < R) ∧ (0 ≤ c ∧ c < C) ∧ (m.getD (r * C + c).toNat false = false ∧ bt s (r * C + c) = 46) then visF R C s k (visF R C s k (visF R C s k (visF R C s k (m.set (r * C + c).toNat true) (r - 1) c) (r + 1) c) r (c - 1)) r (c + 1) else m
def partsGo (R C : Int) (s : ByteArray) : List Nat → List Bool → Nat → Nat
  | [], _, n => n
  | i :: l, m, n => if bt s i = 46 ∧ m.getD i false = false then partsGo R C s l (visF R C s (s.size + 1) m ((i : Int) / C) ((i : Int) % C)) (n + 1) else partsGo R C s l m n
theorem visF_length (R C : Int) (s : ByteArray) : ∀ (k : Nat) (m : List Bool) (r c : Int), (visF R C s k m r c).length = m.length ∧ (visF R C s k m r c).count false ≤ m.count false
  | 0, _, _, _ => ⟨rfl, Nat.le_refl _⟩
  | k + 1, m, r, c => by
    have ih := visF_length R C s k; unfold visF
    split
    · rename_i h
      have hc : (m.set (r * C + c).toNat true).count false ≤ m.count false := by
        by_cases hi : (r * C + c).toNat < m.length
        · rw [List.count_set hi]
          simp
        · rw [List.set_eq_of_length_le (by omega)]
          exact Nat.le_refl _
      refine ⟨by simp [ih], ?_⟩
      exact Nat.le_trans (ih _ _ _).2 (Nat.le_trans (ih _ _ _).2 (Nat.le_trans (ih _ _ _).2 (Nat.le_trans (ih _ _ _).2 hc)))
    · exact ⟨rfl, Nat.le_refl _⟩
theorem vis_idx {R C : Nat} {r c : Int} (hR : R ≤ 6) (hC : C ≤ 6) (hr : 0 ≤ r ∧ r < R) (hc : 0 ≤ c ∧ c < C) : ∃ i : Nat, r * C + c = i ∧ i < R * C ∧ wrap64 (r * (C : Int)) = r * (C : Int) ∧ wrap64 (r * (C : Int) + c) = (i : Int) := by
  obtain ⟨a, rfl⟩ := Int.eq_ofNat_of_zero_le hr.1; obtain ⟨b, rfl⟩ := Int.eq_ofNat_of_zero_le hc.1; have h1 : (a + 1) * C ≤ R * C := Nat.mul_le_mul_right _ (by omega); have h2 : R * C ≤ 36 := Nat.mul_le_mul hR hC; rw [Nat.add_mul, Nat.one_mul] at h1
  refine ⟨a * C + b, by simp, by omega, ?_, ?_⟩
  · rw [← Int.natCast_mul]
    unfold wrap64
    omega
  · rw [← Int.natCast_mul]
    unfold wrap64
    omega
theorem at_yes {a b : Int} (w : World) (h0 : 0 ≤ a) (h1 : a < b) : Calls Try.prog 62 #[.int .i64 a, .int .i64 b] w fun e w' => e = .returned (.bool true) ∧ w = w' := by
  have c0 : decide (0 ≤ a) = true := decide_eq_true h0; have c1 : decide (a < b) = true := decide_eq_true h1; go_enter Try.func62, Try.ntmps62
  go_wp2
  go_ret
  exact ⟨rfl, rfl⟩
theorem at_no {a b : Int} (w : World) (h : ¬ (0 ≤ a ∧ a < b)) : Calls Try.prog 62 #[.int .i64 a, .int .i64 b] w fun e w' => e = .returned (.bool false) ∧ w = w' := by
  by_cases h0 : 0 ≤ a
  · have c0 : decide (0 ≤ a) = true := decide_eq_true h0
    have c1 : decide (a < b) = false := decide_eq_false (fun h1 => h ⟨h0, h1⟩); clear h; go_enter Try.func62, Try.ntmps62
    go_wp2
    go_ret
    exact ⟨rfl, rfl⟩
  · have c0 : decide (0 ≤ a) = false := decide_eq_false h0
    clear h; go_enter Try.func62, Try.ntmps62
    go_wp2
    go_ret
    exact ⟨rfl, rfl⟩
/-- What a visit reads and leaves alone: the grid, the marks' slice, the function itself. -/
structure VisAt (R C : Nat) (s : ByteArray) (Gb Mb Vb A cap n : Nat) (w : World) : Prop where
  g0 : w.cell? ⟨Gb, 0, none⟩ = some (.int .i64 R)
  g1 : w.cell? ⟨Gb, 1, none⟩ = some (.int .i64 C)
  g2 : w.cell? ⟨Gb, 2, none⟩ = some (.string s)
  m0 : w.cell? ⟨Mb, 0, none⟩ = some (.slice (some ⟨A, 0, none⟩) n cap)
  v0 : w.cell? ⟨Vb, 0, none⟩ = some (.func (.func 100) #[] #[.pointer (some ⟨Gb, 0, none⟩), .pointer (some ⟨Mb, 0, none⟩), .pointer (some ⟨Vb, 0, none⟩)])
theorem VisAt.step {R C : Nat} {s : ByteArray} {Gb Mb Vb A cap n : Nat} {W0 : World} (h : VisAt R C s Gb Mb Vb A cap n W0) (hg : Gb ≠ A) (hm : Mb ≠ A) (hv : Vb ≠ A) (q : Nat) (d : Array Bool) :
    VisAt R C s Gb Mb Vb A cap n (Go.Sort.putRow encBo (Go.Sort.ahead W0 q) A 0 d) :=
  ⟨by rw [Go.Sort.cell?_putRow_other _ _ _ _ _ _ (.inl hg)]; exact h.g0, by rw [Go.Sort.cell?_putRow_other _ _ _ _ _ _ (.inl hg)]; exact h.g1, by rw [Go.Sort.cell?_putRow_other _ _ _ _ _ _ (.inl hg)]; exact h.g2, by rw [Go.Sort.cell?_putRow_other _ _ _ _ _ _ (.inl hm)]; exact h.m0, by rw [Go.Sort.cell?_putRow_other _ _ _ _ _ _ (.inl hv)]; exact h.v0⟩
theorem bo_get {m : List Bool} {i : Nat} (h : i < m.length) : (m.toArray)[i]! = m[i] := by
  rw [getElem!_pos m.toArray i (by simpa using h)]
  simp
theorem bo_set (m : List Bool) (i : Nat) : m.toArray.setIfInBounds i true = (m.set i true).toArray := by simp
set_option maxHeartbeats 1000000 in
set_option maxRecDepth 100000 in
theorem visit_calls (R C : Nat) (s : ByteArray) (Gb Mb Vb A cap : Nat) (W0 : World) (d0 : Array Bool) (hR : R ≤ 6) (hC : C ≤ 6) (N : Nat) (hN : N = R * C) (hs : s.size = N) (hd : d0.size = N) (hF : VisAt R C s Gb Mb Vb A cap N W0) (hH : Go.Sort.Holds encBo W0 A 0 d0) (hg : Gb ≠ A) (hm : Mb ≠ A) (hv : Vb ≠ A) :
    ∀ (k : Nat) (r c : Int) (m : List Bool) (q : Nat) (w : World), m.length = N → m.count false < k → -1 ≤ r → r ≤ R → -1 ≤ c → c ≤ C → w = Go.Sort.putRow encBo (Go.Sort.ahead W0 q) A 0 m.toArray →
    Calls Try.prog 100 #[.int .i64 r, .int .i64 c, .pointer (some ⟨Gb, 0, none⟩), .pointer (some ⟨Mb, 0, none⟩), .pointer (some ⟨Vb, 0, none⟩)] w fun e w' => e = .returned (.tuple #[]) ∧ ∃ q', w' = Go.Sort.putRow encBo (Go.Sort.ahead W0 q') A 0 (visF R C s k m r c).toArray
  | 0, _, _, _, _, _, _, h, _, _, _, _, _ => by omega
  | k + 1, r, c, m, q, w, hl, hk, r0, r1, c0, c1, hw => by
    have hfix : VisAt R C s Gb Mb Vb A cap N w := hw ▸ hF.step hg hm hv q m.toArray; obtain ⟨x0, x1, x2, x3, x4⟩ := hfix; have HW := Aside0.mk hw; have ih := visit_calls R C s Gb Mb Vb A cap W0 d0 hR hC N hN hs hd hF hH hg hm hv k; by_cases hr : 0 ≤ r ∧ r < R
    · by_cases hc : 0 ≤ c ∧ c < C
      · obtain ⟨i, e1, e2, e3, e4⟩ := vis_idx hR hC hr hc
        rw [← hN] at e2
        have hil : i < m.length := by omega
        have hHw : Go.Sort.Holds encBo w A 0 m.toArray := by rw [hw]; exact Go.Sort.holds_putRow encBo _ A 0 d0 m.toArray hH (by simp; omega)
        obtain ⟨ci, fi⟩ := hHw i (by simpa using hil); rw [Nat.zero_add] at ci fi
        rw [bo_get hil] at ci
        unfold encBo at ci
        have p1 : (0 ≤ (i : Int)) = True := eq_true (by omega); have q1 : ((i : Int) < (N : Int)) = True := eq_true (by omega); have q2 : ((i : Int) < (s.size : Int)) = True := eq_true (by omega); have ky := at_yes (a := r) (b := (R : Int)) w hr.1 hr.2; have ky2 := at_yes (a := c) (b := (C : Int)) w hc.1 hc.2; by_cases hmk : m[i] = true
        · rw [hmk] at ci
          have hf : visF R C s (k + 1) m r c = m := by
            unfold visF
            rw [if_neg]
            rintro ⟨_, _, h3, _⟩
            rw [e1, Int.toNat_natCast, List.getD_eq_getElem?_getD, List.getElem?_eq_getElem hil] at h3
            simp [hmk] at h3
          rw [hf]
          clear hN ih hHw hw hf e1 e2 hmk hF hH hg hm hv hd hs hl hil; go_enter Try.func100, Try.ntmps100
          go_wp2_with (first | (go_at_call 62; (with_reducible refine ky.mono ?_); rintro e w' ⟨rfl, rfl⟩) | (go_at_call 62; (with_reducible refine ky2.mono ?_); rintro e w' ⟨rfl, rfl⟩))
          exact bodyPost_ret (v := .tuple #[]) (by simp [results, Try.results100, go_sem]) rfl ⟨rfl, q, HW.out⟩
        · have hmf : m[i] = false := by simpa using hmk
          rw [hmf] at ci
          by_cases hb : bt s (i : Int) = 46
          · have zb : (bt s (i : Int) == 46) = true := beq_iff_eq.mpr hb
            have zb2 : (bt s (i : Int) != 46) = false := by simp [hb]
            have hx8 := bt_at s (i : Int); simp only [Int.toNat_natCast] at hx8; have his : i < s.size := by clear ih; omega
            replace hx8 := hx8 his; rw [← hx8] at zb zb2
            have hf : visF R C s (k + 1) m r c = visF R C s k (visF R C s k (visF R C s k (visF R C s k (m.set i true) (r - 1) c) (r + 1) c) r (c - 1)) r (c + 1) := by
              conv => lhs; unfold visF
              rw [e1, Int.toNat_natCast, if_pos ⟨hr, hc, by rw [List.getD_eq_getElem?_getD, List.getElem?_eq_getElem hil]; simp [hmf], hb⟩]
            rw [hf]
            have hcnt : (m.set i true).count false < k := by
              have hpos : 0 < m.count false := List.count_pos_iff.mpr (hmf ▸ List.getElem_mem hil); rw [List.count_set hil]
              simp [hmf]
              omega
            have hw1 : w.setCell ⟨A, i, none⟩ (.bool true) = Go.Sort.putRow encBo (Go.Sort.ahead W0 q) A 0 (m.set i true).toArray := by
              rw [hw, ← bo_set m i]
              have := Go.Sort.putRow_set encBo (Go.Sort.ahead W0 q) A 0 m.toArray i true (by simpa using hil)
              rw [Nat.zero_add] at this
              exact this
            obtain ⟨y0, y1, y2, y3, y4⟩ : VisAt R C s Gb Mb Vb A cap N (w.setCell ⟨A, i, none⟩ (.bool true)) := hw1 ▸ hF.step hg hm hv q (m.set i true).toArray; have hl1 : (m.set i true).length = N := by simpa using hl
            have v1 := visF_length R C s k (m.set i true) (r - 1) c; have v2 := visF_length R C s k (visF R C s k (m.set i true) (r - 1) c) (r + 1) c; have v3 := visF_length R C s k (visF R C s k (visF R C s k (m.set i true) (r - 1) c) (r + 1) c) r (c - 1); have IH1 := Aside0.mk (ih (r - 1) c (m.set i true) q (w.setCell ⟨A, i, none⟩ (.bool true)) hl1 hcnt (by omega) (by omega) c0 c1 hw1); have IH2 := Aside0.mk (fun q' w' hw' => ih (r + 1) c _ q' w' (v1.1.trans hl1) (by omega) (by omega) (by omega) c0 c1 hw'); have IH3 := Aside0.mk (fun q' w' hw' => ih r (c - 1) _ q' w' (v2.1.trans (v1.1.trans hl1)) (by omega) (by omega) (by omega) (by omega) (by omega) hw'); have IH4 := Aside0.mk (fun q' w' hw' => ih r (c + 1) _ q' w' (v3.1.trans (v2.1.trans (v1.1.trans hl1))) (by omega) (by omega) (by omega) (by omega) (by omega) hw'); have FX := Aside0.mk (fun q' (d : Array Bool) => hF.step hg hm hv q' d); clear hN ih hHw hw hf e1 e2 hmk hF hH hd hs hl hil hmf hb hw1 hl1 v1 v2 v3 hcnt hx8; go_enter Try.func100, Try.ntmps100
            go_wp2_with (first | (go_at_call 62; (with_reducible refine ky.mono ?_); rintro e w' ⟨rfl, rfl⟩) | (go_at_call 62; (with_reducible refine ky2.mono ?_); rintro e w' ⟨rfl, rfl⟩))
            go_at_call 100
            refine IH1.out.mono ?_
            rintro e w1 ⟨rfl, q1', hw1⟩
            obtain ⟨_, _, _, _, z4⟩ : VisAt R C s Gb Mb Vb A cap N w1 := hw1 ▸ FX.out q1' _; have HW1 := Aside0.mk hw1; clear hw1 x0 x1 x2 x3 x4 y0 y1 y2 y3 y4; go_wp2_with fail
            go_at_call 100
            refine (IH2.out q1' _ HW1.out).mono ?_
            rintro e w2 ⟨rfl, q2', hw2⟩
            obtain ⟨_, _, _, _, z5⟩ : VisAt R C s Gb Mb Vb A cap N w2 := hw2 ▸ FX.out q2' _; have HW2 := Aside0.mk hw2; clear hw2 z4; go_wp2_with fail
            go_at_call 100
            refine (IH3.out q2' _ HW2.out).mono ?_
            rintro e w3 ⟨rfl, q3', hw3⟩
            obtain ⟨_, _, _, _, z6⟩ : VisAt R C s Gb Mb Vb A cap N w3 := hw3 ▸ FX.out q3' _; have HW3 := Aside0.mk hw3; clear hw3 z5; go_wp2_with fail
            go_at_call 100
            refine (IH4.out q3' _ HW3.out).mono ?_
            rintro e w4 ⟨rfl, q4', hw4⟩
            have HW4 := Aside0.mk hw4; clear hw4 z6; go_wp2_with fail
            go_end0
            exact ⟨rfl, q4', HW4.out⟩
          · have zb : (bt s (i : Int) == 46) = false := beq_eq_false_iff_ne.mpr hb
            have zb2 : (bt s (i : Int) != 46) = true := by simp [hb]
            have hx8 := bt_at s (i : Int); simp only [Int.toNat_natCast] at hx8; have his : i < s.size := by clear ih; omega
            replace hx8 := hx8 his; rw [← hx8] at zb zb2
            have hf : visF R C s (k + 1) m r c = m := by
              unfold visF
              rw [if_neg]
              rintro ⟨_, _, _, h3⟩
              rw [e1] at h3
              exact hb h3
            rw [hf]
            clear hN ih hHw hw hf e1 e2 hmk hF hH hg hm hv hd hs hl hil hb hmf hx8; go_enter Try.func100, Try.ntmps100
            go_wp2_with (first | (go_at_call 62; (with_reducible refine ky.mono ?_); rintro e w' ⟨rfl, rfl⟩) | (go_at_call 62; (with_reducible refine ky2.mono ?_); rintro e w' ⟨rfl, rfl⟩))
            exact bodyPost_ret (v := .tuple #[]) (by simp [results, Try.results100, go_sem]) rfl ⟨rfl, q, HW.out⟩
      · have ky := at_yes (a := r) (b := (R : Int)) w hr.1 hr.2
        have ky2 := at_no (a := c) (b := (C : Int)) w hc
        have hf : visF R C s (k + 1) m r c = m := by
          unfold visF
          rw [if_neg]
          rintro ⟨_, h3, _⟩
          exact hc h3
        rw [hf]
        clear hN ih hw hf hF hH hg hm hv hd hs hl hc; go_enter Try.func100, Try.ntmps100
        go_wp2_with (first | (go_at_call 62; (with_reducible refine ky.mono ?_); rintro e w' ⟨rfl, rfl⟩) | (go_at_call 62; (with_reducible refine ky2.mono ?_); rintro e w' ⟨rfl, rfl⟩))
        exact bodyPost_ret (v := .tuple #[]) (by simp [results, Try.results100, go_sem]) rfl ⟨rfl, q, HW.out⟩
    · have ky := at_no (a := r) (b := (R : Int)) w hr
      have hf : visF R C s (k + 1) m r c = m := by
        unfold visF
        rw [if_neg]
        rintro ⟨h3, _⟩
        exact hr h3
      rw [hf]
      clear hN ih hw hf hF hH hg hm hv hd hs hl hr; go_enter Try.func100, Try.ntmps100
      go_wp2_with (go_at_call 62; (with_reducible refine ky.mono ?_); rintro e w' ⟨rfl, rfl⟩)
      exact bodyPost_ret (v := .tuple #[]) (by simp [results, Try.results100, go_sem]) rfl ⟨rfl, q, HW.out⟩
theorem box_cell {w w1 : World} {cs : Array Value} {t : TypeId} (hb : Below (w.alloc (.cells cs t)).heap.size (w.alloc (.cells cs t)) w1) (j : Nat) (v : Value) (h : cs[j]? = some v) : w1.cell? ⟨w.heap.size, j, none⟩ = some v := by
  have h1 : (⟨w.heap.size, j, none⟩ : Addr).block < (w.alloc (.cells cs t)).heap.size := by simp [World.alloc, -World.alloc_eq]
  rw [hb.cell h1]
  simp [World.cell?, World.alloc, -World.alloc_eq, h]
def impl_PartsOf.f (k : Nat) (r c : Int) (s : ByteArray) : Option Int := (impl_IsGrid.f k r c s).bind fun b => if b = true then (if (2 ≤ r ∧ r ≤ 6) ∧ (2 ≤ c ∧ c ≤ 6) ∧ (s.size : Int) = r * c then some (partsGo r c s (List.range' 0 s.size) (List.replicate s.size false) 0 : Nat) else none) else some 0
theorem impl_PartsOf.mono : ∀ a0 a1 a2 k, LeO (impl_PartsOf.f k a0 a1 a2) (impl_PartsOf.f (k + 1) a0 a1 a2) := by
  intro a0 a1 a2 k
  unfold impl_PartsOf.f
  exact LeO.bind (impl_IsGrid.mono _ _ _ _) (fun _ => LeO.refl _)
theorem bo_holds {w : World} {base g cap : Nat} {ok : Nat → Prop} {n : Nat} {l : List Bool} (h : Kd.bool.R 4 w base ok (.slice (some ⟨g, 0, none⟩) n cap) l) : Go.Sort.Holds encBo w g 0 l.toArray := by
  intro j hj
  have hl : j < l.length := by simpa using hj
  have hn := (Kd.R_reads' h).1; obtain ⟨h1, h2⟩ := Kd.R_celln false h (j : Int) (by omega) (by omega); rw [Int.toNat_natCast] at h1 h2
  rw [Nat.zero_add, bo_get hl]
  refine ⟨h1.trans ?_, h2⟩
  unfold rdOf encBo
  simp [hl]
theorem cell_on {w w1 : World} {a : Addr} {v : Value} (hx : w.cell? a = some v) (hb : Below w.heap.size w w1) : w1.cell? a = some v := (hb.cell (World.block_lt_of_cell? w _ hx)).trans hx
theorem pa_div {i C : Nat} (h0 : 0 < C) (h : i < 1000) (h6 : C ≤ 1000) : Int.tdiv (i : Int) (C : Int) = (i : Int) / C ∧ Int.tmod (i : Int) (C : Int) = (i : Int) % C ∧ wrap64 ((i : Int) / C) = (i : Int) / C ∧ 0 ≤ (i : Int) / C ∧ 0 ≤ (i : Int) % C ∧ (i : Int) % C < C ∧ wrap64 ((i : Int) % C) = (i : Int) % C := by
  have e1 : Int.tdiv (i : Int) (C : Int) = (i : Int) / C := Int.tdiv_eq_ediv_of_nonneg (by omega); have e2 : Int.tmod (i : Int) (C : Int) = (i : Int) % C := Int.tmod_eq_emod_of_nonneg (by omega); have h2 : (i : Int) / C = ((i / C : Nat) : Int) := by simp
  have h3 : (i : Int) % C = ((i % C : Nat) : Int) := by simp
  have h4 := Nat.div_le_self i C; have h5 := Nat.mod_lt i h0; rw [e1, e2, h2, h3]
  generalize i / C = a at h4 ⊢
  generalize i % C = b at h5 ⊢
  unfold wrap64
  refine ⟨rfl, rfl, ?_, ?_, ?_, ?_, ?_⟩ <;> omega
theorem vis_at {R C : Nat} {s : ByteArray} {Gb g cap n : Nat} {w3 : World} {t1 t2 : TypeId} (y0 : w3.cell? ⟨Gb, 0, none⟩ = some (.int .i64 R)) (y1 : w3.cell? ⟨Gb, 1, none⟩ = some (.int .i64 C)) (y2 : w3.cell? ⟨Gb, 2, none⟩ = some (.string s)) :
    VisAt R C s Gb w3.heap.size (w3.heap.size + 1) g cap n ((w3.alloc (.cells #[.slice (some ⟨g, 0, none⟩) n cap] t1)).alloc (.cells #[.func (.func 100) #[] #[.pointer (some ⟨Gb, 0, none⟩), .pointer (some ⟨w3.heap.size, 0, none⟩), .pointer (some ⟨w3.heap.size + 1, 0, none⟩)]] t2)) := by
  have hb := below_alloc (below_alloc (Below.refl w3.heap.size w3) (.cells #[.slice (some ⟨g, 0, none⟩) n cap] t1)) (.cells #[.func (.func 100) #[] #[.pointer (some ⟨Gb, 0, none⟩), .pointer (some ⟨w3.heap.size, 0, none⟩), .pointer (some ⟨w3.heap.size + 1, 0, none⟩)]] t2); refine ⟨cell_on y0 hb, cell_on y1 hb, cell_on y2 hb, ?_, ?_⟩
  · simp [World.cell?, World.alloc, -World.alloc_eq, Array.getElem?_push]
  · simp [World.cell?, World.alloc, -World.alloc_eq, Array.getElem_push]
theorem partsGo_cons (R C : Int) (s : ByteArray) (i : Nat) (l : List Nat) (m : List Bool) (n : Nat) : partsGo R C s (i :: l) m n = if bt s i = 46 ∧ m.getD i false = false then partsGo R C s l (visF R C s (s.size + 1) m ((i : Int) / C) ((i : Int) % C)) (n + 1) else partsGo R C s l m n := rfl
theorem wrap64_cnt {n : Nat} (h : n ≤ 1000) : wrap64 ((n : Int) + 1) = ((n + 1 : Nat) : Int) := by
  unfold wrap64
  omega
theorem vis_below {w : World} (B : Nat) {W4 : World} (g q : Nat) (d : Array Bool) (h : Below B w W4) (hg : B ≤ g) : Below B w (Go.Sort.putRow encBo (Go.Sort.ahead W4 q) g 0 d) := by
  refine h.trans ⟨rfl, rfl, rfl, ?_, fun i hi => ?_⟩
  · simp [Go.Sort.putRow, Go.Sort.mapBlock, Go.Sort.ahead]
  · have : g ≠ i := by omega
    simp [Go.Sort.putRow, Go.Sort.mapBlock, Go.Sort.ahead, Array.getElem?_modify, this]
theorem vis_store_func (P : Program) (w : World) (a : Addr) (m : Mode) (fn : Fn) (first captured : Array Value) : (store a (.func fn first captured) m).run P w = stored P w a (.func fn first captured) m := run_store P w a _ m rfl
attribute [local go_sem] vis_store_func
set_option maxHeartbeats 4000000 in
set_option maxRecDepth 100000 in
theorem impl_PartsOf.calls (k : Nat) (r c : Int) (s : ByteArray) (t : Int) (w : World) (h : impl_PartsOf.f k r c s = some t) :
    Calls Try.prog 49 #[.agg #[.int .i64 r, .int .i64 c, .string s]] w fun e w' => e = .returned (.int .i64 t) ∧ Below w.heap.size w w' := by
  unfold impl_PartsOf.f at h
  obtain ⟨b, hb, h⟩ := Option.bind_eq_some_iff.mp h; have kg := fun W => impl_IsGrid.calls k r c s b W hb
  clear hb
  cases b with
  | false =>
    rw [if_neg (by simp)] at h
    injection h with h
    subst h; go_enter Try.func49, Try.ntmps49
    go_wp2_with (go_at_call 50; refine (kg _).mono ?_; rintro e w1 ⟨rfl, hb1⟩)
    go_ret
    exact ⟨rfl, below_step (by repeat (first | exact Below.refl _ _ | apply below_alloc | apply pw_below_drewN | apply below_drew1)) hb1⟩
  | true =>
    rw [if_pos rfl] at h
    by_cases hc : (2 ≤ r ∧ r ≤ 6) ∧ (2 ≤ c ∧ c ≤ 6) ∧ (s.size : Int) = r * c
    · rw [if_pos hc] at h
      injection h with h
      obtain ⟨hr, hcc, hs⟩ := hc; obtain ⟨R, rfl⟩ := Int.eq_ofNat_of_zero_le (show 0 ≤ r by omega); obtain ⟨C, rfl⟩ := Int.eq_ofNat_of_zero_le (show 0 ≤ c by omega); have hsN : s.size = R * C := by exact_mod_cast hs
      have hR6 : R ≤ 6 := by omega
      have hC6 : C ≤ 6 := by omega
      have h36 : R * C ≤ 36 := Nat.mul_le_mul (show R ≤ 6 by omega) (show C ≤ 6 by omega); have hpos : 4 ≤ R * C := Nat.mul_le_mul (show 2 ≤ R by omega) (show 2 ≤ C by omega); have HS := Aside0.mk hsN; have HT := Aside0.mk h; have hlo : 4 ≤ s.size := by omega
      have hhi : s.size ≤ 36 := by omega
      clear hsN hs h; have l0 : (0 ≤ (s.size : Int)) = True := eq_true (by omega); go_enter Try.func49, Try.ntmps49
      go_wp2_with fail
      go_at_call 50
      refine (kg _).mono ?_
      rintro e w1 ⟨rfl, hb1⟩
      have x0 : w1.cell? ⟨w.heap.size, 0, none⟩ = some (.int .i64 (R : Int)) := box_cell hb1 0 _ rfl; have x1 : w1.cell? ⟨w.heap.size, 1, none⟩ = some (.int .i64 (C : Int)) := box_cell hb1 1 _ rfl; have x2 : w1.cell? ⟨w.heap.size, 2, none⟩ = some (.string s) := box_cell hb1 2 _ rfl; have HB1 := Aside0.mk (below_step (w := w) (by repeat (first | exact Below.refl _ _ | apply below_alloc | apply pw_below_drewN | apply below_drew1)) hb1)
      have hB0 : w.heap.size < w1.heap.size := by have := hb1.size; simp at this; omega
      clear hb1 kg; go_wp2_with (first | ((with_reducible refine gate_dst (N := 13) rfl ?_); refine Kd.R_make Kd.bool (w0 := w1) w1.heap.size 4 rfl (N := 13) rfl 95 _ _ rfl (s.size : Int) rfl rfl Try.underlying95 (.bool false) 1 info4 rfl (by decide) (by omega) false (ok := fun _ => True) (okp := fun _ => True) rfl (fun _ hk => hk) trivial (by omega) (by omega) (Below.refl _ _) (Nat.le_refl _) ?_; intro v1 w3 ho hb _ _; obtain ⟨g, cap, ev, hg1, hg2, _⟩ := Kd.R_form ho (by simp; omega); rw [List.length_replicate, Int.toNat_natCast] at ev; subst ev; rw [Int.toNat_natCast] at ho; have HO := Aside0.mk ho; have HB3 := Aside0.mk hb; have y0 := cell_on x0 hb; have y1 := cell_on x1 hb; have y2 := cell_on x2 hb; have hF := vis_at (g := g) (cap := cap) (n := s.size) (t1 := 95) (t2 := 96) y0 y1 y2; have z0 := hF.g0; have z1 := hF.g1; have z2 := hF.g2; have z3 := hF.m0; have z4 := hF.v0; have HF := Aside0.mk hF; clear x0 x1 x2 y0 y1 y2 ho hF))
      have hH3 := bo_holds HO.out; have hb4 : Below w3.heap.size w3 ((w3.alloc (.cells #[.slice (some ⟨g, 0, none⟩) s.size cap] 95)).alloc (.cells #[.func (.func 100) #[] #[.pointer (some ⟨w.heap.size, 0, none⟩), .pointer (some ⟨w3.heap.size, 0, none⟩), .pointer (some ⟨w3.heap.size + 1, 0, none⟩)]] 96)) := below_alloc (below_alloc (Below.refl _ _) _) _
      have hH4 : Go.Sort.Holds encBo ((w3.alloc (.cells #[.slice (some ⟨g, 0, none⟩) s.size cap] 95)).alloc (.cells #[.func (.func 100) #[] #[.pointer (some ⟨w.heap.size, 0, none⟩), .pointer (some ⟨w3.heap.size, 0, none⟩), .pointer (some ⟨w3.heap.size + 1, 0, none⟩)]] 96)) g 0 (List.replicate s.size false).toArray := fun j hj => by
        obtain ⟨h1, h2⟩ := hH3 j hj; exact ⟨(hb4.cell (p := ⟨g, 0 + j, none⟩) hg2).trans h1, (hb4.frozen (p := ⟨g, 0 + j, none⟩) hg2).trans h2⟩
      have HH := Aside0.mk hH4; have HB4 := Aside0.mk (below_step HB1.out (below_step HB3.out hb4)); have hgm : w3.heap.size ≠ g := by omega
      have hgv : w3.heap.size + 1 ≠ g := by omega
      have hgb : w.heap.size ≠ g := by omega
      have hwg : w.heap.size ≤ g := by omega
      clear hH3 hb4 hH4 z0 z1 z2 z3 z4; generalize ((w3.alloc (.cells #[.slice (some ⟨g, 0, none⟩) s.size cap] 95)).alloc (.cells #[.func (.func 100) #[] #[.pointer (some ⟨w.heap.size, 0, none⟩), .pointer (some ⟨w3.heap.size, 0, none⟩), .pointer (some ⟨w3.heap.size + 1, 0, none⟩)]] 96)) = W4 at *
      go_loopg [5, 18] s.size (fun kq v5 v18 wr => ∃ (i cnt q : Nat) (m : List Bool), v5 = .int .i64 (cnt : Int) ∧ v18 = .int .i64 (i : Int) ∧ Aside0 (i ≤ s.size) ∧ Aside0 (s.size - i ≤ kq) ∧ Aside0 (cnt ≤ i) ∧ Aside0 (m.length = s.size) ∧ Aside0 (wr = Go.Sort.putRow encBo (Go.Sort.ahead W4 q) g 0 m.toArray) ∧ Aside0 (partsGo R C s (List.range' i (s.size - i)) m cnt = partsGo R C s (List.range' 0 s.size) (List.replicate s.size false) 0))
      case atStart => exact ⟨0, 0, 0, List.replicate s.size false, rfl, rfl, ⟨Nat.zero_le _⟩, ⟨by omega⟩, ⟨Nat.le_refl _⟩, ⟨by simp⟩, ⟨(Go.Sort.putRow_self encBo _ _ _ _ HH.out).symm⟩, ⟨by rw [Nat.sub_zero]⟩⟩
      case round =>
        obtain ⟨i, cnt, q, m, rfl, rfl, hi, hk, hn, hm, hwr, heq⟩ := hrel; have hfix : VisAt R C s w.heap.size w3.heap.size (w3.heap.size + 1) g cap s.size wr := hwr.out ▸ HF.out.step hgb hgm hgv q m.toArray; obtain ⟨x0, x1, x2, x3, x4⟩ := hfix; by_cases hlt : i < s.size
        · have cb0 : decide ((i : Int) < (s.size : Int)) = true := by simp; exact hlt
          have hml : i < m.length := by rw [hm.out]; exact hlt
          have hHw : Go.Sort.Holds encBo wr g 0 m.toArray := by rw [hwr.out]; exact Go.Sort.holds_putRow encBo _ g 0 _ m.toArray HH.out (by simp; exact hm.out)
          obtain ⟨ci, fi⟩ := hHw i (by simpa using hml); rw [Nat.zero_add] at ci fi
          rw [bo_get hml] at ci
          unfold encBo at ci
          have p1 : (0 ≤ (i : Int)) = True := eq_true (by omega); have q1 : ((i : Int) < (s.size : Int)) = True := eq_true (by omega); have hx8 := bt_at s (i : Int); simp only [Int.toNat_natCast] at hx8; replace hx8 := hx8 hlt; have heq' := heq.out
          rw [show s.size - i = (s.size - (i + 1)) + 1 by omega, List.range'_succ] at heq'
          rw [partsGo_cons] at heq'
          have hgd : m.getD i false = m[i] := by rw [List.getD_eq_getElem?_getD, List.getElem?_eq_getElem hml]; rfl
          rw [hgd] at heq'
          by_cases hb : bt s (i : Int) = 46
          · have zb : (bt s (i : Int) == 46) = true := beq_iff_eq.mpr hb
            rw [← hx8] at zb
            by_cases hmk : m[i] = true
            · rw [if_neg (by rw [hmk]; simp)] at heq'
              rw [hmk] at ci
              have HE := Aside0.mk heq'; clear heq heq' hx8 hb hmk hgd hHw; go_wp2
              go_roundg (s.size - (i + 1))
              case measure => have := hk.out; omega
              case rel => exact ⟨i + 1, cnt, q, m, rfl, by simp, ⟨by omega⟩, ⟨Nat.le_refl _⟩, ⟨by have := hn.out; omega⟩, hm, hwr, HE⟩
            · have hmf : m[i] = false := by simpa using hmk
              rw [if_pos ⟨hb, hmf⟩] at heq'
              rw [hmf] at ci
              have hC0 : 0 < C := by omega
              obtain ⟨d1, d2, d3, d4, d5, d6, d7⟩ := pa_div (i := i) (C := C) hC0 (by omega) (by omega)
              have hdr : (i : Int) / (C : Int) ≤ (R : Int) := by
                have h1 : i / C < R := (Nat.div_lt_iff_lt_mul hC0).2 (HS.out ▸ hlt); have h2 : (i : Int) / (C : Int) = ((i / C : Nat) : Int) := by simp
                rw [h2]
                exact Int.ofNat_le.2 (Nat.le_of_lt h1)
              have hcl : m.count false < s.size + 1 := by
                have := List.count_le_length (a := false) (l := m)
                have := hm.out
                omega
              have hvl := (visF_length R C s (s.size + 1) m ((i : Int) / C) ((i : Int) % C)).1; have HV := Aside0.mk (hvl.trans hm.out); have KV := Aside0.mk (fun q' W (hw : W = Go.Sort.putRow encBo (Go.Sort.ahead W4 q') g 0 m.toArray) => visit_calls R C s w.heap.size w3.heap.size (w3.heap.size + 1) g cap W4 (List.replicate s.size false).toArray hR6 hC6 s.size HS.out rfl (by simp) HF.out HH.out hgb hgm hgv (s.size + 1) ((i : Int) / C) ((i : Int) % C) m q' W hm.out hcl (Int.le_trans (by decide) d4) hdr (Int.le_trans (by decide) d5) (Int.le_of_lt d6) hw); have HE := Aside0.mk heq'; have cz : (C = 0) = False := eq_false (by omega); have dq : IntKind.i64.wrap ((i : Int) / (C : Int)) = (i : Int) / (C : Int) := (IntWalk.i64_left _).trans d3; have dr : IntKind.i64.wrap ((i : Int) % (C : Int)) = (i : Int) % (C : Int) := (IntWalk.i64_left _).trans d7; clear heq heq' hx8 hb hmk hmf hgd hHw hvl hcl hdr d1 d2 d3 d4 d5 d6 d7; have DQ := Aside0.mk dq; have DR := Aside0.mk dr; clear dq dr; go_wp2
              refine wp_region_still_tail 9 (by kernel_rfl) (by kernel_rfl) ?_
              obtain ⟨W2, hW2⟩ : ∃ W2 : World, W2 = { wr with drawn := wr.drawn + 1 } := ⟨_, rfl⟩
              have hwr2 : W2 = Go.Sort.putRow encBo (Go.Sort.ahead W4 (q + 1)) g 0 m.toArray := by
                rw [hW2, hwr.out]
                rfl
              obtain ⟨y0, y1, y2, y3, y4⟩ : VisAt R C s w.heap.size w3.heap.size (w3.heap.size + 1) g cap s.size W2 := hwr2 ▸ HF.out.step hgb hgm hgv (q + 1) m.toArray; rw [← hW2]
              have HW2 := Aside0.mk hwr2; clear hW2 hwr2 x0 x1 x2 x3 x4 ci fi; have dq := DQ.out; have dr := DR.out; simp only [List.take_succ_cons, List.take_zero, List.drop_succ_cons, List.drop_zero]; still_step
              still_step
              still_step
              still_step
              still_step
              still_step
              still_step
              still_step
              still_step
              refine wpStill_nil ?_
              clear dq dr; go_wp2_with fail
              go_at_call 100
              refine (KV.out (q + 1) W2 HW2.out).mono ?_
              rintro e W5 ⟨rfl, q5, hw5⟩
              have HW5 := Aside0.mk hw5; clear hw5 y0 y1 y2 y3 y4; go_wp2_with fail
              go_roundg (s.size - (i + 1))
              case measure => have := hk.out; omega
              case rel => exact ⟨i + 1, cnt + 1, q5, _, (by rw [wrap64_cnt (by have := hn.out; omega)]), by simp, ⟨by omega⟩, ⟨Nat.le_refl _⟩, ⟨by have := hn.out; omega⟩, HV, HW5, HE⟩
          · have zb : (bt s (i : Int) == 46) = false := beq_eq_false_iff_ne.mpr hb
            rw [← hx8] at zb
            rw [if_neg (fun h => hb h.1)] at heq'
            have HE := Aside0.mk heq'; clear heq heq' hx8 hb hgd hHw; go_wp2
            go_roundg (s.size - (i + 1))
            case measure => have := hk.out; omega
            case rel => exact ⟨i + 1, cnt, q, m, rfl, by simp, ⟨by omega⟩, ⟨Nat.le_refl _⟩, ⟨by have := hn.out; omega⟩, hm, hwr, HE⟩
        · have cb0 : decide ((i : Int) < (s.size : Int)) = false := by simp; omega
          have HE := heq.out; rw [show s.size - i = 0 by omega] at HE
          have HE' := Aside0.mk (show (cnt : Int) = t by rw [← HT.out, ← HE]; rfl)
          clear HE heq; go_wp2
          go_ret
          refine ⟨by rw [HE'.out] <;> rfl, ?_⟩
          rw [hwr.out]
          exact vis_below w.heap.size g q m.toArray HB4.out hwg
    · rw [if_neg hc] at h
      cases h


/-! ### impl_IsConnected: function 48 -/
def impl_IsConnected.f (k : Nat) (a0_0 : Int) (a0_1 : Int) (a0_2 : ByteArray) : Option (Bool) := (impl_PartsOf.f k a0_0 a0_1 a0_2).bind fun t265 => (some (t265 == 1))
theorem impl_IsConnected.mono : ∀ a0 a1 a2 k, LeO (impl_IsConnected.f k a0 a1 a2) (impl_IsConnected.f (k + 1) a0 a1 a2) := by
  intro a0 a1 a2 k
  unfold impl_IsConnected.f
  repeat' first
    | (with_reducible exact impl_PartsOf.mono _ _ _ _)
    | (with_reducible exact LeO.refl _)
    | (with_reducible exact LeO.none _)
    | (with_reducible refine LeO.ite ?_ ?_)
    | (with_reducible refine LeO.bind ?_ (fun _ => ?_))
    | exact impl_PartsOf.mono _ _ _ _
    | exact LeO.none _
    | refine LeO.ite ?_ ?_
    | refine LeO.bind ?_ (fun _ => ?_)
set_option maxHeartbeats 8000000 in
set_option maxRecDepth 100000 in
theorem impl_IsConnected.calls (k : Nat) (a0_0 : Int) (a0_1 : Int) (a0_2 : ByteArray) (r : Bool) (w : World) (h : impl_IsConnected.f k a0_0 a0_1 a0_2 = some r) :
   Calls Try.prog 48 #[.agg #[.int .i64 a0_0, .int .i64 a0_1, .string a0_2]] w fun e w' => e = .returned (.bool r) ∧ Below w.heap.size w w' := by
  have hu52 := Try.underlying52; have HB := Aside0.mk (Below.refl w.heap.size w); have H : ((impl_PartsOf.f k a0_0 a0_1 a0_2).bind fun t265 => (some (t265 == 1))) = some r := h; clear h; replace H := Option.bind_eq_some_iff.mp H; obtain ⟨t265, A20, H⟩ := H; replace H : (some (t265 == 1)) = some r := H; have A2 := Aside0.mk A20; clear A20; obtain rfl := Option.some.inj H; go_enter Try.func48, Try.ntmps48
  go_wp2_with (first | ((with_reducible refine gate_dst (N := 1) rfl ?_); refine box_event ?hg (N := 1) ?hd (cs := #[.int .i64 a0_0, .int .i64 a0_1, .string a0_2]) (t := 52) ?hr ?_; (case hd => rfl); (case hg => rfl); (case hr => first | (go_simp; done) | (go_simp; rfl)); intro gb264 hg w3 hbox hb; have n0_ := Aside0.mk (below_step (by repeat (first | (with_reducible first | exact HB.out | apply below_alloc | apply pw_below_drewN | apply below_drew1) | exact HB.out)) hb); have n1_ := Aside0.mk (hbox); have n2_ := Aside0.mk ((by rw [hg]; exact (below_size (by repeat (first | (with_reducible first | exact HB.out | apply below_alloc | apply pw_below_drewN | apply below_drew1) | exact HB.out))) : w.heap.size ≤ gb264)); have n3_ := Aside0.mk ((by rw [hg]; exact (below_size (by repeat (first | (with_reducible first | exact HB.out | apply below_alloc | apply pw_below_drewN | apply below_drew1) | exact HB.out))) : w.heap.size ≤ gb264)); clear HB; have HB := n0_; have BK264 := n1_; have GW264 := n2_; have GE264 := n3_; clear n0_ n1_ n2_ n3_; clear hb hbox hg; have hcz4_0 : w3.cell? ⟨gb264, 0, none⟩ = some (.int .i64 a0_0) := (blk_cell BK264.out 0).trans rfl; have hcz4_1 : w3.cell? ⟨gb264, 1, none⟩ = some (.int .i64 a0_1) := (blk_cell BK264.out 1).trans rfl; have hcz4_2 : w3.cell? ⟨gb264, 2, none⟩ = some (.string a0_2) := (blk_cell BK264.out 2).trans rfl; have hfz4_0 := blk_frozen BK264.out 0; have hfz4_1 := blk_frozen BK264.out 1; have hfz4_2 := blk_frozen BK264.out 2) | ((with_reducible refine gate_callee (f := 49) rfl ?_); refine goesL_ (some 4) rfl rfl Try.func49 (by kernel_rfl) rfl #[.agg #[.int .i64 a0_0, .int .i64 a0_1, .string a0_2]] rfl (by (try simp only [List.map_toArray, List.map_cons, List.map_nil]); first | done | rfl | (simp only [List.length_drop, List.length_take]; rfl)) ?_; (with_reducible refine (impl_PartsOf.calls k a0_0 a0_1 a0_2 t265 _ A2.out).mono ?_); rintro e w5 ⟨rfl, hb⟩; refine ⟨_, rfl, ?_⟩; have n0_ := Aside0.mk (blk_below (g := gb264) (o := .cells #[.int .i64 a0_0, .int .i64 a0_1, .string a0_2] 52 (0, 0)) (by (with_reducible repeat (first | refine blk_drewN ?_ _ | refine blk_drew ?_ | refine blk_alloc ?_ _)); exact BK264.out) hb); have n1_ := Aside0.mk (below_step (by repeat (first | (with_reducible first | exact HB.out | apply below_alloc | apply pw_below_drewN | apply below_drew1 | refine below_set ?_ GE264.out) | exact HB.out)) hb); clear BK264; clear HB; have BK264 := n0_; have HB := n1_; clear n0_ n1_; (try clear hb); (try clear hb2); (try clear hk); (try clear hi)))
  go_ret
  exact ⟨by first | rfl | (simp [errW_none, errW_some] <;> rfl) | (simp [*, errW_none, errW_some] <;> rfl), by repeat (first | (with_reducible first | exact HB.out | apply below_alloc | apply pw_below_drewN | apply below_drew1 | refine below_set ?_ GE264.out) | exact HB.out)⟩

end Go.Proofs.Ytachbhggeibciaa.QFnExactFormOf
