-- Written by a changed copy of the kit's printer (wip/mp.py of this repo), for this claim; Lean checks it.
import Derived.Test.YtodcckiphdnjeaaQFnPrunedx0
import Derived.Test.YtodcckiphdnjeaaQFnPrunedx2
import Derived.Test.YtodcckiphdnjeaaQFnPrunedx5
import Derived.Test.YtodcckiphdnjeaaQFnPrunedx18
namespace Go.Proofs.Ytodcckiphdnjeaa.QFnPruned
open Go.RowKit Go.Proofs.YtodcckiphdnjeaaW.PrintWords Go.Proofs.YtodcckiphdnjeaaW.PrintLast Go.Proofs.YtodcckiphdnjeaaW.PrintMore
attribute [local go_sem] max2_int min2_int max_two min_two max_three min_three max_four min_four   -- for this text's walks alone
set_option linter.unusedVariables false
set_option maxHeartbeats 8000000
set_option maxRecDepth 100000
set_option linter.unusedSimpArgs false

theorem z24_1 {p : Prop} (h : p := by repeat (first | (with_reducible first | exact HB.out | apply below_alloc | apply pw_below_drewN | apply below_drew1 | refine below_set ?_ GE525.out) | exact HB.out)) : p := h
theorem z24_3 {p : Prop} (h : p := by repeat (first | (with_reducible first | exact HB.out | apply below_alloc | apply pw_below_drewN | apply below_drew1 | refine below_set ?_ GE532.out) | exact HB.out)) : p := h
theorem z24_6 {p : Prop} (h : p := by repeat (first | (with_reducible first | exact HB.out | apply below_alloc | apply pw_below_drewN | apply below_drew1 | refine below_set ?_ GE542.out) | exact HB.out)) : p := h
theorem z24_7 {p : Prop} (h : p := by (with_reducible repeat (first | refine blk_drewN ?_ _ | refine blk_drew ?_ | refine blk_alloc ?_ _)); exact BK525.out) : p := h
/-! ### impl_IsFill: function 39 -/
mutual
def impl_IsFill.j0 : Nat → ByteArray → Bool → Int → Int → ByteArray → Option (Bool)
  | 0, _, _, _, _, _ => none
  | k + 1, x1, x16, x526000, x526001, x526002 => if x16 = true then (some false) else (impl_IsFill.l0 k x1 (x1.size : Int) 0 x526000 x526001 x526002)
def impl_IsFill.l0 : Nat → ByteArray → Int → Int → Int → Int → ByteArray → Option (Bool)
  | 0, _, _, _, _, _, _ => none
  | k + 1, x1, x18, x19, x526000, x526001, x526002 => if x19 < x18 then (if 0 ≤ x19 then (if x19 < (x526002.size : Int) then (if x19 < (x1.size : Int) then (if (bt x526002 x19) = 35 then (if (bt x1 x19) = 35 then (impl_IsFill.l0 k x1 x18 (wrap64 (x19 + 1)) x526000 x526001 x526002) else (some false)) else (if (bt x1 x19) = 35 then (some false) else (if (bt x1 x19) = 63 then (impl_IsFill.l0 k x1 x18 (wrap64 (x19 + 1)) x526000 x526001 x526002) else ((impl_isLetter.f (bt x1 x19)).bind fun t527 => (if t527 = true then (impl_IsFill.l0 k x1 x18 (wrap64 (x19 + 1)) x526000 x526001 x526002) else (some false)))))) else (none)) else (none)) else (none)) else (some true)
end
def impl_IsFill.f (k : Nat) (a0_0 : Int) (a0_1 : Int) (a0_2 : ByteArray) (a1 : ByteArray) : Option (Bool) := (impl_IsGrid.f k a0_0 a0_1 a0_2).bind fun t526 => (if t526 = true then (impl_IsFill.j0 k a1 ((a1.size : Int) != (a0_2.size : Int)) a0_0 a0_1 a0_2) else (impl_IsFill.j0 k a1 true a0_0 a0_1 a0_2))
theorem impl_IsFill.calls (k : Nat) (a0_0 : Int) (a0_1 : Int) (a0_2 : ByteArray) (a1 : ByteArray) (r : Bool) (w : World) (h : impl_IsFill.f k a0_0 a0_1 a0_2 a1 = some r) :
   Calls Try.prog 39 #[.agg #[.int .i64 a0_0, .int .i64 a0_1, .string a0_2], .string a1] w fun e w' => e = .returned (.bool r) ∧ Below w.heap.size w w' := by
  have hu28 := Try.underlying28; have HB := Aside0.mk (Below.refl w.heap.size w); have H : ((impl_IsGrid.f k a0_0 a0_1 a0_2).bind fun t526 => (if t526 = true then (impl_IsFill.j0 k a1 ((a1.size : Int) != (a0_2.size : Int)) a0_0 a0_1 a0_2) else (impl_IsFill.j0 k a1 true a0_0 a0_1 a0_2))) = some r := h; clear h; have HC3 := Aside0.mk H; clear H; go_enter Try.func39, Try.ntmps39
  go_upto_region 1 with (first | ((with_reducible refine gate_dst (N := 2) rfl ?_); (try (refine gate_guard (by rfl) ?_; dsimp only)); refine box_event ?hg (N := 2) ?hd (cs := #[.int .i64 a0_0, .int .i64 a0_1, .string a0_2]) (t := 28) ?hr ?_; (case hd => rfl); (case hg => rfl); (case hr => first | (go_simp; done) | (go_simp; rfl)); intro gb525 hg w4 hbox hb; have BK525 := Aside0.mk (hbox); have GW525 := Aside0.mk ((by rw [hg]; exact (below_size z_g4) : w.heap.size ≤ gb525)); have GE525 := Aside0.mk ((by rw [hg]; exact (below_size z_g4) : w.heap.size ≤ gb525)); replace HB := Aside0.mk (below_step z_g4 hb); clear hb hbox hg))
  repeat (go_quiet (first | ((with_reducible refine gate_dst (N := 2) rfl ?_); (try (refine gate_guard (by rfl) ?_; dsimp only)); refine box_event ?hg (N := 2) ?hd (cs := #[.int .i64 a0_0, .int .i64 a0_1, .string a0_2]) (t := 28) ?hr ?_; (case hd => rfl); (case hg => rfl); (case hr => first | (go_simp; done) | (go_simp; rfl)); intro gb525 hg w4 hbox hb; have BK525 := Aside0.mk (hbox); have GW525 := Aside0.mk ((by rw [hg]; exact (below_size z_g4) : w.heap.size ≤ gb525)); have GE525 := Aside0.mk ((by rw [hg]; exact (below_size z_g4) : w.heap.size ≤ gb525)); replace HB := Aside0.mk (below_step z_g4 hb); clear hb hbox hg)); go_upto_region 1 with (first | ((with_reducible refine gate_dst (N := 2) rfl ?_); (try (refine gate_guard (by rfl) ?_; dsimp only)); refine box_event ?hg (N := 2) ?hd (cs := #[.int .i64 a0_0, .int .i64 a0_1, .string a0_2]) (t := 28) ?hr ?_; (case hd => rfl); (case hg => rfl); (case hr => first | (go_simp; done) | (go_simp; rfl)); intro gb525 hg w4 hbox hb; have BK525 := Aside0.mk (hbox); have GW525 := Aside0.mk ((by rw [hg]; exact (below_size z_g4) : w.heap.size ≤ gb525)); have GE525 := Aside0.mk ((by rw [hg]; exact (below_size z_g4) : w.heap.size ≤ gb525)); replace HB := Aside0.mk (below_step z_g4 hb); clear hb hbox hg)))
  (try simp only [Act.put, List.setIfInBounds_toArray, List.set_cons_zero, List.set_cons_succ])
  go_cut [16] (fun v16 wc => ∃ (kq : Nat) (x16_2 : Bool), v16 = .bool x16_2 ∧ Aside0 (impl_IsFill.j0 kq a1 x16_2 a0_0 a0_1 a0_2 = some r) ∧ Aside0 (kq ≤ k) ∧ Aside0 (wc.heap[gb525]? = some (.cells #[.int .i64 a0_0, .int .i64 a0_1, .string a0_2] 28 (0, 0))) ∧ Aside0 (Below w.heap.size w wc))
  case first =>
   have H := HC3.out; clear HC3; replace H := Option.bind_eq_some_iff.mp H; obtain ⟨t526, A50, H⟩ := H; try dsimp only at H
   have A5 := Aside0.mk A50; clear A50; by_cases c6 : t526 = true
   ·subst c6; rw [if_pos rfl] at H
    have H' := Aside0.mk H
    clear H; obtain ⟨hcz7_0, hcz7_1, hcz7_2, hfz7_0, hfz7_1, hfz7_2⟩ := bc3_g0 BK525.out; go_wp2_with (first | (go_at_call 61; (with_reducible refine (impl_IsGrid.calls k a0_0 a0_1 a0_2 true _ A5.out).mono ?_); rintro e w8 ⟨rfl, hb⟩; replace BK525 := Aside0.mk (blk_below (g := gb525) (o := .cells #[.int .i64 a0_0, .int .i64 a0_1, .string a0_2] 28 (0, 0)) (bd_g7 BK525.out) hb); replace HB := Aside0.mk (below_step z24_1 hb); (try clear hb); obtain ⟨hcz9_0, hcz9_1, hcz9_2, hfz9_0, hfz9_1, hfz9_2⟩ := bc3_g0 BK525.out))
    repeat (go_quiet (first | (go_at_call 61; (with_reducible refine (impl_IsGrid.calls k a0_0 a0_1 a0_2 true _ A5.out).mono ?_); rintro e w8 ⟨rfl, hb⟩; replace BK525 := Aside0.mk (blk_below (g := gb525) (o := .cells #[.int .i64 a0_0, .int .i64 a0_1, .string a0_2] 28 (0, 0)) (bd_g7 BK525.out) hb); replace HB := Aside0.mk (below_step z24_1 hb); (try clear hb); obtain ⟨hcz9_0, hcz9_1, hcz9_2, hfz9_0, hfz9_1, hfz9_2⟩ := bc3_g0 BK525.out)); try go_wp2_with (first | (go_at_call 61; (with_reducible refine (impl_IsGrid.calls k a0_0 a0_1 a0_2 true _ A5.out).mono ?_); rintro e w8 ⟨rfl, hb⟩; replace BK525 := Aside0.mk (blk_below (g := gb525) (o := .cells #[.int .i64 a0_0, .int .i64 a0_1, .string a0_2] 28 (0, 0)) (bd_g7 BK525.out) hb); replace HB := Aside0.mk (below_step z24_1 hb); (try clear hb); obtain ⟨hcz9_0, hcz9_1, hcz9_2, hfz9_0, hfz9_1, hfz9_2⟩ := bc3_g0 BK525.out)))
    go_meet
    case rel => exact ⟨_, (((a1.size : Int) != (a0_2.size : Int))), (by first | rfl | (simp; done) | (simp [*]; done)), H', ⟨by first | omega | exact Nat.le_refl _⟩, ⟨z24_7⟩, ⟨z24_1⟩⟩
   ·replace c6 := Bool.eq_false_iff.mpr c6; subst c6; rw [if_neg (show ¬ (false = true) by decide)] at H
    have H' := Aside0.mk H
    clear H; obtain ⟨hcz10_0, hcz10_1, hcz10_2, hfz10_0, hfz10_1, hfz10_2⟩ := bc3_g0 BK525.out; go_wp2_with (first | (go_at_call 61; (with_reducible refine (impl_IsGrid.calls k a0_0 a0_1 a0_2 false _ A5.out).mono ?_); rintro e w11 ⟨rfl, hb⟩; replace BK525 := Aside0.mk (blk_below (g := gb525) (o := .cells #[.int .i64 a0_0, .int .i64 a0_1, .string a0_2] 28 (0, 0)) (bd_g7 BK525.out) hb); replace HB := Aside0.mk (below_step z24_1 hb); (try clear hb)))
    repeat (go_quiet (first | (go_at_call 61; (with_reducible refine (impl_IsGrid.calls k a0_0 a0_1 a0_2 false _ A5.out).mono ?_); rintro e w11 ⟨rfl, hb⟩; replace BK525 := Aside0.mk (blk_below (g := gb525) (o := .cells #[.int .i64 a0_0, .int .i64 a0_1, .string a0_2] 28 (0, 0)) (bd_g7 BK525.out) hb); replace HB := Aside0.mk (below_step z24_1 hb); (try clear hb))); try go_wp2_with (first | (go_at_call 61; (with_reducible refine (impl_IsGrid.calls k a0_0 a0_1 a0_2 false _ A5.out).mono ?_); rintro e w11 ⟨rfl, hb⟩; replace BK525 := Aside0.mk (blk_below (g := gb525) (o := .cells #[.int .i64 a0_0, .int .i64 a0_1, .string a0_2] 28 (0, 0)) (bd_g7 BK525.out) hb); replace HB := Aside0.mk (below_step z24_1 hb); (try clear hb))))
    go_meet
    case rel => exact ⟨_, (true), (by first | rfl | (simp; done) | (simp [*]; done)), H', ⟨by first | omega | exact Nat.le_refl _⟩, ⟨z24_7⟩, ⟨z24_1⟩⟩
  case rest =>
   clear HC3; try clear p2
   try clear c3
   try clear c6
   try clear hcz10_0 hcz10_1 hcz10_2
   try clear hcz7_0 hcz7_1 hcz7_2
   try clear hcz9_0 hcz9_1 hcz9_2
   try clear hfz10_0 hfz10_1 hfz10_2
   try clear hfz7_0 hfz7_1 hfz7_2
   try clear hfz9_0 hfz9_1 hfz9_2
   obtain ⟨kq, x16_2, rfl, HA, HJ2, BK525, HB⟩ := hcut
   cases kq with
   | zero => exact absurd HA.out (by simp [impl_IsFill.j0])
   | succ kj2 =>
    have H := HA.out; clear HA; simp only [impl_IsFill.j0] at H; by_cases c12 : x16_2 = true
    ·subst c12; rw [if_pos rfl] at H
     obtain rfl := Option.some.inj H; go_wp2
     repeat (go_quiet (fail); try go_wp2)
     go_ret
     exact ⟨z_g13, z24_1⟩
    ·replace c12 := Bool.eq_false_iff.mpr c12; subst c12; rw [if_neg (show ¬ (false = true) by decide)] at H
     have H' := Aside0.mk H
     clear H; go_wp2
     repeat (go_quiet (fail); try go_wp2)
     go_loopg [19] kj2 (fun kq v19 w' => ∃ (x19_2 : Int), v19 = .int .i64 x19_2 ∧ Aside0 (impl_IsFill.l0 kq a1 (a1.size : Int) x19_2 a0_0 a0_1 a0_2 = some r) ∧ Aside0 (kq ≤ kj2) ∧ Aside0 (w'.heap[gb525]? = some (.cells #[.int .i64 a0_0, .int .i64 a0_1, .string a0_2] 28 (0, 0))) ∧ Aside0 (Below w.heap.size w w'))
     case atStart => exact ⟨(0), (by first | rfl | (simp; done) | (simp [*]; done)), H', ⟨Nat.le_refl _⟩, ⟨z24_7⟩, ⟨z24_1⟩⟩
     case round =>
      clear H'; try clear c1
      try clear p2
      try clear c3
      try clear c6
      try clear c12
      try clear hcz10_0 hcz10_1 hcz10_2
      try clear hcz7_0 hcz7_1 hcz7_2
      try clear hcz9_0 hcz9_1 hcz9_2
      try clear hfz10_0 hfz10_1 hfz10_2
      try clear hfz7_0 hfz7_1 hfz7_2
      try clear hfz9_0 hfz9_1 hfz9_2
      try clear p2
      obtain ⟨x19_2, rfl, HA, HK2, BK525, HB⟩ := hrel
      cases gk with
      | zero => exact absurd HA.out (by simp [impl_IsFill.l0])
      | succ k2 =>
       have H := HA.out; clear HA; simp only [impl_IsFill.l0] at H; by_cases c13 : x19_2 < (a1.size : Int)
       ·rw [if_pos c13] at H
        have c13b0 := decide_eq_true c13; clear c13; by_cases c14 : 0 ≤ x19_2
        ·rw [if_pos c14] at H
         have c14b0 := decide_eq_true c14; clear c14; by_cases c15 : x19_2 < (a0_2.size : Int)
         ·rw [if_pos c15] at H
          have c15b0 := decide_eq_true c15; clear c15; by_cases c17 : x19_2 < (a1.size : Int)
          ·rw [if_pos c17] at H
           have c17b0 := decide_eq_true c17; clear c17; by_cases c19 : (bt a0_2 x19_2) = 35
           ·rw [if_pos c19] at H
            have c19b0 : ((bt a0_2 x19_2) == 35) = true := beq_iff_eq.mpr c19; have c19b1 : ((bt a0_2 x19_2) != 35) = false := bne_eq_false_iff_eq.mpr c19; clear c19; by_cases c20 : (bt a1 x19_2) = 35
            ·rw [if_pos c20] at H
             have c20b0 : ((bt a1 x19_2) == 35) = true := beq_iff_eq.mpr c20; have c20b1 : ((bt a1 x19_2) != 35) = false := bne_eq_false_iff_eq.mpr c20; clear c20; have H' := Aside0.mk H
             clear H; obtain ⟨hcz22_0, hcz22_1, hcz22_2, hfz22_0, hfz22_1, hfz22_2⟩ := bc3_g0 BK525.out; have p16 : 0 ≤ (x19_2 : Int) := of_decide_eq_true z_g1; have q16 : x19_2 < (a0_2.size : Int) := of_decide_eq_true z_g1; have hx16 := bt_at a0_2 x19_2; replace p16 := eq_true p16; replace q16 := eq_true q16; have p18 : 0 ≤ (x19_2 : Int) := of_decide_eq_true z_g1; have q18 : x19_2 < (a1.size : Int) := of_decide_eq_true z_g1; have hx18 := bt_at a1 x19_2; replace p18 := eq_true p18; replace q18 := eq_true q18; have p21 : 0 ≤ (x19_2 : Int) := of_decide_eq_true z_g1; have q21 : x19_2 < (a1.size : Int) := of_decide_eq_true z_g1; have hx21 := bt_at a1 x19_2; replace p21 := eq_true p21; replace q21 := eq_true q21; go_wp2
             repeat (go_quiet (fail); try go_wp2)
             go_roundg k2
             case measure => have := HJ2.out; have := HK2.out; omega
             case rel => exact ⟨(wrap64 (x19_2 + 1)), (by first | rfl | (simp; done) | (simp [*]; done)), H', ⟨by have := HJ2.out; have := HK2.out; omega⟩, ⟨z24_7⟩, ⟨z24_1⟩⟩
            ·rw [if_neg c20] at H
             have c20b0 : ((bt a1 x19_2) == 35) = false := beq_eq_false_iff_ne.mpr c20; have c20b1 : ((bt a1 x19_2) != 35) = true := bne_iff_ne.mpr c20; obtain rfl := Option.some.inj H; obtain ⟨hcz23_0, hcz23_1, hcz23_2, hfz23_0, hfz23_1, hfz23_2⟩ := bc3_g0 BK525.out; have p16 : 0 ≤ (x19_2 : Int) := of_decide_eq_true z_g1; have q16 : x19_2 < (a0_2.size : Int) := of_decide_eq_true z_g1; have hx16 := bt_at a0_2 x19_2; replace p16 := eq_true p16; replace q16 := eq_true q16; have p18 : 0 ≤ (x19_2 : Int) := of_decide_eq_true z_g1; have q18 : x19_2 < (a1.size : Int) := of_decide_eq_true z_g1; have hx18 := bt_at a1 x19_2; replace p18 := eq_true p18; replace q18 := eq_true q18; go_wp2
             repeat (go_quiet (fail); try go_wp2)
             go_ret
             exact ⟨z_g13, z24_1⟩
           ·rw [if_neg c19] at H
            have c19b0 : ((bt a0_2 x19_2) == 35) = false := beq_eq_false_iff_ne.mpr c19; have c19b1 : ((bt a0_2 x19_2) != 35) = true := bne_iff_ne.mpr c19; by_cases c24 : (bt a1 x19_2) = 35
            ·rw [if_pos c24] at H
             have c24b0 : ((bt a1 x19_2) == 35) = true := beq_iff_eq.mpr c24; have c24b1 : ((bt a1 x19_2) != 35) = false := bne_eq_false_iff_eq.mpr c24; clear c24; obtain rfl := Option.some.inj H; obtain ⟨hcz25_0, hcz25_1, hcz25_2, hfz25_0, hfz25_1, hfz25_2⟩ := bc3_g0 BK525.out; have p16 : 0 ≤ (x19_2 : Int) := of_decide_eq_true z_g1; have q16 : x19_2 < (a0_2.size : Int) := of_decide_eq_true z_g1; have hx16 := bt_at a0_2 x19_2; replace p16 := eq_true p16; replace q16 := eq_true q16; have p18 : 0 ≤ (x19_2 : Int) := of_decide_eq_true z_g1; have q18 : x19_2 < (a1.size : Int) := of_decide_eq_true z_g1; have hx18 := bt_at a1 x19_2; replace p18 := eq_true p18; replace q18 := eq_true q18; go_wp2
             repeat (go_quiet (fail); try go_wp2)
             go_ret
             exact ⟨z_g13, z24_1⟩
            ·rw [if_neg c24] at H
             have c24b0 : ((bt a1 x19_2) == 35) = false := beq_eq_false_iff_ne.mpr c24; have c24b1 : ((bt a1 x19_2) != 35) = true := bne_iff_ne.mpr c24; by_cases c28 : (bt a1 x19_2) = 63
             ·rw [if_pos c28] at H
              have c28b0 : ((bt a1 x19_2) == 63) = true := beq_iff_eq.mpr c28; have c28b1 : ((bt a1 x19_2) != 63) = false := bne_eq_false_iff_eq.mpr c28; clear c28; have H' := Aside0.mk H
              clear H; obtain ⟨hcz29_0, hcz29_1, hcz29_2, hfz29_0, hfz29_1, hfz29_2⟩ := bc3_g0 BK525.out; have p16 : 0 ≤ (x19_2 : Int) := of_decide_eq_true z_g1; have q16 : x19_2 < (a0_2.size : Int) := of_decide_eq_true z_g1; have hx16 := bt_at a0_2 x19_2; replace p16 := eq_true p16; replace q16 := eq_true q16; have p18 : 0 ≤ (x19_2 : Int) := of_decide_eq_true z_g1; have q18 : x19_2 < (a1.size : Int) := of_decide_eq_true z_g1; have hx18 := bt_at a1 x19_2; replace p18 := eq_true p18; replace q18 := eq_true q18; have p26 : 0 ≤ (x19_2 : Int) := of_decide_eq_true z_g1; have q26 : x19_2 < (a1.size : Int) := of_decide_eq_true z_g1; have hx26 := bt_at a1 x19_2; replace p26 := eq_true p26; replace q26 := eq_true q26; have p27 : 0 ≤ (x19_2 : Int) := of_decide_eq_true z_g1; have q27 : x19_2 < (a1.size : Int) := of_decide_eq_true z_g1; have hx27 := bt_at a1 x19_2; replace p27 := eq_true p27; replace q27 := eq_true q27; go_wp2
              repeat (go_quiet (fail); try go_wp2)
              go_roundg k2
              case measure => have := HJ2.out; have := HK2.out; omega
              case rel => exact ⟨(wrap64 (x19_2 + 1)), (by first | rfl | (simp; done) | (simp [*]; done)), H', ⟨by have := HJ2.out; have := HK2.out; omega⟩, ⟨z24_7⟩, ⟨z24_1⟩⟩
             ·rw [if_neg c28] at H
              have c28b0 : ((bt a1 x19_2) == 63) = false := beq_eq_false_iff_ne.mpr c28; have c28b1 : ((bt a1 x19_2) != 63) = true := bne_iff_ne.mpr c28; replace H := Option.bind_eq_some_iff.mp H; obtain ⟨t527, A310, H⟩ := H; try dsimp only at H
              have A31 := Aside0.mk A310; clear A310; by_cases c32 : t527 = true
              ·subst c32; rw [if_pos rfl] at H
               have H' := Aside0.mk H
               clear H; obtain ⟨hcz33_0, hcz33_1, hcz33_2, hfz33_0, hfz33_1, hfz33_2⟩ := bc3_g0 BK525.out; have p16 : 0 ≤ (x19_2 : Int) := of_decide_eq_true z_g1; have q16 : x19_2 < (a0_2.size : Int) := of_decide_eq_true z_g1; have hx16 := bt_at a0_2 x19_2; replace p16 := eq_true p16; replace q16 := eq_true q16; have p18 : 0 ≤ (x19_2 : Int) := of_decide_eq_true z_g1; have q18 : x19_2 < (a1.size : Int) := of_decide_eq_true z_g1; have hx18 := bt_at a1 x19_2; replace p18 := eq_true p18; replace q18 := eq_true q18; have p26 : 0 ≤ (x19_2 : Int) := of_decide_eq_true z_g1; have q26 : x19_2 < (a1.size : Int) := of_decide_eq_true z_g1; have hx26 := bt_at a1 x19_2; replace p26 := eq_true p26; replace q26 := eq_true q26; have p27 : 0 ≤ (x19_2 : Int) := of_decide_eq_true z_g1; have q27 : x19_2 < (a1.size : Int) := of_decide_eq_true z_g1; have hx27 := bt_at a1 x19_2; replace p27 := eq_true p27; replace q27 := eq_true q27; have p30 : 0 ≤ (x19_2 : Int) := of_decide_eq_true z_g1; have q30 : x19_2 < (a1.size : Int) := of_decide_eq_true z_g1; have hx30 := bt_at a1 x19_2; replace p30 := eq_true p30; replace q30 := eq_true q30; go_wp2_with (first | (go_at_call 77; (with_reducible refine (impl_isLetter.calls (bt a1 x19_2) true _ A31.out).mono ?_); rintro e w' ⟨rfl, ⟨nd, rfl⟩⟩; (try first | exact ⟨rfl, _, World.drewN_drewN _ _ _⟩ | exact ⟨rfl, _, Eq.trans (World.drewN_drewN _ _ _) (congrArg (World.drewN _) (Nat.add_assoc _ _ _))⟩)))
               repeat (go_quiet (first | (go_at_call 77; (with_reducible refine (impl_isLetter.calls (bt a1 x19_2) true _ A31.out).mono ?_); rintro e w' ⟨rfl, ⟨nd, rfl⟩⟩; (try first | exact ⟨rfl, _, World.drewN_drewN _ _ _⟩ | exact ⟨rfl, _, Eq.trans (World.drewN_drewN _ _ _) (congrArg (World.drewN _) (Nat.add_assoc _ _ _))⟩))); try go_wp2_with (first | (go_at_call 77; (with_reducible refine (impl_isLetter.calls (bt a1 x19_2) true _ A31.out).mono ?_); rintro e w' ⟨rfl, ⟨nd, rfl⟩⟩; (try first | exact ⟨rfl, _, World.drewN_drewN _ _ _⟩ | exact ⟨rfl, _, Eq.trans (World.drewN_drewN _ _ _) (congrArg (World.drewN _) (Nat.add_assoc _ _ _))⟩))))
               go_roundg k2
               case measure => have := HJ2.out; have := HK2.out; omega
               case rel => exact ⟨(wrap64 (x19_2 + 1)), (by first | rfl | (simp; done) | (simp [*]; done)), H', ⟨by have := HJ2.out; have := HK2.out; omega⟩, ⟨z24_7⟩, ⟨z24_1⟩⟩
              ·replace c32 := Bool.eq_false_iff.mpr c32; subst c32; rw [if_neg (show ¬ (false = true) by decide)] at H
               obtain rfl := Option.some.inj H; obtain ⟨hcz34_0, hcz34_1, hcz34_2, hfz34_0, hfz34_1, hfz34_2⟩ := bc3_g0 BK525.out; have p16 : 0 ≤ (x19_2 : Int) := of_decide_eq_true z_g1; have q16 : x19_2 < (a0_2.size : Int) := of_decide_eq_true z_g1; have hx16 := bt_at a0_2 x19_2; replace p16 := eq_true p16; replace q16 := eq_true q16; have p18 : 0 ≤ (x19_2 : Int) := of_decide_eq_true z_g1; have q18 : x19_2 < (a1.size : Int) := of_decide_eq_true z_g1; have hx18 := bt_at a1 x19_2; replace p18 := eq_true p18; replace q18 := eq_true q18; have p26 : 0 ≤ (x19_2 : Int) := of_decide_eq_true z_g1; have q26 : x19_2 < (a1.size : Int) := of_decide_eq_true z_g1; have hx26 := bt_at a1 x19_2; replace p26 := eq_true p26; replace q26 := eq_true q26; have p27 : 0 ≤ (x19_2 : Int) := of_decide_eq_true z_g1; have q27 : x19_2 < (a1.size : Int) := of_decide_eq_true z_g1; have hx27 := bt_at a1 x19_2; replace p27 := eq_true p27; replace q27 := eq_true q27; have p30 : 0 ≤ (x19_2 : Int) := of_decide_eq_true z_g1; have q30 : x19_2 < (a1.size : Int) := of_decide_eq_true z_g1; have hx30 := bt_at a1 x19_2; replace p30 := eq_true p30; replace q30 := eq_true q30; go_wp2_with (first | (go_at_call 77; (with_reducible refine (impl_isLetter.calls (bt a1 x19_2) false _ A31.out).mono ?_); rintro e w' ⟨rfl, ⟨nd, rfl⟩⟩; (try first | exact ⟨rfl, _, World.drewN_drewN _ _ _⟩ | exact ⟨rfl, _, Eq.trans (World.drewN_drewN _ _ _) (congrArg (World.drewN _) (Nat.add_assoc _ _ _))⟩)))
               repeat (go_quiet (first | (go_at_call 77; (with_reducible refine (impl_isLetter.calls (bt a1 x19_2) false _ A31.out).mono ?_); rintro e w' ⟨rfl, ⟨nd, rfl⟩⟩; (try first | exact ⟨rfl, _, World.drewN_drewN _ _ _⟩ | exact ⟨rfl, _, Eq.trans (World.drewN_drewN _ _ _) (congrArg (World.drewN _) (Nat.add_assoc _ _ _))⟩))); try go_wp2_with (first | (go_at_call 77; (with_reducible refine (impl_isLetter.calls (bt a1 x19_2) false _ A31.out).mono ?_); rintro e w' ⟨rfl, ⟨nd, rfl⟩⟩; (try first | exact ⟨rfl, _, World.drewN_drewN _ _ _⟩ | exact ⟨rfl, _, Eq.trans (World.drewN_drewN _ _ _) (congrArg (World.drewN _) (Nat.add_assoc _ _ _))⟩))))
               go_ret
               exact ⟨z_g13, z24_1⟩
          ·rw [if_neg c17] at H
           exact absurd H (by simp)
         ·rw [if_neg c15] at H
          exact absurd H (by simp)
        ·rw [if_neg c14] at H
         exact absurd H (by simp)
       ·rw [if_neg c13] at H
        have c13b0 := decide_eq_false c13; clear c13; obtain rfl := Option.some.inj H; go_wp2
        repeat (go_quiet (fail); try go_wp2)
        go_ret
        exact ⟨z_g13, z24_1⟩

/-! ### impl_readCells: function 88 -/
def impl_readCells.l0 : Nat → ByteArray → List Int → List Int → Int → Int → Option (ByteArray)
  | 0, _, _, _, _, _ => none
  | k + 1, x0, x5, x8, x9, x10 => if x10 < x9 then (if 0 ≤ x10 then (if x10 < (x8.length : Int) then (if 0 ≤ (rd x8 x10) then (if (rd x8 x10) < (x0.size : Int) then (if x5.length < 140737488355328 then (impl_readCells.l0 k x0 (x5 ++ [bt x0 (rd x8 x10)]) x8 x9 (wrap64 (x10 + 1))) else (none)) else (none)) else (none)) else (none)) else (none)) else (some (strOfNums x5))
def impl_readCells.f (k : Nat) (a0 : ByteArray) (l1 : List Int) : Option (ByteArray) := impl_readCells.l0 k a0 ([] : List Int) l1 (l1.length : Int) 0
theorem impl_readCells.calls (k : Nat) (a0 : ByteArray) (A1 : Option Addr) (c1 : Nat) (l1 : List Int) (r : ByteArray) (w : World) (hr1 : Kd.C (Kd.int .i64) w A1 l1.length l1) (hc1 : l1.length ≤ c1) (h : impl_readCells.f k a0 l1 = some r) :
   Calls Try.prog 88 #[.string a0, .slice A1 l1.length c1] w fun e w' => e = .returned (.string r) ∧ Below w.heap.size w w' := by
  have HR1 := Aside0.mk hr1; have HC1 := Aside0.mk hc1; clear hr1 hc1; have HB := Aside0.mk (Below.refl w.heap.size w); have H : (impl_readCells.l0 k a0 ([] : List Int) l1 (l1.length : Int) 0) = some r := h; clear h; have H' := Aside0.mk H
  clear H; go_enter Try.func88, Try.ntmps88
  go_wp2
  go_loopg [5, 10] k (fun kq v5 v10 w' => ∃ (x5_1 : List Int) (x10_1 : Int), v10 = .int .i64 x10_1 ∧ Aside0 (impl_readCells.l0 kq a0 x5_1 l1 (l1.length : Int) x10_1 = some r) ∧ Aside0 (kq ≤ k) ∧ Aside0 (Kd.R (Kd.int .u8) 5 w' w.heap.size (fun _ => True) v5 x5_1) ∧ Aside0 (Below w.heap.size w w'))
  case atStart => exact ⟨(([] : List Int)), (0), (by first | rfl | (simp; done) | (simp [*]; done)), H', ⟨Nat.le_refl _⟩, ⟨by first | exact Kd.R_nil _ _ _ _ _ | exact Kd.N_nil _ _ _ _ _ | exact Kd.V_nil _ _ _ _ _ | exact Kd.Q_nil _ _ _ _ _ | exact Kd.S_nil _ _ _ _ _⟩, ⟨z_g4⟩⟩
  case round =>
   clear H'; try clear c1
   try clear p2
   obtain ⟨x5_1, x10_1, rfl, HA, HK1, HO_5, HB⟩ := hrel
   cases gk with
   | zero => exact absurd HA.out (by simp [impl_readCells.l0])
   | succ k1 =>
    have H := HA.out; clear HA; simp only [impl_readCells.l0] at H; by_cases c3 : x10_1 < (l1.length : Int)
    ·rw [if_pos c3] at H
     have c3b0 := decide_eq_true c3; clear c3; by_cases c4 : 0 ≤ x10_1
     ·rw [if_pos c4] at H
      have c4b0 := decide_eq_true c4; clear c4; by_cases c5 : x10_1 < (l1.length : Int)
      ·rw [if_pos c5] at H
       have c5b0 := decide_eq_true c5; clear c5; by_cases c6 : 0 ≤ (rd l1 x10_1)
       ·rw [if_pos c6] at H
        have c6b0 := decide_eq_true c6; clear c6; by_cases c7 : (rd l1 x10_1) < (a0.size : Int)
        ·rw [if_pos c7] at H
         have c7b0 := decide_eq_true c7; clear c7; by_cases c9 : x5_1.length < 140737488355328
         ·rw [if_pos c9] at H
          have LMc9 := Aside0.mk c9; clear c9; obtain ⟨y529, hy529⟩ : ∃ y_ : List Int, y_ = (x5_1 ++ [bt a0 (rd l1 x10_1)]) := ⟨_, rfl⟩; replace H : (impl_readCells.l0 k1 a0 y529 l1 (l1.length : Int) (wrap64 (x10_1 + 1))) = some r := by first | (rw [hy529]; with_reducible exact H) | (have H2_ := (Option.bind_some _ _).symm.trans H; rw [hy529]; with_reducible exact H2_) | (have H2_ := (Option.bind_some _ _).symm.trans H; with_reducible exact H2_) | with_reducible exact H | (rw [hy529]; exact H) | exact H
          have Ny529 := Aside0.mk hy529; clear hy529; have H' := Aside0.mk H
          clear H; have p528 : 0 ≤ (x10_1 : Int) := of_decide_eq_true z_g1; have q528 : x10_1 < (l1.length : Int) := of_decide_eq_true z_g1; obtain ⟨ad528, e528, hx528_0⟩ := Kd.at_int HR1.out x10_1 p528 q528
          cases e528; try replace hx528_0 := (HB.out.cell (World.block_lt_of_cell? w _ hx528_0)).trans hx528_0
          replace p528 := eq_true p528; replace q528 := eq_true q528; have p8 : 0 ≤ ((rd l1 x10_1) : Int) := of_decide_eq_true z_g1; have q8 : (rd l1 x10_1) < (a0.size : Int) := of_decide_eq_true z_g1; have hx8 := bt_at a0 (rd l1 x10_1); replace p8 := eq_true p8; replace q8 := eq_true q8; go_wp2_with (first | ((with_reducible refine gate_builtin (b := .append) (xs := #[.tmp 14, .tmp 18]) rfl ?_); at_builtin; refine Kd.R_append (Kd.int .u8) (w0 := w) w.heap.size rfl (.tmp 14) (.tmp 18) 37 5 (.int .u8 0) 1 rfl Try.underlying37 info5 rfl (by decide) (by omega) u5 x5_1 (bt a0 (rd l1 x10_1)) [.int .u8 (bt a0 (rd l1 x10_1))] (fun _ => True) (fun _ => False) rfl rfl ?aP (fun _ hk => hk.elim) ?aF ?aO ?aB ?aS ?aL ?_; (case aP => exact rfl); (case aB => exact z_g4); (case aF => exact (fun _ _ => trivial)); (case aO => exact (kd_g8 HO_5.out)); (case aS => exact (below_size z_g4)); (case aL => have := LMc9.out; omega); intro v530 w10 ho hb hg hat; rw [← Ny529.out] at ho; have n0_ := Aside0.mk (hb); have n1_ := Aside0.mk (ho); clear HB; clear HO_5; have HB := n0_; have HO531 := n1_; clear n0_ n1_; clear ho hb hg hat))
          go_roundg k1
          case measure => have := HK1.out; omega
          case rel => exact ⟨(y529), (wrap64 (x10_1 + 1)), (by first | rfl | (simp; done) | (simp [*]; done)), H', ⟨by have := HK1.out; omega⟩, ⟨by (with_reducible repeat (first | apply Kd.R_alloc | apply Kd.R_drewN | apply Kd.R_drew)); exact HO531.out⟩, ⟨z_g4⟩⟩
         ·rw [if_neg c9] at H
          exact absurd H (by simp)
        ·rw [if_neg c7] at H
         exact absurd H (by simp)
       ·rw [if_neg c6] at H
        exact absurd H (by simp)
      ·rw [if_neg c5] at H
       exact absurd H (by simp)
     ·rw [if_neg c4] at H
      exact absurd H (by simp)
    ·rw [if_neg c3] at H
     have c3b0 := decide_eq_false c3; clear c3; obtain rfl := Option.some.inj H; have hcv11 := own_string (P := Try.prog) Try.underlying37 Try.underlying5 Try.underlying9 (Kd.own_of_R HO_5.out); go_wp2
     go_ret
     exact ⟨z_g13, z_g4⟩

/-! ### impl_patterns: function 58 -/
def impl_patterns.l0 : Nat → ByteArray → List ByteArray → List (List Int) → Int → Int → Option (List ByteArray)
  | 0, _, _, _, _, _ => none
  | k + 1, x1, x5, x13, x14, x15 => if x15 < x14 then (if 0 ≤ x15 then (if x15 < (x13.length : Int) then ((impl_readCells.f k x1 (rd_L6 x13 x15)).bind fun t538 => (if x5.length < 8796093022208 then (impl_patterns.l0 k x1 (x5 ++ [t538]) x13 x14 (wrap64 (x15 + 1))) else (none))) else (none)) else (none)) else (some x5)
def impl_patterns.f (k : Nat) (a0_0 : Int) (a0_1 : Int) (a0_2 : ByteArray) (a1 : ByteArray) : Option (List ByteArray) := (impl_IsFill.f k a0_0 a0_1 a0_2 a1).bind fun t533 => (if t533 = true then ((impl_layout.f k a0_0 a0_1 a0_2).bind fun t534 => (impl_patterns.l0 k a1 ([] : List ByteArray) t534 (t534.length : Int) 0)) else (some ([] : List ByteArray)))
theorem impl_patterns.calls (k : Nat) (a0_0 : Int) (a0_1 : Int) (a0_2 : ByteArray) (a1 : ByteArray) (r : List ByteArray) (w : World) (h : impl_patterns.f k a0_0 a0_1 a0_2 a1 = some r) :
   Calls Try.prog 58 #[.agg #[.int .i64 a0_0, .int .i64 a0_1, .string a0_2], .string a1] w fun e w' => ∃ v0_ : Value, e = .returned (v0_) ∧ Kd.R Kd.string 9 w' w.heap.size (fun _ => True) v0_ r ∧ Below w.heap.size w w' := by
  have hu28 := Try.underlying28; have HB := Aside0.mk (Below.refl w.heap.size w); have H : ((impl_IsFill.f k a0_0 a0_1 a0_2 a1).bind fun t533 => (if t533 = true then ((impl_layout.f k a0_0 a0_1 a0_2).bind fun t534 => (impl_patterns.l0 k a1 ([] : List ByteArray) t534 (t534.length : Int) 0)) else (some ([] : List ByteArray)))) = some r := h; clear h; replace H := Option.bind_eq_some_iff.mp H; obtain ⟨t533, A30, H⟩ := H; try dsimp only at H
  have A3 := Aside0.mk A30; clear A30; by_cases c4 : t533 = true
  ·subst c4; rw [if_pos rfl] at H
   replace H := Option.bind_eq_some_iff.mp H; obtain ⟨t534, A50, H⟩ := H; try dsimp only at H
   have A5 := Aside0.mk A50; clear A50; have H' := Aside0.mk H
   clear H; go_enter Try.func58, Try.ntmps58
   go_wp2_with (first | ((with_reducible refine gate_dst (N := 2) rfl ?_); refine box_event ?hg (N := 2) ?hd (cs := #[.int .i64 a0_0, .int .i64 a0_1, .string a0_2]) (t := 28) ?hr ?_; (case hd => rfl); (case hg => rfl); (case hr => first | (go_simp; done) | (go_simp; rfl)); intro gb532 hg w6 hbox hb; have BK532 := Aside0.mk (hbox); have GW532 := Aside0.mk ((by rw [hg]; exact (below_size z_g4) : w.heap.size ≤ gb532)); have GE532 := Aside0.mk ((by rw [hg]; exact (below_size z_g4) : w.heap.size ≤ gb532)); replace HB := Aside0.mk (below_step z_g4 hb); clear hb hbox hg; obtain ⟨hcz7_0, hcz7_1, hcz7_2, hfz7_0, hfz7_1, hfz7_2⟩ := bc3_g0 BK532.out) | ((with_reducible refine gate_callee (f := 39) rfl ?_); refine goesL_ (some 10) rfl rfl Try.func39 (by kernel_rfl) rfl #[.agg #[.int .i64 a0_0, .int .i64 a0_1, .string a0_2], .string a1] rfl z_g9 ?_; (with_reducible refine (impl_IsFill.calls k a0_0 a0_1 a0_2 a1 true _ A3.out).mono ?_); rintro e w8 ⟨rfl, hb⟩; refine ⟨_, rfl, ?_⟩; replace BK532 := Aside0.mk (blk_below (g := gb532) (o := .cells #[.int .i64 a0_0, .int .i64 a0_1, .string a0_2] 28 (0, 0)) (bd_g7 BK532.out) hb); replace HB := Aside0.mk (below_step z24_3 hb); (try clear hb); obtain ⟨hcz9_0, hcz9_1, hcz9_2, hfz9_0, hfz9_1, hfz9_2⟩ := bc3_g0 BK532.out) | ((with_reducible refine gate_callee (f := 50) rfl ?_); refine goesL_ (some 13) rfl rfl Try.func50 (by kernel_rfl) rfl #[.agg #[.int .i64 a0_0, .int .i64 a0_1, .string a0_2]] rfl z_g9 ?_; (with_reducible refine (impl_layout.calls k a0_0 a0_1 a0_2 t534 _ A5.out).mono ?_); rintro e w10 ⟨v535, rfl, ho0, hb⟩; refine ⟨_, rfl, ?_⟩; have HO536 := Aside0.mk (Kd.S_lower ho0 (below_size z24_3)); replace BK532 := Aside0.mk (blk_below (g := gb532) (o := .cells #[.int .i64 a0_0, .int .i64 a0_1, .string a0_2] 28 (0, 0)) (bd_g7 BK532.out) hb); replace HB := Aside0.mk (below_step z24_3 hb); (try clear hb); (try clear ho0); obtain ⟨Ao11, co11, eo11⟩ := Kd.S_slice HO536.out; subst eo11))
   go_loopg [5, 15] k (fun kq v5 v15 w' => ∃ (x5_1 : List ByteArray) (x15_1 : Int), v15 = .int .i64 x15_1 ∧ Aside0 (impl_patterns.l0 kq a1 x5_1 t534 (t534.length : Int) x15_1 = some r) ∧ Aside0 (kq ≤ k) ∧ Aside0 (Kd.R Kd.string 9 w' w.heap.size (fun _ => True) v5 x5_1) ∧ Aside0 (Kd.S (Kd.slice 3 (Kd.int .i64)) 62 w' w.heap.size (fun _ => True) (.slice Ao11 t534.length co11) t534) ∧ Aside0 (w'.heap[gb532]? = some (.cells #[.int .i64 a0_0, .int .i64 a0_1, .string a0_2] 28 (0, 0))) ∧ Aside0 (Below w.heap.size w w'))
   case atStart => exact ⟨(([] : List ByteArray)), (0), (by first | rfl | (simp; done) | (simp [*]; done)), H', ⟨Nat.le_refl _⟩, ⟨by first | exact Kd.R_nil _ _ _ _ _ | exact Kd.N_nil _ _ _ _ _ | exact Kd.V_nil _ _ _ _ _ | exact Kd.Q_nil _ _ _ _ _ | exact Kd.S_nil _ _ _ _ _⟩, ⟨by (with_reducible repeat (first | apply Kd.S_alloc | apply Kd.S_drewN | apply Kd.S_drew)); exact HO536.out⟩, ⟨by (with_reducible repeat (first | refine blk_drewN ?_ _ | refine blk_drew ?_ | refine blk_alloc ?_ _)); exact BK532.out⟩, ⟨z24_3⟩⟩
   case round =>
    clear H'; try clear p2
    try clear c3
    try clear c4
    try clear c5
    try clear hcz7_0 hcz7_1 hcz7_2
    try clear hcz9_0 hcz9_1 hcz9_2
    try clear hfz7_0 hfz7_1 hfz7_2
    try clear hfz9_0 hfz9_1 hfz9_2
    obtain ⟨x5_1, x15_1, rfl, HA, HK1, HO_5, HO_13, BK532, HB⟩ := hrel
    cases gk with
    | zero => exact absurd HA.out (by simp [impl_patterns.l0])
    | succ k1 =>
     have H := HA.out; clear HA; simp only [impl_patterns.l0] at H; by_cases c12 : x15_1 < (t534.length : Int)
     ·rw [if_pos c12] at H
      have c12b0 := decide_eq_true c12; clear c12; by_cases c13 : 0 ≤ x15_1
      ·rw [if_pos c13] at H
       have c13b0 := decide_eq_true c13; clear c13; by_cases c14 : x15_1 < (t534.length : Int)
       ·rw [if_pos c14] at H
        have c14b0 := decide_eq_true c14; clear c14; replace H := Option.bind_eq_some_iff.mp H; obtain ⟨t538, A150, H⟩ := H; try dsimp only at H
        have A15 := Aside0.mk A150; clear A150; by_cases c16 : x5_1.length < 8796093022208
        ·rw [if_pos c16] at H
         have LMc16 := Aside0.mk c16; clear c16; obtain ⟨y539, hy539⟩ : ∃ y_ : List ByteArray, y_ = (x5_1 ++ [t538]) := ⟨_, rfl⟩; replace H : (impl_patterns.l0 k1 a1 y539 t534 (t534.length : Int) (wrap64 (x15_1 + 1))) = some r := by first | (rw [hy539]; with_reducible exact H) | (have H2_ := (Option.bind_some _ _).symm.trans H; rw [hy539]; with_reducible exact H2_) | (have H2_ := (Option.bind_some _ _).symm.trans H; with_reducible exact H2_) | with_reducible exact H | (rw [hy539]; exact H) | exact H
         have Ny539 := Aside0.mk hy539; clear hy539; have H' := Aside0.mk H
         clear H; have p537 : 0 ≤ (x15_1 : Int) := of_decide_eq_true z_g1; have q537 : x15_1 < (t534.length : Int) := of_decide_eq_true z_g1; obtain ⟨ad537, A537_0, c537_0, e537, hx537_0, hl537_0, hi537_0⟩ := at_L6 (Kd.S_reads' HO_13.out).2.2 x15_1 p537 q537
         cases e537; obtain ⟨ce537, hce537, hMe537, hcc537⟩ := Kd.S_get HO_13.out [] x15_1 p537 (by first | exact q537 | exact of_decide_eq_true z_g1 | (have e_ := (Kd.S_reads' HO_13.out).1; omega))
         obtain ⟨ve537_0, rfl, ge537_0⟩ := hMe537; have hv537_0 := hcc537 0 _ rfl; rw [Nat.add_zero, show ((Kd.slice 3 (Kd.int .i64))).sz = 1 from rfl, Nat.mul_one] at hv537_0
         replace hv537_0 := Option.some.inj (hv537_0.symm.trans hx537_0); rw [hv537_0] at ge537_0
         have HL537_0 := Aside0.mk (show Kd.R (Kd.int .i64) 3 _ _ _ _ (rd_L6 t534 x15_1) from ge537_0); clear hv537_0 ge537_0; clear hcc537 hce537; have HR537_0 := Aside0.mk hi537_0; have HC537_0 := Aside0.mk hl537_0; clear hi537_0 hl537_0; replace p537 := eq_true p537; replace q537 := eq_true q537; go_wp2_with (first | ((with_reducible refine gate_callee (f := 88) rfl ?_); refine goesL_ (some 22) rfl rfl Try.func88 (by kernel_rfl) rfl #[.string a1, .slice A537_0 (rd_L6 t534 x15_1).length c537_0] rfl z_g9 ?_; (with_reducible refine (impl_readCells.calls k1 a1 _ _ (rd_L6 t534 x15_1) t538 _ ?side1 ?side2 A15.out).mono ?_); (case side1 => repeat (first | exact (by repeat (first | (with_reducible exact HR537_0.out) | (with_reducible refine Kd.C_alloc ?_ _) | (with_reducible refine Kd.C_drewN ?_ _) | (with_reducible refine Kd.C_drew ?_) | exact HR537_0.out)) | (with_reducible refine Kd.C_alloc ?_ _) | (with_reducible refine Kd.C_drewN ?_ _) | (with_reducible refine Kd.C_drew ?_))); (case side2 => exact HC537_0.out); rintro e w17 ⟨rfl, hb⟩; refine ⟨_, rfl, ?_⟩; replace HO_5 := Aside0.mk (Kd.R_below (kd_g8 HO_5.out) hb); replace HO_13 := Aside0.mk (Kd.S_below (by (with_reducible repeat (first | apply Kd.S_alloc | apply Kd.S_drewN | apply Kd.S_drew)); exact HO_13.out) hb); replace HL537_0 := Aside0.mk (Kd.R_below (kd_g8 HL537_0.out) hb); replace BK532 := Aside0.mk (blk_below (g := gb532) (o := .cells #[.int .i64 a0_0, .int .i64 a0_1, .string a0_2] 28 (0, 0)) (bd_g7 BK532.out) hb); replace HR537_0 := Aside0.mk (Kd.C_below (by repeat (first | (with_reducible exact HR537_0.out) | (with_reducible refine Kd.C_alloc ?_ _) | (with_reducible refine Kd.C_drewN ?_ _) | (with_reducible refine Kd.C_drew ?_) | exact HR537_0.out)) hb); replace HB := Aside0.mk (below_step z24_3 hb); (try clear hb)) | ((with_reducible refine gate_builtin (b := .append) (xs := #[.tmp 19, .tmp 23]) rfl ?_); at_builtin; refine Kd.R_append Kd.string (w0 := w) w.heap.size rfl (.tmp 19) (.tmp 23) 24 9 (.string ⟨#[]⟩) 16 rfl Try.underlying24 info9 rfl (by decide) (by omega) u5 x5_1 t538 [.string t538] (fun _ => True) (fun _ => False) rfl rfl ?aP (fun _ hk => hk.elim) ?aF ?aO ?aB ?aS ?aL ?_; (case aP => exact rfl); (case aB => exact z24_3); (case aF => exact (fun _ _ => trivial)); (case aO => exact (kd_g8 HO_5.out)); (case aS => exact (below_size z24_3)); (case aL => have := LMc16.out; omega); intro v540 w18 ho hb hg hat; rw [← Ny539.out] at ho; have n0_ := Aside0.mk (Kd.S_over' (by (with_reducible repeat (first | apply Kd.S_alloc | apply Kd.S_drewN | apply Kd.S_drew)); exact HO_13.out) (Kd.R_typed (kd_g8 HO_5.out)) (by decide) hg); have n1_ := Aside0.mk (blk_grown (g := gb532) (o := .cells #[.int .i64 a0_0, .int .i64 a0_1, .string a0_2] 28 (0, 0)) (bd_g7 BK532.out) hg (Kd.R_ne HO_5.out BK532.out (by decide))); have n2_ := Aside0.mk (Kd.R_over' (kd_g8 HL537_0.out) (Kd.R_typed (kd_g8 HO_5.out)) (by decide) hg); have n3_ := Aside0.mk (hb); have n4_ := Aside0.mk (ho); clear HO_13; clear BK532; clear HL537_0; clear HB; clear HO_5; have HO_13 := n0_; have BK532 := n1_; have HL537_0 := n2_; have HB := n3_; have HO541 := n4_; clear n0_ n1_ n2_ n3_ n4_; clear ho hb hg hat))
         go_roundg k1
         case measure => have := HK1.out; omega
         case rel => exact ⟨(y539), (wrap64 (x15_1 + 1)), (by first | rfl | (simp; done) | (simp [*]; done)), H', ⟨by have := HK1.out; omega⟩, ⟨by (with_reducible repeat (first | apply Kd.R_alloc | apply Kd.R_drewN | apply Kd.R_drew)); exact HO541.out⟩, ⟨by (with_reducible repeat (first | apply Kd.S_alloc | apply Kd.S_drewN | apply Kd.S_drew)); exact HO_13.out⟩, ⟨by (with_reducible repeat (first | refine blk_drewN ?_ _ | refine blk_drew ?_ | refine blk_alloc ?_ _)); exact BK532.out⟩, ⟨z24_3⟩⟩
        ·rw [if_neg c16] at H
         exact absurd H (by simp)
       ·rw [if_neg c14] at H
        exact absurd H (by simp)
      ·rw [if_neg c13] at H
       exact absurd H (by simp)
     ·rw [if_neg c12] at H
      have c12b0 := decide_eq_false c12; clear c12; obtain rfl := Option.some.inj H; go_wp2
      go_ret
      exact ⟨_, z_g13, by (with_reducible repeat (first | apply Kd.R_alloc | apply Kd.R_drewN | apply Kd.R_drew)); exact HO_5.out, z24_3⟩
  ·replace c4 := Bool.eq_false_iff.mpr c4; subst c4; rw [if_neg (show ¬ (false = true) by decide)] at H
   obtain rfl := Option.some.inj H; go_enter Try.func58, Try.ntmps58
   go_wp2_with (first | ((with_reducible refine gate_dst (N := 2) rfl ?_); refine box_event ?hg (N := 2) ?hd (cs := #[.int .i64 a0_0, .int .i64 a0_1, .string a0_2]) (t := 28) ?hr ?_; (case hd => rfl); (case hg => rfl); (case hr => first | (go_simp; done) | (go_simp; rfl)); intro gb532 hg w19 hbox hb; have BK532 := Aside0.mk (hbox); have GW532 := Aside0.mk ((by rw [hg]; exact (below_size z_g4) : w.heap.size ≤ gb532)); have GE532 := Aside0.mk ((by rw [hg]; exact (below_size z_g4) : w.heap.size ≤ gb532)); replace HB := Aside0.mk (below_step z_g4 hb); clear hb hbox hg; obtain ⟨hcz20_0, hcz20_1, hcz20_2, hfz20_0, hfz20_1, hfz20_2⟩ := bc3_g0 BK532.out) | ((with_reducible refine gate_callee (f := 39) rfl ?_); refine goesL_ (some 10) rfl rfl Try.func39 (by kernel_rfl) rfl #[.agg #[.int .i64 a0_0, .int .i64 a0_1, .string a0_2], .string a1] rfl z_g9 ?_; (with_reducible refine (impl_IsFill.calls k a0_0 a0_1 a0_2 a1 false _ A3.out).mono ?_); rintro e w21 ⟨rfl, hb⟩; refine ⟨_, rfl, ?_⟩; replace BK532 := Aside0.mk (blk_below (g := gb532) (o := .cells #[.int .i64 a0_0, .int .i64 a0_1, .string a0_2] 28 (0, 0)) (bd_g7 BK532.out) hb); replace HB := Aside0.mk (below_step z24_3 hb); (try clear hb)))
   go_ret
   exact ⟨_, z_g13, by first | exact Kd.R_nil _ _ _ _ _ | exact Kd.N_nil _ _ _ _ _ | exact Kd.V_nil _ _ _ _ _ | exact Kd.Q_nil _ _ _ _ _ | exact Kd.S_nil _ _ _ _ _, z24_3⟩

/-! ### impl_SlotPattern: function 112 -/
def impl_SlotPattern.f (k : Nat) (a0_0 : Int) (a0_1 : Int) (a0_2 : ByteArray) (a1 : ByteArray) (a2 : Int) : Option (ByteArray) := (impl_patterns.f k a0_0 a0_1 a0_2 a1).bind fun t543 => ((impl_at.f a2 (t543.length : Int)).bind fun t546 => (if t546 = true then (if 0 ≤ a2 then (if a2 < (t543.length : Int) then (some (rdOf ByteArray.empty t543 a2)) else (none)) else (none)) else (some (⟨#[]⟩ : ByteArray))))
theorem impl_SlotPattern.calls (k : Nat) (a0_0 : Int) (a0_1 : Int) (a0_2 : ByteArray) (a1 : ByteArray) (a2 : Int) (r : ByteArray) (w : World) (h : impl_SlotPattern.f k a0_0 a0_1 a0_2 a1 a2 = some r) :
   Calls Try.prog 112 #[.agg #[.int .i64 a0_0, .int .i64 a0_1, .string a0_2], .string a1, .int .i64 a2] w fun e w' => e = .returned (.string r) ∧ Below w.heap.size w w' := by
  have hu28 := Try.underlying28; have HB := Aside0.mk (Below.refl w.heap.size w); have H : ((impl_patterns.f k a0_0 a0_1 a0_2 a1).bind fun t543 => ((impl_at.f a2 (t543.length : Int)).bind fun t546 => (if t546 = true then (if 0 ≤ a2 then (if a2 < (t543.length : Int) then (some (rdOf ByteArray.empty t543 a2)) else (none)) else (none)) else (some (⟨#[]⟩ : ByteArray))))) = some r := h; clear h; replace H := Option.bind_eq_some_iff.mp H; obtain ⟨t543, A40, H⟩ := H; try dsimp only at H
  have A4 := Aside0.mk A40; clear A40; replace H := Option.bind_eq_some_iff.mp H; obtain ⟨t546, A50, H⟩ := H; try dsimp only at H
  have A5 := Aside0.mk A50; clear A50; by_cases c6 : t546 = true
  ·subst c6; rw [if_pos rfl] at H
   by_cases c7 : 0 ≤ a2
   ·rw [if_pos c7] at H
    have c7b0 := decide_eq_true c7; clear c7; by_cases c8 : a2 < (t543.length : Int)
    ·rw [if_pos c8] at H
     have c8b0 := decide_eq_true c8; clear c8; obtain rfl := Option.some.inj H; go_enter Try.func112, Try.ntmps112
     go_wp2_with (first | ((with_reducible refine gate_dst (N := 3) rfl ?_); refine box_event ?hg (N := 3) ?hd (cs := #[.int .i64 a0_0, .int .i64 a0_1, .string a0_2]) (t := 28) ?hr ?_; (case hd => rfl); (case hg => rfl); (case hr => first | (go_simp; done) | (go_simp; rfl)); intro gb542 hg w9 hbox hb; have BK542 := Aside0.mk (hbox); have GW542 := Aside0.mk ((by rw [hg]; exact (below_size z_g4) : w.heap.size ≤ gb542)); have GE542 := Aside0.mk ((by rw [hg]; exact (below_size z_g4) : w.heap.size ≤ gb542)); replace HB := Aside0.mk (below_step z_g4 hb); clear hb hbox hg; obtain ⟨hcz10_0, hcz10_1, hcz10_2, hfz10_0, hfz10_1, hfz10_2⟩ := bc3_g0 BK542.out) | ((with_reducible refine gate_callee (f := 58) rfl ?_); refine goesL_ (some 10) rfl rfl Try.func58 (by kernel_rfl) rfl #[.agg #[.int .i64 a0_0, .int .i64 a0_1, .string a0_2], .string a1] rfl z_g9 ?_; (with_reducible refine (impl_patterns.calls k a0_0 a0_1 a0_2 a1 t543 _ A4.out).mono ?_); rintro e w11 ⟨v544, rfl, ho0, hb⟩; refine ⟨_, rfl, ?_⟩; have HO545 := Aside0.mk (Kd.R_lower ho0 (below_size z24_6)); replace BK542 := Aside0.mk (blk_below (g := gb542) (o := .cells #[.int .i64 a0_0, .int .i64 a0_1, .string a0_2] 28 (0, 0)) (bd_g7 BK542.out) hb); replace HB := Aside0.mk (below_step z24_6 hb); (try clear hb); (try clear ho0); obtain ⟨Ao12, co12, eo12⟩ := Kd.R_slice HO545.out; subst eo12) | ((with_reducible refine gate_callee (f := 73) rfl ?_); refine goesL_ (some 14) rfl rfl Try.func73 (by kernel_rfl) rfl #[.int .i64 a2, .int .i64 (t543.length : Int)] rfl z_g9 ?_; (with_reducible refine (impl_at.calls a2 (t543.length : Int) true _ A5.out).mono ?_); rintro e w' ⟨rfl, ⟨nd, rfl⟩⟩; refine ⟨_, rfl, ?_⟩; have p547 : 0 ≤ (a2 : Int) := of_decide_eq_true z_g1; have q547 : a2 < (t543.length : Int) := of_decide_eq_true z_g1; obtain ⟨ad547, e547, hx547_0⟩ := Kd.at_string (Kd.R_reads' HO545.out).2.2 a2 p547 q547; cases e547; replace p547 := eq_true p547; replace q547 := eq_true q547))
     go_ret
     exact ⟨z_g13, z24_6⟩
    ·rw [if_neg c8] at H
     exact absurd H (by simp)
   ·rw [if_neg c7] at H
    exact absurd H (by simp)
  ·replace c6 := Bool.eq_false_iff.mpr c6; subst c6; rw [if_neg (show ¬ (false = true) by decide)] at H
   obtain rfl := Option.some.inj H; go_enter Try.func112, Try.ntmps112
   go_wp2_with (first | ((with_reducible refine gate_dst (N := 3) rfl ?_); refine box_event ?hg (N := 3) ?hd (cs := #[.int .i64 a0_0, .int .i64 a0_1, .string a0_2]) (t := 28) ?hr ?_; (case hd => rfl); (case hg => rfl); (case hr => first | (go_simp; done) | (go_simp; rfl)); intro gb542 hg w13 hbox hb; have BK542 := Aside0.mk (hbox); have GW542 := Aside0.mk ((by rw [hg]; exact (below_size z_g4) : w.heap.size ≤ gb542)); have GE542 := Aside0.mk ((by rw [hg]; exact (below_size z_g4) : w.heap.size ≤ gb542)); replace HB := Aside0.mk (below_step z_g4 hb); clear hb hbox hg; obtain ⟨hcz14_0, hcz14_1, hcz14_2, hfz14_0, hfz14_1, hfz14_2⟩ := bc3_g0 BK542.out) | ((with_reducible refine gate_callee (f := 58) rfl ?_); refine goesL_ (some 10) rfl rfl Try.func58 (by kernel_rfl) rfl #[.agg #[.int .i64 a0_0, .int .i64 a0_1, .string a0_2], .string a1] rfl z_g9 ?_; (with_reducible refine (impl_patterns.calls k a0_0 a0_1 a0_2 a1 t543 _ A4.out).mono ?_); rintro e w15 ⟨v544, rfl, ho0, hb⟩; refine ⟨_, rfl, ?_⟩; have HO545 := Aside0.mk (Kd.R_lower ho0 (below_size z24_6)); replace BK542 := Aside0.mk (blk_below (g := gb542) (o := .cells #[.int .i64 a0_0, .int .i64 a0_1, .string a0_2] 28 (0, 0)) (bd_g7 BK542.out) hb); replace HB := Aside0.mk (below_step z24_6 hb); (try clear hb); (try clear ho0); obtain ⟨Ao16, co16, eo16⟩ := Kd.R_slice HO545.out; subst eo16) | ((with_reducible refine gate_callee (f := 73) rfl ?_); refine goesL_ (some 14) rfl rfl Try.func73 (by kernel_rfl) rfl #[.int .i64 a2, .int .i64 (t543.length : Int)] rfl z_g9 ?_; (with_reducible refine (impl_at.calls a2 (t543.length : Int) false _ A5.out).mono ?_); rintro e w' ⟨rfl, ⟨nd, rfl⟩⟩; refine ⟨_, rfl, ?_⟩))
   go_ret
   exact ⟨z_g13, z24_6⟩

end Go.Proofs.Ytodcckiphdnjeaa.QFnPruned
