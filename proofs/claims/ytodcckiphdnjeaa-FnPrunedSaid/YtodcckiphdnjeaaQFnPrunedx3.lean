-- Written by a changed copy of the kit's printer (wip/mp.py of this repo), for this claim; Lean checks it.
import Derived.Test.YtodcckiphdnjeaaQFnPrunedx0
namespace Go.Proofs.Ytodcckiphdnjeaa.QFnPruned
open Go.RowKit Go.Proofs.YtodcckiphdnjeaaW.PrintWords Go.Proofs.YtodcckiphdnjeaaW.PrintLast Go.Proofs.YtodcckiphdnjeaaW.PrintMore
attribute [local go_sem] max2_int min2_int max_two min_two max_three min_three max_four min_four   -- for this text's walks alone
set_option linter.unusedVariables false
set_option linter.unusedSimpArgs false

theorem z3_0 {p : Prop} (h : p := by repeat (first | (with_reducible first | exact HB.out | apply below_alloc | apply pw_below_drewN | apply below_drew1 | refine below_set ?_ GE104.out) | exact HB.out)) : p := h
theorem z3_2 {p : Prop} (h : p := by (with_reducible repeat (first | refine blk_drewN ?_ _ | refine blk_drew ?_ | refine blk_alloc ?_ _)); exact BK104.out) : p := h
/-! ### impl_run: function 62 -/
mutual
def impl_run.j0 : Nat → Int → Int → Int → Int → Int → Int → ByteArray → Option (Int)
  | 0, _, _, _, _, _, _, _ => none
  | k + 1, x1, x7, x8, x9, x105000, x105001, x105002 => if 0 ≤ x1 then (if x1 < (x105002.size : Int) then (if (bt x105002 x1) = 46 then (if x8 > 0 then (if 0 ≤ (wrap64 (x1 - x7)) then (if (wrap64 (x1 - x7)) < (x105002.size : Int) then (impl_run.j1 k x1 x7 x8 x9 ((bt x105002 (wrap64 (x1 - x7))) == 46) x105000 x105001 x105002) else (none)) else (none)) else (impl_run.j1 k x1 x7 x8 x9 false x105000 x105001 x105002)) else (impl_run.j1 k x1 x7 x8 x9 true x105000 x105001 x105002)) else (none)) else (none)
def impl_run.j1 : Nat → Int → Int → Int → Int → Bool → Int → Int → ByteArray → Option (Int)
  | 0, _, _, _, _, _, _, _, _ => none
  | k + 1, x1, x7, x8, x9, x43, x105000, x105001, x105002 => if x43 = true then (some 0) else (impl_run.l0 k x1 x7 x8 x9 0 x105000 x105001 x105002)
def impl_run.l0 : Nat → Int → Int → Int → Int → Int → Int → Int → ByteArray → Option (Int)
  | 0, _, _, _, _, _, _, _, _ => none
  | k + 1, x1, x7, x8, x9, x10, x105000, x105001, x105002 => if (wrap64 (x8 + x10)) < x9 then (if 0 ≤ (wrap64 (x1 + (wrap64 (x10 * x7)))) then (if (wrap64 (x1 + (wrap64 (x10 * x7)))) < (x105002.size : Int) then (if (bt x105002 (wrap64 (x1 + (wrap64 (x10 * x7))))) = 46 then (impl_run.l0 k x1 x7 x8 x9 (wrap64 (x10 + 1)) x105000 x105001 x105002) else (some x10)) else (none)) else (none)) else (some x10)
end
def impl_run.f (k : Nat) (a0_0 : Int) (a0_1 : Int) (a0_2 : ByteArray) (a1 : Int) (a2 : Bool) : Option (Int) := if a0_1 = 0 then (none) else (if a2 = true then (impl_run.j0 k a1 a0_1 (wrap64 (Int.tdiv a1 a0_1)) a0_0 a0_0 a0_1 a0_2) else (impl_run.j0 k a1 1 (Int.tmod a1 a0_1) a0_1 a0_0 a0_1 a0_2))
set_option maxHeartbeats 8000000 in
set_option maxRecDepth 100000 in
theorem impl_run.calls (k : Nat) (a0_0 : Int) (a0_1 : Int) (a0_2 : ByteArray) (a1 : Int) (a2 : Bool) (r : Int) (w : World) (h : impl_run.f k a0_0 a0_1 a0_2 a1 a2 = some r) :
   Calls Try.prog 62 #[.agg #[.int .i64 a0_0, .int .i64 a0_1, .string a0_2], .int .i64 a1, .bool a2] w fun e w' => e = .returned (.int .i64 r) ∧ Below w.heap.size w w' := by
  have hu28 := Try.underlying28; have HB := Aside0.mk (Below.refl w.heap.size w); have H : (if a0_1 = 0 then (none) else (if a2 = true then (impl_run.j0 k a1 a0_1 (wrap64 (Int.tdiv a1 a0_1)) a0_0 a0_0 a0_1 a0_2) else (impl_run.j0 k a1 1 (Int.tmod a1 a0_1) a0_1 a0_0 a0_1 a0_2))) = some r := h; clear h; by_cases c4 : a0_1 = 0
  ·rw [if_pos c4] at H
   exact absurd H (by simp)
  ·rw [if_neg c4] at H
   have c4b0 : (a0_1 == 0) = false := beq_eq_false_iff_ne.mpr c4; have c4b1 : (a0_1 != 0) = true := bne_iff_ne.mpr c4; have HC5 := Aside0.mk H; clear H; go_enter Try.func62, Try.ntmps62
   go_upto_if 17 with (first | ((with_reducible refine gate_dst (N := 3) rfl ?_); refine box_event ?hg (N := 3) ?hd (cs := #[.int .i64 a0_0, .int .i64 a0_1, .string a0_2]) (t := 28) ?hr ?_; (case hd => rfl); (case hg => rfl); (case hr => first | (go_simp; done) | (go_simp; rfl)); intro gb104 hg w6 hbox hb; have BK104 := Aside0.mk (hbox); have GW104 := Aside0.mk ((by rw [hg]; exact (below_size z_g4) : w.heap.size ≤ gb104)); have GE104 := Aside0.mk ((by rw [hg]; exact (below_size z_g4) : w.heap.size ≤ gb104)); replace HB := Aside0.mk (below_step z_g4 hb); clear hb hbox hg; obtain ⟨hcz7_0, hcz7_1, hcz7_2, hfz7_0, hfz7_1, hfz7_2⟩ := bc3_g0 BK104.out))
   repeat (go_quiet (first | ((with_reducible refine gate_dst (N := 3) rfl ?_); refine box_event ?hg (N := 3) ?hd (cs := #[.int .i64 a0_0, .int .i64 a0_1, .string a0_2]) (t := 28) ?hr ?_; (case hd => rfl); (case hg => rfl); (case hr => first | (go_simp; done) | (go_simp; rfl)); intro gb104 hg w6 hbox hb; have BK104 := Aside0.mk (hbox); have GW104 := Aside0.mk ((by rw [hg]; exact (below_size z_g4) : w.heap.size ≤ gb104)); have GE104 := Aside0.mk ((by rw [hg]; exact (below_size z_g4) : w.heap.size ≤ gb104)); replace HB := Aside0.mk (below_step z_g4 hb); clear hb hbox hg; obtain ⟨hcz7_0, hcz7_1, hcz7_2, hfz7_0, hfz7_1, hfz7_2⟩ := bc3_g0 BK104.out)); go_upto_if 17 with (first | ((with_reducible refine gate_dst (N := 3) rfl ?_); refine box_event ?hg (N := 3) ?hd (cs := #[.int .i64 a0_0, .int .i64 a0_1, .string a0_2]) (t := 28) ?hr ?_; (case hd => rfl); (case hg => rfl); (case hr => first | (go_simp; done) | (go_simp; rfl)); intro gb104 hg w6 hbox hb; have BK104 := Aside0.mk (hbox); have GW104 := Aside0.mk ((by rw [hg]; exact (below_size z_g4) : w.heap.size ≤ gb104)); have GE104 := Aside0.mk ((by rw [hg]; exact (below_size z_g4) : w.heap.size ≤ gb104)); replace HB := Aside0.mk (below_step z_g4 hb); clear hb hbox hg; obtain ⟨hcz7_0, hcz7_1, hcz7_2, hfz7_0, hfz7_1, hfz7_2⟩ := bc3_g0 BK104.out)))
   (try simp only [Act.put, List.setIfInBounds_toArray, List.set_cons_zero, List.set_cons_succ])
   go_cut [7, 8, 9] (fun v7 v8 v9 wc => ∃ (kq : Nat) (x7_4 : Int) (x8_4 : Int) (x9_4 : Int), v7 = .int .i64 x7_4 ∧ v8 = .int .i64 x8_4 ∧ v9 = .int .i64 x9_4 ∧ Aside0 (impl_run.j0 kq a1 x7_4 x8_4 x9_4 a0_0 a0_1 a0_2 = some r) ∧ Aside0 (kq ≤ k) ∧ Aside0 (wc.heap[gb104]? = some (.cells #[.int .i64 a0_0, .int .i64 a0_1, .string a0_2] 28 (0, 0))) ∧ Aside0 (Below w.heap.size w wc))
   case first =>
    have H := HC5.out; clear HC5; by_cases c8 : a2 = true
    ·subst c8; rw [if_pos rfl] at H
     have H' := Aside0.mk H
     clear H; obtain ⟨hcz9_0, hcz9_1, hcz9_2, hfz9_0, hfz9_1, hfz9_2⟩ := bc3_g0 BK104.out; go_wp2
     repeat (go_quiet (fail); try go_wp2)
     go_meet
     case rel => exact ⟨_, (a0_1), (wrap64 (Int.tdiv a1 a0_1)), (a0_0), (by first | rfl | (simp; done) | (simp [*]; done)), (by first | rfl | (simp; done) | (simp [*]; done)), (by first | rfl | (simp; done) | (simp [*]; done)), H', ⟨by first | omega | exact Nat.le_refl _⟩, ⟨z3_2⟩, ⟨z3_0⟩⟩
    ·replace c8 := Bool.eq_false_iff.mpr c8; subst c8; rw [if_neg (show ¬ (false = true) by decide)] at H
     have H' := Aside0.mk H
     clear H; go_wp2
     repeat (go_quiet (fail); try go_wp2)
     go_meet
     case rel => exact ⟨_, (1), (Int.tmod a1 a0_1), (a0_1), (by first | rfl | (simp; done) | (simp [*]; done)), (by first | rfl | (simp; done) | (simp [*]; done)), (by first | rfl | (simp; done) | (simp [*]; done)), H', ⟨by first | omega | exact Nat.le_refl _⟩, ⟨z3_2⟩, ⟨z3_0⟩⟩
   case rest =>
    clear HC5; try clear p2
    try clear c4
    try clear c4b0
    try clear c4b1
    try clear c6
    try clear p6
    try clear c8
    try clear hcz7_0 hcz7_1 hcz7_2
    try clear hcz9_0 hcz9_1 hcz9_2
    try clear hfz7_0 hfz7_1 hfz7_2
    try clear hfz9_0 hfz9_1 hfz9_2
    obtain ⟨kq, x7_4, x8_4, x9_4, rfl, rfl, rfl, HA, HJ4, BK104, HB⟩ := hcut
    cases kq with
    | zero => exact absurd HA.out (by simp [impl_run.j0])
    | succ kj4 =>
     have H := HA.out; clear HA; simp only [impl_run.j0] at H; have HC10 := Aside0.mk H; clear H; go_upto_region 4 with (fail)
     repeat (go_quiet (fail); go_upto_region 4 with (fail))
     go_cut [43] (fun v43 wc => ∃ (kq : Nat) (x43_9 : Bool), v43 = .bool x43_9 ∧ Aside0 (impl_run.j1 kq a1 x7_4 x8_4 x9_4 x43_9 a0_0 a0_1 a0_2 = some r) ∧ Aside0 (kq ≤ kj4) ∧ Aside0 (wc.heap[gb104]? = some (.cells #[.int .i64 a0_0, .int .i64 a0_1, .string a0_2] 28 (0, 0))) ∧ Aside0 (Below w.heap.size w wc))
     case first =>
      have H := HC10.out; clear HC10; by_cases c11 : 0 ≤ a1
      ·rw [if_pos c11] at H
       have c11b0 := decide_eq_true c11; clear c11; (first | rw [c11b0] | (simp only [i64_w, i32_w]; rw [c11b0]) | skip)
       by_cases c12 : a1 < (a0_2.size : Int)
       ·rw [if_pos c12] at H
        have c12b0 := decide_eq_true c12; clear c12; by_cases c14 : (bt a0_2 a1) = 46
        ·rw [if_pos c14] at H
         have c14b0 : ((bt a0_2 a1) == 46) = true := beq_iff_eq.mpr c14; have c14b1 : ((bt a0_2 a1) != 46) = false := bne_eq_false_iff_eq.mpr c14; clear c14; by_cases c15 : x8_4 > 0
         ·rw [if_pos c15] at H
          have c15b0 := decide_eq_true c15; clear c15; obtain ⟨ji16, hji16⟩ : ∃ j_ : Int, (wrap64 (a1 - x7_4)) = j_ := ⟨_, rfl⟩; replace H : (if 0 ≤ (ji16) then (if (ji16) < (a0_2.size : Int) then (impl_run.j1 kj4 a1 x7_4 x8_4 x9_4 ((bt a0_2 (ji16)) == 46) a0_0 a0_1 a0_2) else (none)) else (none)) = some r := by first | (rw [hji16] at H; exact H) | (simp only [hji16] at H ⊢; exact H)
          have hji16w : (IntKind.i64.wrap (a1 - x7_4)) = ji16 := (i64_w _).trans hji16; by_cases c17 : 0 ≤ (ji16)
          ·rw [if_pos c17] at H
           have c17b0 := decide_eq_true c17; clear c17; by_cases c18 : (ji16) < (a0_2.size : Int)
           ·rw [if_pos c18] at H
            have c18b0 := decide_eq_true c18; clear c18; have H' := Aside0.mk H
            clear H; obtain ⟨hcz20_0, hcz20_1, hcz20_2, hfz20_0, hfz20_1, hfz20_2⟩ := bc3_g0 BK104.out; have p13 : 0 ≤ (a1 : Int) := of_decide_eq_true z_g1; have q13 : a1 < (a0_2.size : Int) := of_decide_eq_true z_g1; have hx13 := bt_at a0_2 a1; replace p13 := eq_true p13; replace q13 := eq_true q13; have p19 : 0 ≤ ((ji16) : Int) := of_decide_eq_true z_g1; have q19 : (ji16) < (a0_2.size : Int) := of_decide_eq_true z_g1; have hx19 := bt_at a0_2 (ji16); replace p19 := eq_true p19; replace q19 := eq_true q19; go_wp2
            repeat (go_quiet (fail); try go_wp2)
            go_meet
            case rel => exact ⟨_, (((bt a0_2 (ji16)) == 46)), (by first | rfl | (simp; done) | (simp only [← hji16] <;> (first | rfl | simp)) | (simp [*]; done)), H', ⟨by have := HJ4.out; first | omega | exact Nat.le_refl _⟩, ⟨z3_2⟩, ⟨z3_0⟩⟩
           ·rw [if_neg c18] at H
            exact absurd H (by simp)
          ·rw [if_neg c17] at H
           exact absurd H (by simp)
         ·rw [if_neg c15] at H
          have c15b0 := decide_eq_false c15; clear c15; have H' := Aside0.mk H
          clear H; obtain ⟨hcz21_0, hcz21_1, hcz21_2, hfz21_0, hfz21_1, hfz21_2⟩ := bc3_g0 BK104.out; have p13 : 0 ≤ (a1 : Int) := of_decide_eq_true z_g1; have q13 : a1 < (a0_2.size : Int) := of_decide_eq_true z_g1; have hx13 := bt_at a0_2 a1; replace p13 := eq_true p13; replace q13 := eq_true q13; go_wp2
          repeat (go_quiet (fail); try go_wp2)
          go_meet
          case rel => exact ⟨_, (false), (by first | rfl | (simp; done) | (simp [*]; done)), H', ⟨by have := HJ4.out; first | omega | exact Nat.le_refl _⟩, ⟨z3_2⟩, ⟨z3_0⟩⟩
        ·rw [if_neg c14] at H
         have c14b0 : ((bt a0_2 a1) == 46) = false := beq_eq_false_iff_ne.mpr c14; have c14b1 : ((bt a0_2 a1) != 46) = true := bne_iff_ne.mpr c14; have H' := Aside0.mk H
         clear H; obtain ⟨hcz22_0, hcz22_1, hcz22_2, hfz22_0, hfz22_1, hfz22_2⟩ := bc3_g0 BK104.out; have p13 : 0 ≤ (a1 : Int) := of_decide_eq_true z_g1; have q13 : a1 < (a0_2.size : Int) := of_decide_eq_true z_g1; have hx13 := bt_at a0_2 a1; replace p13 := eq_true p13; replace q13 := eq_true q13; go_wp2
         repeat (go_quiet (fail); try go_wp2)
         go_meet
         case rel => exact ⟨_, (true), (by first | rfl | (simp; done) | (simp [*]; done)), H', ⟨by have := HJ4.out; first | omega | exact Nat.le_refl _⟩, ⟨z3_2⟩, ⟨z3_0⟩⟩
       ·rw [if_neg c12] at H
        exact absurd H (by simp)
      ·rw [if_neg c11] at H
       exact absurd H (by simp)
     case rest =>
      clear HC10; try clear c1
      try clear p1
      try clear q1
      try clear hx1
      try clear p2
      try clear c4
      try clear c4b0
      try clear c4b1
      try clear c6
      try clear p6
      try clear c8
      try clear c11
      try clear c11b0
      try clear c12
      try clear c12b0
      try clear p13
      try clear q13
      try clear hx13
      try clear c14
      try clear c14b0
      try clear c14b1
      try clear c15
      try clear c15b0
      try clear c17
      try clear c17b0
      try clear c18
      try clear c18b0
      try clear p19
      try clear q19
      try clear hx19
      try clear hcz20_0 hcz20_1 hcz20_2
      try clear hcz21_0 hcz21_1 hcz21_2
      try clear hcz22_0 hcz22_1 hcz22_2
      try clear hcz7_0 hcz7_1 hcz7_2
      try clear hcz9_0 hcz9_1 hcz9_2
      try clear hfz20_0 hfz20_1 hfz20_2
      try clear hfz21_0 hfz21_1 hfz21_2
      try clear hfz22_0 hfz22_1 hfz22_2
      try clear hfz7_0 hfz7_1 hfz7_2
      try clear hfz9_0 hfz9_1 hfz9_2
      try clear p13
      try clear p19
      try clear p2
      try clear p6
      try clear q13
      try clear q19
      obtain ⟨kq, x43_9, rfl, HA, HJ9, BK104, HB⟩ := hcut
      cases kq with
      | zero => exact absurd HA.out (by simp [impl_run.j1])
      | succ kj9 =>
       have H := HA.out; clear HA; simp only [impl_run.j1] at H; by_cases c23 : x43_9 = true
       ·subst c23; rw [if_pos rfl] at H
        obtain rfl := Option.some.inj H; go_wp2
        repeat (go_quiet (fail); try go_wp2)
        go_ret
        exact ⟨by first | rfl | (simp [errW_none, errW_some] <;> rfl) | (simp [*, errW_none, errW_some] <;> rfl), z3_0⟩
       ·replace c23 := Bool.eq_false_iff.mpr c23; subst c23; rw [if_neg (show ¬ (false = true) by decide)] at H
        have H' := Aside0.mk H
        clear H; go_wp2
        repeat (go_quiet (fail); try go_wp2)
        go_loopg [10] kj9 (fun kq v10 w' => ∃ (x10_3 : Int), v10 = .int .i64 x10_3 ∧ Aside0 (impl_run.l0 kq a1 x7_4 x8_4 x9_4 x10_3 a0_0 a0_1 a0_2 = some r) ∧ Aside0 (kq ≤ kj9) ∧ Aside0 (w'.heap[gb104]? = some (.cells #[.int .i64 a0_0, .int .i64 a0_1, .string a0_2] 28 (0, 0))) ∧ Aside0 (Below w.heap.size w w'))
        case atStart => exact ⟨(0), (by first | rfl | (simp; done) | (simp [*]; done)), H', ⟨Nat.le_refl _⟩, ⟨z3_2⟩, ⟨z3_0⟩⟩
        case round =>
         clear H'; try clear c1
         try clear p1
         try clear q1
         try clear hx1
         try clear c2
         try clear p2
         try clear c4
         try clear c4b0
         try clear c4b1
         try clear c6
         try clear p6
         try clear c8
         try clear c11
         try clear c11b0
         try clear c12
         try clear c12b0
         try clear p13
         try clear q13
         try clear hx13
         try clear c14
         try clear c14b0
         try clear c14b1
         try clear c15
         try clear c15b0
         try clear c17
         try clear c17b0
         try clear c18
         try clear c18b0
         try clear p19
         try clear q19
         try clear hx19
         try clear c23
         try clear hcz20_0 hcz20_1 hcz20_2
         try clear hcz21_0 hcz21_1 hcz21_2
         try clear hcz22_0 hcz22_1 hcz22_2
         try clear hcz7_0 hcz7_1 hcz7_2
         try clear hcz9_0 hcz9_1 hcz9_2
         try clear hfz20_0 hfz20_1 hfz20_2
         try clear hfz21_0 hfz21_1 hfz21_2
         try clear hfz22_0 hfz22_1 hfz22_2
         try clear hfz7_0 hfz7_1 hfz7_2
         try clear hfz9_0 hfz9_1 hfz9_2
         try clear p1
         try clear p13
         try clear p19
         try clear p2
         try clear p6
         try clear q1
         try clear q13
         try clear q19
         obtain ⟨x10_3, rfl, HA, HK3, BK104, HB⟩ := hrel
         cases gk with
         | zero => exact absurd HA.out (by simp [impl_run.l0])
         | succ k3 =>
          have H := HA.out; clear HA; simp only [impl_run.l0] at H; by_cases c24 : (wrap64 (x8_4 + x10_3)) < x9_4
          ·rw [if_pos c24] at H
           have c24b0 := decide_eq_true c24; clear c24; obtain ⟨ji25, hji25⟩ : ∃ j_ : Int, (wrap64 (a1 + (wrap64 (x10_3 * x7_4)))) = j_ := ⟨_, rfl⟩; replace H : (if 0 ≤ (ji25) then (if (ji25) < (a0_2.size : Int) then (if (bt a0_2 (ji25)) = 46 then (impl_run.l0 k3 a1 x7_4 x8_4 x9_4 (wrap64 (x10_3 + 1)) a0_0 a0_1 a0_2) else (some x10_3)) else (none)) else (none)) = some r := by first | (rw [hji25] at H; exact H) | (simp only [hji25] at H ⊢; exact H)
           have hji25w : (IntKind.i64.wrap (a1 + (wrap64 (x10_3 * x7_4)))) = ji25 := (i64_w _).trans hji25; by_cases c26 : 0 ≤ (ji25)
           ·rw [if_pos c26] at H
            have c26b0 := decide_eq_true c26; clear c26; by_cases c27 : (ji25) < (a0_2.size : Int)
            ·rw [if_pos c27] at H
             have c27b0 := decide_eq_true c27; clear c27; by_cases c29 : (bt a0_2 (ji25)) = 46
             ·rw [if_pos c29] at H
              have c29b0 : ((bt a0_2 (ji25)) == 46) = true := beq_iff_eq.mpr c29; have c29b1 : ((bt a0_2 (ji25)) != 46) = false := bne_eq_false_iff_eq.mpr c29; clear c29; have H' := Aside0.mk H
              clear H; obtain ⟨hcz30_0, hcz30_1, hcz30_2, hfz30_0, hfz30_1, hfz30_2⟩ := bc3_g0 BK104.out; have p28 : 0 ≤ ((ji25) : Int) := of_decide_eq_true z_g1; have q28 : (ji25) < (a0_2.size : Int) := of_decide_eq_true z_g1; have hx28 := bt_at a0_2 (ji25); replace p28 := eq_true p28; replace q28 := eq_true q28; go_wp2
              repeat (go_quiet (fail); try go_wp2)
              go_roundg k3
              case measure => have := HJ4.out; have := HJ9.out; have := HK3.out; omega
              case rel => exact ⟨(wrap64 (x10_3 + 1)), (by first | rfl | (simp; done) | (simp [*]; done)), H', ⟨by have := HJ4.out; have := HJ9.out; have := HK3.out; omega⟩, ⟨z3_2⟩, ⟨z3_0⟩⟩
             ·rw [if_neg c29] at H
              have c29b0 : ((bt a0_2 (ji25)) == 46) = false := beq_eq_false_iff_ne.mpr c29; have c29b1 : ((bt a0_2 (ji25)) != 46) = true := bne_iff_ne.mpr c29; obtain rfl := Option.some.inj H; obtain ⟨hcz31_0, hcz31_1, hcz31_2, hfz31_0, hfz31_1, hfz31_2⟩ := bc3_g0 BK104.out; have p28 : 0 ≤ ((ji25) : Int) := of_decide_eq_true z_g1; have q28 : (ji25) < (a0_2.size : Int) := of_decide_eq_true z_g1; have hx28 := bt_at a0_2 (ji25); replace p28 := eq_true p28; replace q28 := eq_true q28; go_wp2
              repeat (go_quiet (fail); try go_wp2)
              go_ret
              exact ⟨by first | rfl | (simp [errW_none, errW_some] <;> rfl) | (simp only [← hji25]; first | rfl | (simp [errW_none, errW_some] <;> rfl)) | (simp [*, errW_none, errW_some] <;> rfl), z3_0⟩
            ·rw [if_neg c27] at H
             exact absurd H (by simp)
           ·rw [if_neg c26] at H
            exact absurd H (by simp)
          ·rw [if_neg c24] at H
           have c24b0 := decide_eq_false c24; clear c24; obtain rfl := Option.some.inj H; go_wp2
           repeat (go_quiet (fail); try go_wp2)
           go_ret
           exact ⟨by first | rfl | (simp [errW_none, errW_some] <;> rfl) | (simp [*, errW_none, errW_some] <;> rfl), z3_0⟩

end Go.Proofs.Ytodcckiphdnjeaa.QFnPruned
