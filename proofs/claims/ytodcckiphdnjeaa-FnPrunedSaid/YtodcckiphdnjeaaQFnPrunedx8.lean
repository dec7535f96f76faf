-- Written by a changed copy of the kit's printer (wip/mp.py of this repo), for this claim; Lean checks it.
import Derived.Test.YtodcckiphdnjeaaQFnPrunedx0
import Derived.Test.YtodcckiphdnjeaaQFnPrunedx7
namespace Go.Proofs.Ytodcckiphdnjeaa.QFnPruned
open Go.RowKit Go.Proofs.YtodcckiphdnjeaaW.PrintWords Go.Proofs.YtodcckiphdnjeaaW.PrintLast Go.Proofs.YtodcckiphdnjeaaW.PrintMore
attribute [local go_sem] max2_int min2_int max_two min_two max_three min_three max_four min_four   -- for this text's walks alone
set_option linter.unusedVariables false
set_option maxHeartbeats 8000000
set_option maxRecDepth 100000
set_option linter.unusedSimpArgs false

theorem z8_0 {p : Prop} (h : p := by repeat (first | (with_reducible first | exact HB.out | apply below_alloc | apply pw_below_drewN | apply below_drew1 | refine below_set ?_ GE162.out) | exact HB.out)) : p := h
theorem z8_1 {p : Prop} (h : p := by (with_reducible repeat (first | refine blk_drewN ?_ _ | refine blk_drew ?_ | refine blk_alloc ?_ _)); exact BK162.out) : p := h
/-! ### spec_IsGrid: function 80 -/
mutual
def spec_IsGrid.j0 : Nat → Bool → Int → Int → ByteArray → Option (Bool)
  | 0, _, _, _, _ => none
  | k + 1, x24, x163000, x163001, x163002 => if x24 = true then (some false) else (spec_IsGrid.l0 k 0 x163000 x163001 x163002)
def spec_IsGrid.l0 : Nat → Int → Int → Int → ByteArray → Option (Bool)
  | 0, _, _, _, _ => none
  | k + 1, x3, x163000, x163001, x163002 => if x3 < (x163002.size : Int) then (if 0 ≤ x3 then (if (bt x163002 x3) = 35 then (spec_IsGrid.l0 k (wrap64 (x3 + 1)) x163000 x163001 x163002) else (if (bt x163002 x3) = 46 then (spec_IsGrid.l0 k (wrap64 (x3 + 1)) x163000 x163001 x163002) else (some false))) else (none)) else (some true)
end
def spec_IsGrid.f (k : Nat) (a0_0 : Int) (a0_1 : Int) (a0_2 : ByteArray) : Option (Bool) := (spec_l1In.f a0_0 2 6).bind fun t163 => (if t163 = true then ((spec_l1In.f a0_1 2 6).bind fun t164 => (if t164 = true then (spec_IsGrid.j0 k ((a0_2.size : Int) != (wrap64 (a0_0 * a0_1))) a0_0 a0_1 a0_2) else (spec_IsGrid.j0 k true a0_0 a0_1 a0_2))) else (spec_IsGrid.j0 k true a0_0 a0_1 a0_2))
theorem spec_IsGrid.calls (k : Nat) (a0_0 : Int) (a0_1 : Int) (a0_2 : ByteArray) (r : Bool) (w : World) (h : spec_IsGrid.f k a0_0 a0_1 a0_2 = some r) :
   Calls Try.prog 80 #[.agg #[.int .i64 a0_0, .int .i64 a0_1, .string a0_2]] w fun e w' => e = .returned (.bool r) ∧ Below w.heap.size w w' := by
  have hu28 := Try.underlying28; have HB := Aside0.mk (Below.refl w.heap.size w); have H : ((spec_l1In.f a0_0 2 6).bind fun t163 => (if t163 = true then ((spec_l1In.f a0_1 2 6).bind fun t164 => (if t164 = true then (spec_IsGrid.j0 k ((a0_2.size : Int) != (wrap64 (a0_0 * a0_1))) a0_0 a0_1 a0_2) else (spec_IsGrid.j0 k true a0_0 a0_1 a0_2))) else (spec_IsGrid.j0 k true a0_0 a0_1 a0_2))) = some r := h; clear h; have HC2 := Aside0.mk H; clear H; go_enter Try.func80, Try.ntmps80
  go_upto_region 1 with (first | ((with_reducible refine gate_dst (N := 1) rfl ?_); (try (refine gate_guard (by rfl) ?_; dsimp only)); refine box_event ?hg (N := 1) ?hd (cs := #[.int .i64 a0_0, .int .i64 a0_1, .string a0_2]) (t := 28) ?hr ?_; (case hd => rfl); (case hg => rfl); (case hr => first | (go_simp; done) | (go_simp; rfl)); intro gb162 hg w3 hbox hb; have BK162 := Aside0.mk (hbox); have GW162 := Aside0.mk ((by rw [hg]; exact (below_size (by repeat (first | (with_reducible first | exact HB.out | apply below_alloc | apply pw_below_drewN | apply below_drew1) | exact HB.out))) : w.heap.size ≤ gb162)); have GE162 := Aside0.mk ((by rw [hg]; exact (below_size (by repeat (first | (with_reducible first | exact HB.out | apply below_alloc | apply pw_below_drewN | apply below_drew1) | exact HB.out))) : w.heap.size ≤ gb162)); replace HB := Aside0.mk (below_step (by repeat (first | (with_reducible first | exact HB.out | apply below_alloc | apply pw_below_drewN | apply below_drew1) | exact HB.out)) hb); clear hb hbox hg))
  (try simp only [Act.put, List.setIfInBounds_toArray, List.set_cons_zero, List.set_cons_succ])
  go_cut [24] (fun v24 wc => ∃ (kq : Nat) (x24_1 : Bool), v24 = .bool x24_1 ∧ Aside0 (spec_IsGrid.j0 kq x24_1 a0_0 a0_1 a0_2 = some r) ∧ Aside0 (kq ≤ k) ∧ Aside0 (wc.heap[gb162]? = some (.cells #[.int .i64 a0_0, .int .i64 a0_1, .string a0_2] 28 (0, 0))) ∧ Aside0 (Below w.heap.size w wc))
  case first =>
   have H := HC2.out; clear HC2; replace H := Option.bind_eq_some_iff.mp H; obtain ⟨t163, A40, H⟩ := H; try dsimp only at H
   have A4 := Aside0.mk A40; clear A40; by_cases c5 : t163 = true
   ·subst c5; rw [if_pos rfl] at H
    replace H := Option.bind_eq_some_iff.mp H; obtain ⟨t164, A60, H⟩ := H; try dsimp only at H
    have A6 := Aside0.mk A60; clear A60; by_cases c7 : t164 = true
    ·subst c7; rw [if_pos rfl] at H
     have H' := Aside0.mk H
     clear H; obtain ⟨hcz8_0, hcz8_1, hcz8_2, hfz8_0, hfz8_1, hfz8_2⟩ := bc3_g0 BK162.out; go_wp2_with (first | ((with_reducible refine gate_callee (f := 44) rfl ?_); refine goesL_ (some 6) rfl rfl Try.func44 (by kernel_rfl) rfl #[.int .i64 a0_0, .int .i64 2, .int .i64 6] rfl (by (try simp only [List.map_toArray, List.map_cons, List.map_nil]); first | done | rfl | (simp only [List.length_drop, List.length_take]; rfl)) ?_; (with_reducible refine (spec_l1In.calls a0_0 2 6 true _ A4.out).mono ?_); rintro e w' ⟨rfl, ⟨nd, rfl⟩⟩; refine ⟨_, rfl, ?_⟩) | (go_at_call 44; (with_reducible refine (spec_l1In.calls a0_1 2 6 true _ A6.out).mono ?_); rintro e w' ⟨rfl, ⟨nd, rfl⟩⟩))
     go_meet
     case rel => exact ⟨_, (((a0_2.size : Int) != (wrap64 (a0_0 * a0_1)))), (by first | rfl | (simp; done) | (simp [*]; done)), H', ⟨by first | omega | exact Nat.le_refl _⟩, ⟨z8_1⟩, ⟨z8_0⟩⟩
    ·replace c7 := Bool.eq_false_iff.mpr c7; subst c7; rw [if_neg (show ¬ (false = true) by decide)] at H
     have H' := Aside0.mk H
     clear H; obtain ⟨hcz9_0, hcz9_1, hcz9_2, hfz9_0, hfz9_1, hfz9_2⟩ := bc3_g0 BK162.out; go_wp2_with (first | ((with_reducible refine gate_callee (f := 44) rfl ?_); refine goesL_ (some 6) rfl rfl Try.func44 (by kernel_rfl) rfl #[.int .i64 a0_0, .int .i64 2, .int .i64 6] rfl (by (try simp only [List.map_toArray, List.map_cons, List.map_nil]); first | done | rfl | (simp only [List.length_drop, List.length_take]; rfl)) ?_; (with_reducible refine (spec_l1In.calls a0_0 2 6 true _ A4.out).mono ?_); rintro e w' ⟨rfl, ⟨nd, rfl⟩⟩; refine ⟨_, rfl, ?_⟩) | (go_at_call 44; (with_reducible refine (spec_l1In.calls a0_1 2 6 false _ A6.out).mono ?_); rintro e w' ⟨rfl, ⟨nd, rfl⟩⟩))
     go_meet
     case rel => exact ⟨_, (true), (by first | rfl | (simp; done) | (simp [*]; done)), H', ⟨by first | omega | exact Nat.le_refl _⟩, ⟨z8_1⟩, ⟨z8_0⟩⟩
   ·replace c5 := Bool.eq_false_iff.mpr c5; subst c5; rw [if_neg (show ¬ (false = true) by decide)] at H
    have H' := Aside0.mk H
    clear H; obtain ⟨hcz10_0, hcz10_1, hcz10_2, hfz10_0, hfz10_1, hfz10_2⟩ := bc3_g0 BK162.out; go_wp2_with (first | ((with_reducible refine gate_callee (f := 44) rfl ?_); refine goesL_ (some 6) rfl rfl Try.func44 (by kernel_rfl) rfl #[.int .i64 a0_0, .int .i64 2, .int .i64 6] rfl (by (try simp only [List.map_toArray, List.map_cons, List.map_nil]); first | done | rfl | (simp only [List.length_drop, List.length_take]; rfl)) ?_; (with_reducible refine (spec_l1In.calls a0_0 2 6 false _ A4.out).mono ?_); rintro e w' ⟨rfl, ⟨nd, rfl⟩⟩; refine ⟨_, rfl, ?_⟩))
    go_meet
    case rel => exact ⟨_, (true), (by first | rfl | (simp; done) | (simp [*]; done)), H', ⟨by first | omega | exact Nat.le_refl _⟩, ⟨z8_1⟩, ⟨z8_0⟩⟩
  case rest =>
   clear HC2; try clear p2
   try clear c4
   try clear c5
   try clear p6
   try clear c7
   try clear c8
   try clear hcz10_0 hcz10_1 hcz10_2
   try clear hcz8_0 hcz8_1 hcz8_2
   try clear hcz9_0 hcz9_1 hcz9_2
   try clear hfz10_0 hfz10_1 hfz10_2
   try clear hfz8_0 hfz8_1 hfz8_2
   try clear hfz9_0 hfz9_1 hfz9_2
   obtain ⟨kq, x24_1, rfl, HA, HJ1, BK162, HB⟩ := hcut
   cases kq with
   | zero => exact absurd HA.out (by simp [spec_IsGrid.j0])
   | succ kj1 =>
    have H := HA.out; clear HA; simp only [spec_IsGrid.j0] at H; by_cases c11 : x24_1 = true
    ·subst c11; rw [if_pos rfl] at H
     obtain rfl := Option.some.inj H; go_wp2
     go_ret
     exact ⟨by first | rfl | (simp [errW_none, errW_some] <;> rfl) | (simp [*, errW_none, errW_some] <;> rfl), z8_0⟩
    ·replace c11 := Bool.eq_false_iff.mpr c11; subst c11; rw [if_neg (show ¬ (false = true) by decide)] at H
     have H' := Aside0.mk H
     clear H; go_wp2
     go_loopg [3] kj1 (fun kq v3 w' => ∃ (x3_2 : Int), v3 = .int .i64 x3_2 ∧ Aside0 (spec_IsGrid.l0 kq x3_2 a0_0 a0_1 a0_2 = some r) ∧ Aside0 (kq ≤ kj1) ∧ Aside0 (w'.heap[gb162]? = some (.cells #[.int .i64 a0_0, .int .i64 a0_1, .string a0_2] 28 (0, 0))) ∧ Aside0 (Below w.heap.size w w'))
     case atStart => exact ⟨(0), (by first | rfl | (simp; done) | (simp [*]; done)), H', ⟨Nat.le_refl _⟩, ⟨z8_1⟩, ⟨z8_0⟩⟩
     case round =>
      clear H'; try clear c1
      try clear p2
      try clear c4
      try clear c5
      try clear p6
      try clear c7
      try clear c8
      try clear c11
      try clear hcz10_0 hcz10_1 hcz10_2
      try clear hcz8_0 hcz8_1 hcz8_2
      try clear hcz9_0 hcz9_1 hcz9_2
      try clear hfz10_0 hfz10_1 hfz10_2
      try clear hfz8_0 hfz8_1 hfz8_2
      try clear hfz9_0 hfz9_1 hfz9_2
      try clear p2
      try clear p6
      obtain ⟨x3_2, rfl, HA, HK2, BK162, HB⟩ := hrel
      cases gk with
      | zero => exact absurd HA.out (by simp [spec_IsGrid.l0])
      | succ k2 =>
       have H := HA.out; clear HA; simp only [spec_IsGrid.l0] at H; by_cases c12 : x3_2 < (a0_2.size : Int)
       ·rw [if_pos c12] at H
        have c12b0 := decide_eq_true c12; clear c12; by_cases c13 : 0 ≤ x3_2
        ·rw [if_pos c13] at H
         have c13b0 := decide_eq_true c13; clear c13; by_cases c15 : (bt a0_2 x3_2) = 35
         ·rw [if_pos c15] at H
          have c15b0 : ((bt a0_2 x3_2) == 35) = true := beq_iff_eq.mpr c15; have c15b1 : ((bt a0_2 x3_2) != 35) = false := bne_eq_false_iff_eq.mpr c15; clear c15; have H' := Aside0.mk H
          clear H; obtain ⟨hcz16_0, hcz16_1, hcz16_2, hfz16_0, hfz16_1, hfz16_2⟩ := bc3_g0 BK162.out; have p14 : 0 ≤ (x3_2 : Int) := of_decide_eq_true z_g1; have q14 : x3_2 < (a0_2.size : Int) := of_decide_eq_true z_g1; have hx14 := bt_at a0_2 x3_2; replace p14 := eq_true p14; replace q14 := eq_true q14; go_wp2
          go_roundg k2
          case measure => have := HJ1.out; have := HK2.out; omega
          case rel => exact ⟨(wrap64 (x3_2 + 1)), (by first | rfl | (simp; done) | (simp [*]; done)), H', ⟨by have := HJ1.out; have := HK2.out; omega⟩, ⟨z8_1⟩, ⟨z8_0⟩⟩
         ·rw [if_neg c15] at H
          have c15b0 : ((bt a0_2 x3_2) == 35) = false := beq_eq_false_iff_ne.mpr c15; have c15b1 : ((bt a0_2 x3_2) != 35) = true := bne_iff_ne.mpr c15; by_cases c18 : (bt a0_2 x3_2) = 46
          ·rw [if_pos c18] at H
           have c18b0 : ((bt a0_2 x3_2) == 46) = true := beq_iff_eq.mpr c18; have c18b1 : ((bt a0_2 x3_2) != 46) = false := bne_eq_false_iff_eq.mpr c18; clear c18; have H' := Aside0.mk H
           clear H; obtain ⟨hcz19_0, hcz19_1, hcz19_2, hfz19_0, hfz19_1, hfz19_2⟩ := bc3_g0 BK162.out; have p14 : 0 ≤ (x3_2 : Int) := of_decide_eq_true z_g1; have q14 : x3_2 < (a0_2.size : Int) := of_decide_eq_true z_g1; have hx14 := bt_at a0_2 x3_2; replace p14 := eq_true p14; replace q14 := eq_true q14; have p17 : 0 ≤ (x3_2 : Int) := of_decide_eq_true z_g1; have q17 : x3_2 < (a0_2.size : Int) := of_decide_eq_true z_g1; have hx17 := bt_at a0_2 x3_2; replace p17 := eq_true p17; replace q17 := eq_true q17; go_wp2
           go_roundg k2
           case measure => have := HJ1.out; have := HK2.out; omega
           case rel => exact ⟨(wrap64 (x3_2 + 1)), (by first | rfl | (simp; done) | (simp [*]; done)), H', ⟨by have := HJ1.out; have := HK2.out; omega⟩, ⟨z8_1⟩, ⟨z8_0⟩⟩
          ·rw [if_neg c18] at H
           have c18b0 : ((bt a0_2 x3_2) == 46) = false := beq_eq_false_iff_ne.mpr c18; have c18b1 : ((bt a0_2 x3_2) != 46) = true := bne_iff_ne.mpr c18; obtain rfl := Option.some.inj H; obtain ⟨hcz20_0, hcz20_1, hcz20_2, hfz20_0, hfz20_1, hfz20_2⟩ := bc3_g0 BK162.out; have p14 : 0 ≤ (x3_2 : Int) := of_decide_eq_true z_g1; have q14 : x3_2 < (a0_2.size : Int) := of_decide_eq_true z_g1; have hx14 := bt_at a0_2 x3_2; replace p14 := eq_true p14; replace q14 := eq_true q14; have p17 : 0 ≤ (x3_2 : Int) := of_decide_eq_true z_g1; have q17 : x3_2 < (a0_2.size : Int) := of_decide_eq_true z_g1; have hx17 := bt_at a0_2 x3_2; replace p17 := eq_true p17; replace q17 := eq_true q17; go_wp2
           go_ret
           exact ⟨by first | rfl | (simp [errW_none, errW_some] <;> rfl) | (simp [*, errW_none, errW_some] <;> rfl), z8_0⟩
        ·rw [if_neg c13] at H
         exact absurd H (by simp)
       ·rw [if_neg c12] at H
        have c12b0 := decide_eq_false c12; clear c12; obtain rfl := Option.some.inj H; obtain ⟨hcz21_0, hcz21_1, hcz21_2, hfz21_0, hfz21_1, hfz21_2⟩ := bc3_g0 BK162.out; go_wp2
        go_ret
        exact ⟨by first | rfl | (simp [errW_none, errW_some] <;> rfl) | (simp [*, errW_none, errW_some] <;> rfl), z8_0⟩

/-! ### spec_IsFill: function 42 (given) -/
mutual
def spec_IsFill.j0 : Nat → ByteArray → Bool → Int → Int → ByteArray → Option (Bool)
  | 0, _, _, _, _, _ => none
  | k + 1, x1, x17, x166000, x166001, x166002 => if x17 = true then (some false) else (spec_IsFill.l0 k x1 0 x166000 x166001 x166002)
def spec_IsFill.l0 : Nat → ByteArray → Int → Int → Int → ByteArray → Option (Bool)
  | 0, _, _, _, _, _ => none
  | k + 1, x1, x5, x166000, x166001, x166002 => if x5 < (x1.size : Int) then (if 0 ≤ x5 then (if (bt x1 x5) = 63 then (if x5 < (x166002.size : Int) then (if (bt x166002 x5) = 35 then (if (bt x1 x5) = 35 then (if (bt x166002 x5) = 46 then (spec_IsFill.l0 k x1 (wrap64 (x5 + 1)) x166000 x166001 x166002) else (spec_IsFill.l0 k x1 (wrap64 (x5 + 1)) x166000 x166001 x166002)) else (some false)) else (if (bt x166002 x5) = 46 then (spec_IsFill.l0 k x1 (wrap64 (x5 + 1)) x166000 x166001 x166002) else (spec_IsFill.l0 k x1 (wrap64 (x5 + 1)) x166000 x166001 x166002))) else (none)) else (if (bt x1 x5) ≥ 97 then (if x5 < (x166002.size : Int) then (if (bt x166002 x5) = 35 then (if (bt x1 x5) = 35 then (if (bt x166002 x5) = 46 then (if ((bt x1 x5) ≤ 122) then (spec_IsFill.l0 k x1 (wrap64 (x5 + 1)) x166000 x166001 x166002) else (some false)) else (spec_IsFill.l0 k x1 (wrap64 (x5 + 1)) x166000 x166001 x166002)) else (some false)) else (if (bt x166002 x5) = 46 then (if ((bt x1 x5) ≤ 122) then (spec_IsFill.l0 k x1 (wrap64 (x5 + 1)) x166000 x166001 x166002) else (some false)) else (spec_IsFill.l0 k x1 (wrap64 (x5 + 1)) x166000 x166001 x166002))) else (none)) else (if x5 < (x166002.size : Int) then (if (bt x166002 x5) = 35 then (if (bt x1 x5) = 35 then (if (bt x166002 x5) = 46 then (some false) else (spec_IsFill.l0 k x1 (wrap64 (x5 + 1)) x166000 x166001 x166002)) else (some false)) else (if (bt x166002 x5) = 46 then (some false) else (spec_IsFill.l0 k x1 (wrap64 (x5 + 1)) x166000 x166001 x166002))) else (none)))) else (none)) else (some true)
end
def spec_IsFill.f (k : Nat) (a0_0 : Int) (a0_1 : Int) (a0_2 : ByteArray) (a1 : ByteArray) : Option (Bool) := (spec_IsGrid.f k a0_0 a0_1 a0_2).bind fun t166 => (if t166 = true then (spec_IsFill.j0 k a1 ((a1.size : Int) != (a0_2.size : Int)) a0_0 a0_1 a0_2) else (spec_IsFill.j0 k a1 true a0_0 a0_1 a0_2))
def isfL (f : Int) : Bool := (f == 63) || (decide (97 ≤ f) && decide (f ≤ 122))
def isfBad (g f : Int) : Bool := ((g == 35) && !(f == 35)) || ((g == 46) && !isfL f)
theorem isf_step {k : Nat} {x1 : ByteArray} {x5 r c : Int} {s : ByteArray} {res : Bool} (h : spec_IsFill.l0 (k + 1) x1 x5 r c s = some res) (h1 : x5 < (x1.size : Int)) : 0 ≤ x5 ∧ x5 < (s.size : Int) ∧ (if isfBad (bt s x5) (bt x1 x5) = true then some false else spec_IsFill.l0 k x1 (wrap64 (x5 + 1)) r c s) = some res := by
  simp only [spec_IsFill.l0] at h; rw [if_pos h1] at h
  by_cases h0 : 0 ≤ x5
  case neg => rw [if_neg h0] at h; cases h
  rw [if_pos h0] at h
  by_cases h2 : x5 < (s.size : Int)
  case neg => simp only [if_neg h2] at h; repeat' split at h
              all_goals cases h
  refine ⟨h0, h2, ?_⟩
  simp only [if_pos h2] at h; generalize spec_IsFill.l0 k x1 (wrap64 (x5 + 1)) r c s = Z at h ⊢
  generalize bt s x5 = g at h ⊢
  generalize bt x1 x5 = f at h ⊢
  rw [← h]
  unfold isfBad isfL
  by_cases a : f = 63
  · subst a
    by_cases b : g = 35
    · subst b; simp
    · simp [b]
  · by_cases b : g = 35
    · subst b
      by_cases d : f = 35
      · subst d; simp
      · simp [a, d]
    · by_cases e : g = 46
      · subst e
        by_cases x : 97 ≤ f
        · by_cases y : f ≤ 122 <;> simp [a, x, y]
        · simp [a, x]
      · by_cases x : 97 ≤ f <;> simp [a, b, e, x]
theorem isf_cell {w w1 : World} {cs : Array Value} {t : TypeId} (hb : Below (w.alloc (.cells cs t)).heap.size (w.alloc (.cells cs t)) w1) (j : Nat) (v : Value) (h : cs[j]? = some v) : w1.cell? ⟨w.heap.size, j, none⟩ = some v := by
  have h1 : (⟨w.heap.size, j, none⟩ : Addr).block < (w.alloc (.cells cs t)).heap.size := by simp [World.alloc, -World.alloc_eq]
  rw [hb.cell h1]
  simp [World.cell?, World.alloc, -World.alloc_eq, h]
theorem spec_IsFill.calls (k : Nat) (a0_0 : Int) (a0_1 : Int) (a0_2 : ByteArray) (a1 : ByteArray) (r : Bool) (w : World) (h : spec_IsFill.f k a0_0 a0_1 a0_2 a1 = some r) :
    Calls Try.prog 42 #[.agg #[.int .i64 a0_0, .int .i64 a0_1, .string a0_2], .string a1] w fun e w' => e = .returned (.bool r) ∧ Below w.heap.size w w' := by
  unfold spec_IsFill.f at h
  obtain ⟨t, ht, h2⟩ := Option.bind_eq_some_iff.mp h; clear h; have KG := Aside0.mk (fun W => spec_IsGrid.calls k a0_0 a0_1 a0_2 t W ht); clear ht; go_enter Try.func42, Try.ntmps42
  go_wp2_with fail
  go_at_call 80
  refine (KG.out _).mono ?_
  rintro e w1 ⟨rfl, hb1⟩
  have HC := Aside0.mk (isf_cell hb1 2 _ rfl); have HB := Aside0.mk (below_step (w := w) (by repeat (first | exact Below.refl _ _ | apply below_alloc | apply pw_below_drewN | apply below_drew1)) hb1)
  clear hb1 KG; generalize w.heap.size = B at HC ⊢
  have hc2 := HC.out
  cases k with
  | zero => cases t <;> exact absurd h2 (by simp [spec_IsFill.j0])
  | succ k1 =>
    cases t with
    | false =>
      obtain rfl := Option.some.inj (show some false = some r from h2); clear h2; go_wp2
      go_ret
      exact ⟨rfl, HB.out⟩
    | true =>
      by_cases he : a1.size = a0_2.size
      case neg =>
        have e1 : ((a1.size : Int) != (a0_2.size : Int)) = true := bne_iff_ne.mpr (by omega); have e2 : (a1.size != a0_2.size) = true := bne_iff_ne.mpr he
        have h3 : (some false : Option Bool) = some r := by
          have h2' : spec_IsFill.j0 (k1 + 1) a1 ((a1.size : Int) != (a0_2.size : Int)) a0_0 a0_1 a0_2 = some r := h2
          rw [e1] at h2'
          exact h2'
        obtain rfl := Option.some.inj h3; clear h2 h3 he; go_wp2
        go_ret
        exact ⟨rfl, HB.out⟩
      have e1 : ((a1.size : Int) != (a0_2.size : Int)) = false := by rw [he]; simp
      have e2 : (a1.size != a0_2.size) = false := by rw [he]; simp
      have H' := Aside0.mk (show spec_IsFill.l0 k1 a1 0 a0_0 a0_1 a0_2 = some r by
        have h2' : spec_IsFill.j0 (k1 + 1) a1 ((a1.size : Int) != (a0_2.size : Int)) a0_0 a0_1 a0_2 = some r := h2
        rw [e1] at h2'
        exact h2')
      have HE := Aside0.mk he; clear h2 he; go_wp2
      clear hc2; go_loopg [5] k1 (fun kq v5 w' => ∃ x5 : Int, v5 = .int .i64 x5 ∧ Aside0 (spec_IsFill.l0 kq a1 x5 a0_0 a0_1 a0_2 = some r) ∧ Aside0 (kq ≤ k1) ∧ Aside0 (w'.cell? ⟨B, 2, none⟩ = some (.string a0_2)) ∧ Aside0 (Below w.heap.size w w'))
      case atStart => exact ⟨0, rfl, H', ⟨Nat.le_refl _⟩, HC, HB⟩
      case round =>
        clear H' HC HB; obtain ⟨x5, rfl, HA, HK1, HC, HB⟩ := hrel
        cases gk with
        | zero => exact absurd HA.out (by simp [spec_IsFill.l0])
        | succ k1 =>
          by_cases c1 : x5 < (a1.size : Int)
          case neg =>
            have H := HA.out; simp only [spec_IsFill.l0] at H; rw [if_neg c1] at H
            obtain rfl := Option.some.inj H; have c1b : decide (x5 < (a1.size : Int)) = false := decide_eq_false c1; clear H HA c1; go_wp2
            go_ret
            exact ⟨rfl, HB.out⟩
          obtain ⟨c2, c3, hn⟩ := isf_step HA.out c1; have HN := Aside0.mk hn; have c1b : decide (x5 < (a1.size : Int)) = true := decide_eq_true c1; have r1 : (0 ≤ x5) = True := eq_true c2; have r2 : (x5 < (a1.size : Int)) = True := eq_true c1; have r3 : (x5 < (a0_2.size : Int)) = True := eq_true c3; clear HA hn; have hz := bt_at a1 x5 (by omega); go_upto_region 6 with fail
          go_cut [6] (fun v6 w' => v6 = .bool (isfL (bt a1 x5)) ∧ Aside0 (w'.cell? ⟨B, 2, none⟩ = some (.string a0_2)) ∧ Aside0 (Below w.heap.size w w'))
          case first => as_aux_lemma =>
            by_cases e1 : bt a1 x5 = 63
            · have b1 : (bt a1 x5 == 63) = true := beq_iff_eq.mpr e1
              clear e1; go_wp2_with fail
              go_meet
              case rel => exact ⟨by simp [isfL, b1], HC, HB⟩
            · have b1 : (bt a1 x5 == 63) = false := beq_eq_false_iff_ne.mpr e1
              clear e1; by_cases e2 : bt a1 x5 ≥ 97
              · have b2 : decide (bt a1 x5 ≥ 97) = true := decide_eq_true e2
                have b3 : decide (97 ≤ bt a1 x5) = true := decide_eq_true e2; clear e2; go_wp2_with fail
                go_meet
                case rel => exact ⟨by simp [isfL, b1, b3], HC, HB⟩
              · have b2 : decide (bt a1 x5 ≥ 97) = false := decide_eq_false e2
                have b3 : decide (97 ≤ bt a1 x5) = false := decide_eq_false e2; clear e2; go_wp2_with fail
                go_meet
                case rel => exact ⟨by simp [isfL, b1, b3], HC, HB⟩
          case rest => as_aux_lemma =>
            obtain ⟨rfl, HC2, HB2⟩ := hcut; clear HC HB; have HC := HC2; have HB := HB2; clear HC2 HB2; have hc2 := HC.out; have hy := bt_at a0_2 x5 (by omega); go_upto_region 7 with fail
            go_cut [61] (fun v61 w' => v61 = .bool (isfBad (bt a0_2 x5) (bt a1 x5)) ∧ Aside0 (w'.cell? ⟨B, 2, none⟩ = some (.string a0_2)) ∧ Aside0 (Below w.heap.size w w'))
            case first => as_aux_lemma =>
              by_cases g1 : bt a0_2 x5 = 35
              · have d1 : (bt a0_2 x5 == 35) = true := beq_iff_eq.mpr g1
                have d3 : (bt a0_2 x5 == 46) = false := by rw [g1]; rfl
                clear g1; by_cases f1 : bt a1 x5 = 35
                · have d2 : (bt a1 x5 != 35) = false := by rw [f1]; rfl
                  have d2b : (bt a1 x5 == 35) = true := beq_iff_eq.mpr f1; clear f1; go_wp2_with fail
                  go_meet
                  case rel => exact ⟨by simp [isfBad, d1, d2b, d3], HC, HB⟩
                · have d2 : (bt a1 x5 != 35) = true := bne_iff_ne.mpr f1
                  have d2b : (bt a1 x5 == 35) = false := beq_eq_false_iff_ne.mpr f1; clear f1; go_wp2_with fail
                  go_meet
                  case rel => exact ⟨by simp [isfBad, d1, d2b], HC, HB⟩
              · have d1 : (bt a0_2 x5 == 35) = false := beq_eq_false_iff_ne.mpr g1
                clear g1; by_cases g2 : bt a0_2 x5 = 46
                · have d3 : (bt a0_2 x5 == 46) = true := beq_iff_eq.mpr g2
                  clear g2; go_wp2_with fail
                  go_meet
                  case rel => exact ⟨by simp [isfBad, d1, d3], HC, HB⟩
                · have d3 : (bt a0_2 x5 == 46) = false := beq_eq_false_iff_ne.mpr g2
                  clear g2; go_wp2_with fail
                  go_meet
                  case rel => exact ⟨by simp [isfBad, d1, d3], HC, HB⟩
            case rest => as_aux_lemma =>
              obtain ⟨rfl, HC2, HB2⟩ := hcut; have H := HN.out; generalize isfBad (bt a0_2 x5) (bt a1 x5) = bad at H ⊢
              cases bad with
              | true =>
                obtain rfl := Option.some.inj (show some false = some r from H); go_wp2
                go_ret
                exact ⟨rfl, HB2.out⟩
              | false =>
                have HN2 := Aside0.mk (show spec_IsFill.l0 k1 a1 (wrap64 (x5 + 1)) a0_0 a0_1 a0_2 = some r from H); clear H HN; go_wp2
                go_roundg k1
                case measure => have := HK1.out; omega
                case rel => exact ⟨wrap64 (x5 + 1), by first | rfl | (simp; done), HN2, ⟨by have := HK1.out; omega⟩, HC2, HB2⟩


end Go.Proofs.Ytodcckiphdnjeaa.QFnPruned
