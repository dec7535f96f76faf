-- Written by a changed copy of the kit's printer (wip/mp.py of this repo), for this claim; Lean checks it.
import Derived.Test.YtodcckiphdnjeaaQFnPrunedx0
import Derived.Test.YtodcckiphdnjeaaQFnPrunedx7
import Derived.Test.YtodcckiphdnjeaaQFnPrunedx8
import Derived.Test.YtodcckiphdnjeaaQFnPrunedx9
namespace Go.Proofs.Ytodcckiphdnjeaa.QFnPruned
open Go.RowKit Go.Proofs.YtodcckiphdnjeaaW.PrintWords Go.Proofs.YtodcckiphdnjeaaW.PrintLast Go.Proofs.YtodcckiphdnjeaaW.PrintMore
attribute [local go_sem] max2_int min2_int max_two min_two max_three min_three max_four min_four   -- for this text's walks alone
set_option linter.unusedVariables false
set_option maxHeartbeats 8000000
set_option maxRecDepth 100000
set_option linter.unusedSimpArgs false

theorem z10_0 {p : Prop} (h : p := by repeat (first | (with_reducible first | exact HB.out | apply below_alloc | apply pw_below_drewN | apply below_drew1 | refine below_set ?_ GE166.out) | exact HB.out)) : p := h
theorem z10_3 {p : Prop} (h : p := by (with_reducible repeat (first | refine blk_drewN ?_ _ | refine blk_drew ?_ | refine blk_alloc ?_ _)); exact BK166.out) : p := h
/-! ### spec_SlotsOf: function 45 -/
mutual
def spec_SlotsOf.l0 : Nat → List (S65) → Int → Int → Int → Int → ByteArray → Option ((List (S65)))
  | 0, _, _, _, _, _, _ => none
  | k + 1, x3, x4, x5, x167000, x167001, x167002 => if x5 < (x167002.size : Int) then ((spec_IsGrid.f k x167000 x167001 x167002).bind fun t170 => (spec_SlotsOf.j1 k x3 x4 x5 t170 x167000 x167001 x167002)) else (spec_SlotsOf.j1 k x3 x4 x5 false x167000 x167001 x167002)
def spec_SlotsOf.j1 : Nat → List (S65) → Int → Int → Bool → Int → Int → ByteArray → Option ((List (S65)))
  | 0, _, _, _, _, _, _, _ => none
  | k + 1, x3, x4, x5, x17, x167000, x167001, x167002 => if x17 = true then ((spec_l8From.f k x167000 x167001 x167002 x5 false).bind fun t171 => ((spec_l8From.f k x167000 x167001 x167002 x5 true).bind fun t172 => (if t171 ≥ 2 then (spec_SlotsOf.j2 k x3 x4 x5 t171 t172 true x167000 x167001 x167002) else (spec_SlotsOf.j2 k x3 x4 x5 t171 t172 (decide (t172 ≥ 2)) x167000 x167001 x167002)))) else (some x3)
def spec_SlotsOf.j2 : Nat → List (S65) → Int → Int → Int → Int → Bool → Int → Int → ByteArray → Option ((List (S65)))
  | 0, _, _, _, _, _, _, _, _, _ => none
  | k + 1, x3, x4, x5, x6, x7, x31, x167000, x167001, x167002 => if x31 = true then (spec_SlotsOf.j3 k x3 (wrap64 (x4 + 1)) x5 x6 x7 x167000 x167001 x167002) else (spec_SlotsOf.j3 k x3 x4 x5 x6 x7 x167000 x167001 x167002)
def spec_SlotsOf.j3 : Nat → List (S65) → Int → Int → Int → Int → Int → Int → ByteArray → Option ((List (S65)))
  | 0, _, _, _, _, _, _, _, _ => none
  | k + 1, x3, x4, x5, x6, x7, x167000, x167001, x167002 => if x6 ≥ 2 then (if x3.length < 4398046511104 then ((some (x3 ++ [(⟨x4, false, x5, x6⟩ : S65)] : List (S65))).bind fun y173 => (if x7 ≥ 2 then (if y173.length < 4398046511104 then (spec_SlotsOf.l0 k (y173 ++ [(⟨x4, true, x5, x7⟩ : S65)]) x4 (wrap64 (x5 + 1)) x167000 x167001 x167002) else (none)) else (spec_SlotsOf.l0 k y173 x4 (wrap64 (x5 + 1)) x167000 x167001 x167002))) else (none)) else (if x7 ≥ 2 then (if x3.length < 4398046511104 then (spec_SlotsOf.l0 k (x3 ++ [(⟨x4, true, x5, x7⟩ : S65)]) x4 (wrap64 (x5 + 1)) x167000 x167001 x167002) else (none)) else (spec_SlotsOf.l0 k x3 x4 (wrap64 (x5 + 1)) x167000 x167001 x167002))
end
def spec_SlotsOf.f (k : Nat) (a0_0 : Int) (a0_1 : Int) (a0_2 : ByteArray) : Option ((List (S65))) := spec_SlotsOf.l0 k (([] : List (S65))) 0 0 a0_0 a0_1 a0_2
theorem spec_SlotsOf.calls (k : Nat) (a0_0 : Int) (a0_1 : Int) (a0_2 : ByteArray) (r : List (S65)) (w : World) (h : spec_SlotsOf.f k a0_0 a0_1 a0_2 = some r) :
   Calls Try.prog 45 #[.agg #[.int .i64 a0_0, .int .i64 a0_1, .string a0_2]] w fun e w' => ∃ v0_ : Value, e = .returned (v0_) ∧ Kd.R k65 65 w' w.heap.size (fun _ => True) v0_ r ∧ Below w.heap.size w w' := by
  have hu28 := Try.underlying28; have hu65 := Try.underlying65; have HB := Aside0.mk (Below.refl w.heap.size w); have H : (spec_SlotsOf.l0 k (([] : List (S65))) 0 0 a0_0 a0_1 a0_2) = some r := h; clear h; obtain ⟨y167, hy167⟩ : ∃ y_ : List (S65), y_ = (([] : List (S65))) := ⟨_, rfl⟩; replace H : (spec_SlotsOf.l0 k y167 0 0 a0_0 a0_1 a0_2) = some r := by first | (rw [hy167]; with_reducible exact H) | (have H2_ := (Option.bind_some _ _).symm.trans H; rw [hy167]; with_reducible exact H2_) | (have H2_ := (Option.bind_some _ _).symm.trans H; with_reducible exact H2_) | with_reducible exact H | (rw [hy167]; exact H) | exact H
  have Ny167 := Aside0.mk hy167; clear hy167; have H' := Aside0.mk H
  clear H; go_enter Try.func45, Try.ntmps45
  go_wp2_with (first | ((with_reducible refine gate_dst (N := 1) rfl ?_); refine box_event ?hg (N := 1) ?hd (cs := #[.int .i64 a0_0, .int .i64 a0_1, .string a0_2]) (t := 28) ?hr ?_; (case hd => rfl); (case hg => rfl); (case hr => first | (go_simp; done) | (go_simp; rfl)); intro gb166 hg w2 hbox hb; have BK166 := Aside0.mk (hbox); have GW166 := Aside0.mk ((by rw [hg]; exact (below_size (by repeat (first | (with_reducible first | exact HB.out | apply below_alloc | apply pw_below_drewN | apply below_drew1) | exact HB.out))) : w.heap.size ≤ gb166)); have GE166 := Aside0.mk ((by rw [hg]; exact (below_size (by repeat (first | (with_reducible first | exact HB.out | apply below_alloc | apply pw_below_drewN | apply below_drew1) | exact HB.out))) : w.heap.size ≤ gb166)); replace HB := Aside0.mk (below_step (by repeat (first | (with_reducible first | exact HB.out | apply below_alloc | apply pw_below_drewN | apply below_drew1) | exact HB.out)) hb); clear hb hbox hg) | ((with_reducible refine gate_dst (N := 8) rfl ?_); refine Kd.R_lit k65 _ 65 ?hg (N := 8) ?hd (xs := ([] : List (S65))) (inner := []) (ok := fun _ => True) (okp := fun _ => True) ?hr ?hp (fun _ hk => hk) trivial (Below.refl _ _) (Nat.le_refl _) (by simp) ?_; (case hd => rfl); (case hg => rfl); (case hr => first | (go_simp; done) | (go_simp; rfl)); (case hp => exact (Reps.none _ _)); intro v168 w3 ho4 hb hg_ hnew_; clear hg_ hnew_; (first | rw [← Ny167.out] at ho4 | (simp only [Int.reduceToNat] at ho4; rw [← Ny167.out] at ho4)); have HO169 := Aside0.mk (Kd.R_lower ho4 (below_size z10_0)); replace BK166 := Aside0.mk (blk_below (g := gb166) (o := .cells #[.int .i64 a0_0, .int .i64 a0_1, .string a0_2] 28 (0, 0)) (bd_g7 BK166.out) hb); replace HB := Aside0.mk (below_step z10_0 hb); clear hb ho4))
  go_loopg [3, 4, 5] k (fun kq v3 v4 v5 w' => ∃ (x3_1 : List (S65)) (x4_1 : Int) (x5_1 : Int), v4 = .int .i64 x4_1 ∧ v5 = .int .i64 x5_1 ∧ Aside0 (spec_SlotsOf.l0 kq x3_1 x4_1 x5_1 a0_0 a0_1 a0_2 = some r) ∧ Aside0 (kq ≤ k) ∧ Aside0 (Kd.R k65 65 w' w.heap.size (fun _ => True) v3 x3_1) ∧ Aside0 (w'.heap[gb166]? = some (.cells #[.int .i64 a0_0, .int .i64 a0_1, .string a0_2] 28 (0, 0))) ∧ Aside0 (Below w.heap.size w w'))
  case atStart => exact ⟨(y167), (0), (0), z_g2, z_g2, H', ⟨Nat.le_refl _⟩, ⟨by (with_reducible repeat (first | apply Kd.R_alloc | apply Kd.R_drewN | apply Kd.R_drew)); exact HO169.out⟩, ⟨z10_3⟩, ⟨z10_0⟩⟩
  case round =>
   clear H'; try clear p2
   try clear c4
   obtain ⟨x3_1, x4_1, x5_1, rfl, rfl, HA, HK1, HO_3, BK166, HB⟩ := hrel
   cases gk with
   | zero => exact absurd HA.out (by simp [spec_SlotsOf.l0])
   | succ k1 =>
    have H := HA.out; clear HA; simp only [spec_SlotsOf.l0] at H; have HC5 := Aside0.mk H; clear H; go_upto_region 4 with (fail)
    go_cut [17] (fun v17 wc => ∃ (kq : Nat) (x17_4 : Bool), v17 = .bool x17_4 ∧ Aside0 (spec_SlotsOf.j1 kq x3_1 x4_1 x5_1 x17_4 a0_0 a0_1 a0_2 = some r) ∧ Aside0 (kq ≤ k1) ∧ Aside0 (Kd.R k65 65 wc w.heap.size (fun _ => True) u3 x3_1) ∧ Aside0 (wc.heap[gb166]? = some (.cells #[.int .i64 a0_0, .int .i64 a0_1, .string a0_2] 28 (0, 0))) ∧ Aside0 (Below w.heap.size w wc))
    case first =>
     have H := HC5.out; clear HC5; by_cases c6 : x5_1 < (a0_2.size : Int)
     ·rw [if_pos c6] at H
      have c6b0 := decide_eq_true c6; clear c6; (first | rw [c6b0] | (simp only [i64_w, i32_w]; rw [c6b0]) | skip)
      replace H := Option.bind_eq_some_iff.mp H; obtain ⟨t170, A70, H⟩ := H; try dsimp only at H
      have A7 := Aside0.mk A70; clear A70; have H' := Aside0.mk H
      clear H; obtain ⟨hcz8_0, hcz8_1, hcz8_2, hfz8_0, hfz8_1, hfz8_2⟩ := bc3_g0 BK166.out; go_wp2_with (first | (go_at_call 80; (with_reducible refine (spec_IsGrid.calls k1 a0_0 a0_1 a0_2 t170 _ A7.out).mono ?_); rintro e w9 ⟨rfl, hb⟩; replace HO_3 := Aside0.mk (Kd.R_below (kd_g8 HO_3.out) hb); replace BK166 := Aside0.mk (blk_below (g := gb166) (o := .cells #[.int .i64 a0_0, .int .i64 a0_1, .string a0_2] 28 (0, 0)) (bd_g7 BK166.out) hb); replace HB := Aside0.mk (below_step z10_0 hb); (try clear hb)))
      go_meet
      case rel => exact ⟨_, (t170), z_g2, H', ⟨by have := HK1.out; first | omega | exact Nat.le_refl _⟩, ⟨z_g10⟩, ⟨z10_3⟩, ⟨z10_0⟩⟩
     ·rw [if_neg c6] at H
      have c6b0 := decide_eq_false c6; clear c6; (first | rw [c6b0] | (simp only [i64_w, i32_w]; rw [c6b0]) | skip)
      have H' := Aside0.mk H
      clear H; obtain ⟨hcz10_0, hcz10_1, hcz10_2, hfz10_0, hfz10_1, hfz10_2⟩ := bc3_g0 BK166.out; go_wp2
      go_meet
      case rel => exact ⟨_, (false), z_g2, H', ⟨by have := HK1.out; first | omega | exact Nat.le_refl _⟩, ⟨z_g10⟩, ⟨z10_3⟩, ⟨z10_0⟩⟩
    case rest =>
     clear HC5; try clear p2
     try clear c4
     try clear c6
     try clear c6b0
     try clear hcz10_0 hcz10_1 hcz10_2
     try clear hcz8_0 hcz8_1 hcz8_2
     try clear hfz10_0 hfz10_1 hfz10_2
     try clear hfz8_0 hfz8_1 hfz8_2
     try clear p2
     obtain ⟨kq, x17_4, rfl, HA, HJ4, HO_3, BK166, HB⟩ := hcut
     cases kq with
     | zero => exact absurd HA.out (by simp [spec_SlotsOf.j1])
     | succ kj4 =>
      have H := HA.out; clear HA; simp only [spec_SlotsOf.j1] at H; by_cases c11 : x17_4 = true
      ·subst c11; rw [if_pos rfl] at H
       replace H := Option.bind_eq_some_iff.mp H; obtain ⟨t171, A120, H⟩ := H; try dsimp only at H
       have A12 := Aside0.mk A120; clear A120; replace H := Option.bind_eq_some_iff.mp H; obtain ⟨t172, A130, H⟩ := H; try dsimp only at H
       have A13 := Aside0.mk A130; clear A130; have HC14 := Aside0.mk H; clear H; obtain ⟨hcz15_0, hcz15_1, hcz15_2, hfz15_0, hfz15_1, hfz15_2⟩ := bc3_g0 BK166.out; go_upto_region 8 with (first | ((with_reducible refine gate_callee (f := 82) rfl ?_); refine goesL_ (some 22) rfl rfl Try.func82 (by kernel_rfl) rfl #[.agg #[.int .i64 a0_0, .int .i64 a0_1, .string a0_2], .int .i64 x5_1, .bool false] rfl z_g9 ?_; (with_reducible refine (spec_l8From.calls kj4 a0_0 a0_1 a0_2 x5_1 false t171 _ A12.out).mono ?_); rintro e w16 ⟨rfl, hb⟩; refine ⟨_, rfl, ?_⟩; replace HO_3 := Aside0.mk (Kd.R_below (kd_g8 HO_3.out) hb); replace BK166 := Aside0.mk (blk_below (g := gb166) (o := .cells #[.int .i64 a0_0, .int .i64 a0_1, .string a0_2] 28 (0, 0)) (bd_g7 BK166.out) hb); replace HB := Aside0.mk (below_step z10_0 hb); (try clear hb); obtain ⟨hcz17_0, hcz17_1, hcz17_2, hfz17_0, hfz17_1, hfz17_2⟩ := bc3_g0 BK166.out) | ((with_reducible refine gate_callee (f := 82) rfl ?_); refine goesL_ (some 25) rfl rfl Try.func82 (by kernel_rfl) rfl #[.agg #[.int .i64 a0_0, .int .i64 a0_1, .string a0_2], .int .i64 x5_1, .bool true] rfl z_g9 ?_; (with_reducible refine (spec_l8From.calls kj4 a0_0 a0_1 a0_2 x5_1 true t172 _ A13.out).mono ?_); rintro e w18 ⟨rfl, hb⟩; refine ⟨_, rfl, ?_⟩; replace HO_3 := Aside0.mk (Kd.R_below (kd_g8 HO_3.out) hb); replace BK166 := Aside0.mk (blk_below (g := gb166) (o := .cells #[.int .i64 a0_0, .int .i64 a0_1, .string a0_2] 28 (0, 0)) (bd_g7 BK166.out) hb); replace HB := Aside0.mk (below_step z10_0 hb); (try clear hb)))
       (try simp only [Act.put, List.setIfInBounds_toArray, List.set_cons_zero, List.set_cons_succ])
       go_cut [31] (fun v31 wc => ∃ (kq : Nat) (x31_13 : Bool), v31 = .bool x31_13 ∧ Aside0 (spec_SlotsOf.j2 kq x3_1 x4_1 x5_1 t171 t172 x31_13 a0_0 a0_1 a0_2 = some r) ∧ Aside0 (kq ≤ kj4) ∧ Aside0 (Kd.R k65 65 wc w.heap.size (fun _ => True) u3 x3_1) ∧ Aside0 (wc.heap[gb166]? = some (.cells #[.int .i64 a0_0, .int .i64 a0_1, .string a0_2] 28 (0, 0))) ∧ Aside0 (Below w.heap.size w wc))
       case first =>
        have H := HC14.out; clear HC14; by_cases c19 : t171 ≥ 2
        ·rw [if_pos c19] at H
         have c19b0 := decide_eq_true c19; clear c19; (first | rw [c19b0] | (simp only [i64_w, i32_w]; rw [c19b0]) | skip)
         have H' := Aside0.mk H
         clear H; go_wp2
         go_meet
         case rel => exact ⟨_, (true), z_g2, H', ⟨by have := HK1.out; have := HJ4.out; first | omega | exact Nat.le_refl _⟩, ⟨z_g10⟩, ⟨z10_3⟩, ⟨z10_0⟩⟩
        ·rw [if_neg c19] at H
         have c19b0 := decide_eq_false c19; clear c19; (first | rw [c19b0] | (simp only [i64_w, i32_w]; rw [c19b0]) | skip)
         have H' := Aside0.mk H
         clear H; go_wp2
         go_meet
         case rel => exact ⟨_, (decide (t172 ≥ 2)), z_g2, H', ⟨by have := HK1.out; have := HJ4.out; first | omega | exact Nat.le_refl _⟩, ⟨z_g10⟩, ⟨z10_3⟩, ⟨z10_0⟩⟩
       case rest =>
        clear HC14; try clear c1
        try clear p2
        try clear c4
        try clear c6
        try clear c6b0
        try clear c8
        try clear c11
        try clear c19
        try clear c19b0
        try clear hcz10_0 hcz10_1 hcz10_2
        try clear hcz15_0 hcz15_1 hcz15_2
        try clear hcz17_0 hcz17_1 hcz17_2
        try clear hcz8_0 hcz8_1 hcz8_2
        try clear hfz10_0 hfz10_1 hfz10_2
        try clear hfz15_0 hfz15_1 hfz15_2
        try clear hfz17_0 hfz17_1 hfz17_2
        try clear hfz8_0 hfz8_1 hfz8_2
        try clear p2
        obtain ⟨kq, x31_13, rfl, HA, HJ13, HO_3, BK166, HB⟩ := hcut
        cases kq with
        | zero => exact absurd HA.out (by simp [spec_SlotsOf.j2])
        | succ kj13 =>
         have H := HA.out; clear HA; simp only [spec_SlotsOf.j2] at H; have HC20 := Aside0.mk H; clear H; go_upto_if 31 with (fail)
         go_cut [4] (fun v4 wc => ∃ (kq : Nat) (x4_19 : Int), v4 = .int .i64 x4_19 ∧ Aside0 (spec_SlotsOf.j3 kq x3_1 x4_19 x5_1 t171 t172 a0_0 a0_1 a0_2 = some r) ∧ Aside0 (kq ≤ kj13) ∧ Aside0 (Kd.R k65 65 wc w.heap.size (fun _ => True) u3 x3_1) ∧ Aside0 (wc.heap[gb166]? = some (.cells #[.int .i64 a0_0, .int .i64 a0_1, .string a0_2] 28 (0, 0))) ∧ Aside0 (Below w.heap.size w wc))
         case first =>
          have H := HC20.out; clear HC20; by_cases c21 : x31_13 = true
          ·subst c21; rw [if_pos rfl] at H
           have H' := Aside0.mk H
           clear H; go_wp2
           go_meet
           case rel => exact ⟨_, (wrap64 (x4_1 + 1)), z_g2, H', ⟨by have := HK1.out; have := HJ4.out; have := HJ13.out; first | omega | exact Nat.le_refl _⟩, ⟨z_g10⟩, ⟨z10_3⟩, ⟨z10_0⟩⟩
          ·replace c21 := Bool.eq_false_iff.mpr c21; subst c21; rw [if_neg (show ¬ (false = true) by decide)] at H
           have H' := Aside0.mk H
           clear H; go_wp2
           go_meet
           case rel => exact ⟨_, (x4_1), z_g2, H', ⟨by have := HK1.out; have := HJ4.out; have := HJ13.out; first | omega | exact Nat.le_refl _⟩, ⟨z_g10⟩, ⟨z10_3⟩, ⟨z10_0⟩⟩
         case rest =>
          clear HC20; try clear c1
          try clear c2
          try clear p2
          try clear c4
          try clear c6
          try clear c6b0
          try clear p6
          try clear c8
          try clear c11
          try clear c19
          try clear c19b0
          try clear c21
          try clear hcz10_0 hcz10_1 hcz10_2
          try clear hcz15_0 hcz15_1 hcz15_2
          try clear hcz17_0 hcz17_1 hcz17_2
          try clear hcz8_0 hcz8_1 hcz8_2
          try clear hfz10_0 hfz10_1 hfz10_2
          try clear hfz15_0 hfz15_1 hfz15_2
          try clear hfz17_0 hfz17_1 hfz17_2
          try clear hfz8_0 hfz8_1 hfz8_2
          try clear p2
          obtain ⟨kq, x4_19, rfl, HA, HJ19, HO_3, BK166, HB⟩ := hcut
          cases kq with
          | zero => exact absurd HA.out (by simp [spec_SlotsOf.j3])
          | succ kj19 =>
           have H := HA.out; clear HA; simp only [spec_SlotsOf.j3] at H; by_cases c22 : t171 ≥ 2
           ·rw [if_pos c22] at H
            have c22b0 := decide_eq_true c22; clear c22; by_cases c23 : x3_1.length < 4398046511104
            ·rw [if_pos c23] at H
             have LMc23 := Aside0.mk c23; clear c23; obtain ⟨y173, hy173⟩ : ∃ y_ : List (S65), y_ = (x3_1 ++ [(⟨x4_19, false, x5_1, t171⟩ : S65)]) := ⟨_, rfl⟩; replace H : (if t172 ≥ 2 then (if y173.length < 4398046511104 then (spec_SlotsOf.l0 kj19 (y173 ++ [(⟨x4_19, true, x5_1, t172⟩ : S65)]) x4_19 (wrap64 (x5_1 + 1)) a0_0 a0_1 a0_2) else (none)) else (spec_SlotsOf.l0 kj19 y173 x4_19 (wrap64 (x5_1 + 1)) a0_0 a0_1 a0_2)) = some r := by first | (rw [hy173]; with_reducible exact H) | (have H2_ := (Option.bind_some _ _).symm.trans H; rw [hy173]; with_reducible exact H2_) | (have H2_ := (Option.bind_some _ _).symm.trans H; with_reducible exact H2_) | with_reducible exact H | (rw [hy173]; exact H) | exact H
             have Ny173 := Aside0.mk hy173; clear hy173; by_cases c24 : t172 ≥ 2
             ·rw [if_pos c24] at H
              have c24b0 := decide_eq_true c24; clear c24; by_cases c25 : y173.length < 4398046511104
              ·rw [if_pos c25] at H
               have LMc25 := Aside0.mk c25; clear c25; obtain ⟨y176, hy176⟩ : ∃ y_ : List (S65), y_ = (y173 ++ [(⟨x4_19, true, x5_1, t172⟩ : S65)]) := ⟨_, rfl⟩; replace H : (spec_SlotsOf.l0 kj19 y176 x4_19 (wrap64 (x5_1 + 1)) a0_0 a0_1 a0_2) = some r := by first | (rw [hy176]; with_reducible exact H) | (have H2_ := (Option.bind_some _ _).symm.trans H; rw [hy176]; with_reducible exact H2_) | (have H2_ := (Option.bind_some _ _).symm.trans H; with_reducible exact H2_) | with_reducible exact H | (rw [hy176]; exact H) | exact H
               have Ny176 := Aside0.mk hy176; clear hy176; have H' := Aside0.mk H
               clear H; go_wp2_with (first | ((with_reducible refine gate_builtin (b := .append) (xs := #[.tmp 36, .tmp 41]) rfl ?_); at_builtin; refine Kd.R_append k65 (w0 := w) w.heap.size rfl (.tmp 36) (.tmp 41) 44 65 (.agg #[(.int .i64 0), (.bool false), (.int .i64 0), (.int .i64 0)]) 32 rfl Try.underlying44 info65 rfl (by decide) (by omega) u3 x3_1 (⟨x4_19, false, x5_1, t171⟩ : S65) [.int .i64 x4_19, .bool false, .int .i64 x5_1, .int .i64 t171] (fun _ => True) (fun _ => False) rfl rfl ?aP (fun _ hk => hk.elim) ?aF ?aO ?aB ?aS ?aL ?_; (case aP => exact k65_mkM _ _ _ (⟨x4_19, false, x5_1, t171⟩ : S65)); (case aB => exact z10_0); (case aF => exact (fun _ _ => trivial)); (case aO => exact (kd_g8 HO_3.out)); (case aS => exact (below_size z10_0)); (case aL => have := LMc23.out; omega); intro v174 w26 ho hb hg hat; rw [← Ny173.out] at ho; have n0_ := Aside0.mk (blk_grown (g := gb166) (o := .cells #[.int .i64 a0_0, .int .i64 a0_1, .string a0_2] 28 (0, 0)) (bd_g7 BK166.out) hg (Kd.R_ne HO_3.out BK166.out (by decide))); have n1_ := Aside0.mk (hb); have n2_ := Aside0.mk (ho); clear BK166; clear HB; clear HO_3; have BK166 := n0_; have HB := n1_; have HO175 := n2_; clear n0_ n1_ n2_; clear ho hb hg hat) | ((with_reducible refine gate_builtin (b := .append) (xs := #[.tmp 45, .tmp 50]) rfl ?_); at_builtin; refine Kd.R_append k65 (w0 := w) w.heap.size rfl (.tmp 45) (.tmp 50) 44 65 (.agg #[(.int .i64 0), (.bool false), (.int .i64 0), (.int .i64 0)]) 32 rfl Try.underlying44 info65 rfl (by decide) (by omega) v174 y173 (⟨x4_19, true, x5_1, t172⟩ : S65) [.int .i64 x4_19, .bool true, .int .i64 x5_1, .int .i64 t172] (fun _ => True) (fun _ => False) rfl rfl ?aP (fun _ hk => hk.elim) ?aF ?aO ?aB ?aS ?aL ?_; (case aP => exact k65_mkM _ _ _ (⟨x4_19, true, x5_1, t172⟩ : S65)); (case aB => exact z10_0); (case aF => exact (fun _ _ => trivial)); (case aO => exact (kd_g8 HO175.out)); (case aS => exact (below_size z10_0)); (case aL => have := LMc25.out; omega); intro v177 w27 ho hb hg hat; rw [← Ny176.out] at ho; have n0_ := Aside0.mk (blk_grown (g := gb166) (o := .cells #[.int .i64 a0_0, .int .i64 a0_1, .string a0_2] 28 (0, 0)) (bd_g7 BK166.out) hg (Kd.R_ne HO175.out BK166.out (by decide))); have n1_ := Aside0.mk (hb); have n2_ := Aside0.mk (ho); clear BK166; clear HB; clear HO175; have BK166 := n0_; have HB := n1_; have HO178 := n2_; clear n0_ n1_ n2_; clear ho hb hg hat))
               go_roundg kj19
               case measure => have := HK1.out; have := HJ4.out; have := HJ13.out; have := HJ19.out; omega
               case rel => exact ⟨(y176), (x4_19), (wrap64 (x5_1 + 1)), z_g2, z_g2, H', ⟨by have := HK1.out; have := HJ4.out; have := HJ13.out; have := HJ19.out; omega⟩, ⟨by (with_reducible repeat (first | apply Kd.R_alloc | apply Kd.R_drewN | apply Kd.R_drew)); exact HO178.out⟩, ⟨z10_3⟩, ⟨z10_0⟩⟩
              ·rw [if_neg c25] at H
               exact absurd H (by simp)
             ·rw [if_neg c24] at H
              have c24b0 := decide_eq_false c24; clear c24; have H' := Aside0.mk H
              clear H; go_wp2_with (first | ((with_reducible refine gate_builtin (b := .append) (xs := #[.tmp 36, .tmp 41]) rfl ?_); at_builtin; refine Kd.R_append k65 (w0 := w) w.heap.size rfl (.tmp 36) (.tmp 41) 44 65 (.agg #[(.int .i64 0), (.bool false), (.int .i64 0), (.int .i64 0)]) 32 rfl Try.underlying44 info65 rfl (by decide) (by omega) u3 x3_1 (⟨x4_19, false, x5_1, t171⟩ : S65) [.int .i64 x4_19, .bool false, .int .i64 x5_1, .int .i64 t171] (fun _ => True) (fun _ => False) rfl rfl ?aP (fun _ hk => hk.elim) ?aF ?aO ?aB ?aS ?aL ?_; (case aP => exact k65_mkM _ _ _ (⟨x4_19, false, x5_1, t171⟩ : S65)); (case aB => exact z10_0); (case aF => exact (fun _ _ => trivial)); (case aO => exact (kd_g8 HO_3.out)); (case aS => exact (below_size z10_0)); (case aL => have := LMc23.out; omega); intro v174 w28 ho hb hg hat; rw [← Ny173.out] at ho; have n0_ := Aside0.mk (blk_grown (g := gb166) (o := .cells #[.int .i64 a0_0, .int .i64 a0_1, .string a0_2] 28 (0, 0)) (bd_g7 BK166.out) hg (Kd.R_ne HO_3.out BK166.out (by decide))); have n1_ := Aside0.mk (hb); have n2_ := Aside0.mk (ho); clear BK166; clear HB; clear HO_3; have BK166 := n0_; have HB := n1_; have HO175 := n2_; clear n0_ n1_ n2_; clear ho hb hg hat))
              go_roundg kj19
              case measure => have := HK1.out; have := HJ4.out; have := HJ13.out; have := HJ19.out; omega
              case rel => exact ⟨(y173), (x4_19), (wrap64 (x5_1 + 1)), z_g2, z_g2, H', ⟨by have := HK1.out; have := HJ4.out; have := HJ13.out; have := HJ19.out; omega⟩, ⟨by (with_reducible repeat (first | apply Kd.R_alloc | apply Kd.R_drewN | apply Kd.R_drew)); exact HO175.out⟩, ⟨z10_3⟩, ⟨z10_0⟩⟩
            ·rw [if_neg c23] at H
             exact absurd H (by simp)
           ·rw [if_neg c22] at H
            have c22b0 := decide_eq_false c22; clear c22; by_cases c29 : t172 ≥ 2
            ·rw [if_pos c29] at H
             have c29b0 := decide_eq_true c29; clear c29; by_cases c30 : x3_1.length < 4398046511104
             ·rw [if_pos c30] at H
              have LMc30 := Aside0.mk c30; clear c30; obtain ⟨y179, hy179⟩ : ∃ y_ : List (S65), y_ = (x3_1 ++ [(⟨x4_19, true, x5_1, t172⟩ : S65)]) := ⟨_, rfl⟩; replace H : (spec_SlotsOf.l0 kj19 y179 x4_19 (wrap64 (x5_1 + 1)) a0_0 a0_1 a0_2) = some r := by first | (rw [hy179]; with_reducible exact H) | (have H2_ := (Option.bind_some _ _).symm.trans H; rw [hy179]; with_reducible exact H2_) | (have H2_ := (Option.bind_some _ _).symm.trans H; with_reducible exact H2_) | with_reducible exact H | (rw [hy179]; exact H) | exact H
              have Ny179 := Aside0.mk hy179; clear hy179; have H' := Aside0.mk H
              clear H; go_wp2_with (first | ((with_reducible refine gate_builtin (b := .append) (xs := #[.tmp 45, .tmp 50]) rfl ?_); at_builtin; refine Kd.R_append k65 (w0 := w) w.heap.size rfl (.tmp 45) (.tmp 50) 44 65 (.agg #[(.int .i64 0), (.bool false), (.int .i64 0), (.int .i64 0)]) 32 rfl Try.underlying44 info65 rfl (by decide) (by omega) u3 x3_1 (⟨x4_19, true, x5_1, t172⟩ : S65) [.int .i64 x4_19, .bool true, .int .i64 x5_1, .int .i64 t172] (fun _ => True) (fun _ => False) rfl rfl ?aP (fun _ hk => hk.elim) ?aF ?aO ?aB ?aS ?aL ?_; (case aP => exact k65_mkM _ _ _ (⟨x4_19, true, x5_1, t172⟩ : S65)); (case aB => exact z10_0); (case aF => exact (fun _ _ => trivial)); (case aO => exact (kd_g8 HO_3.out)); (case aS => exact (below_size z10_0)); (case aL => have := LMc30.out; omega); intro v180 w31 ho hb hg hat; rw [← Ny179.out] at ho; have n0_ := Aside0.mk (blk_grown (g := gb166) (o := .cells #[.int .i64 a0_0, .int .i64 a0_1, .string a0_2] 28 (0, 0)) (bd_g7 BK166.out) hg (Kd.R_ne HO_3.out BK166.out (by decide))); have n1_ := Aside0.mk (hb); have n2_ := Aside0.mk (ho); clear BK166; clear HB; clear HO_3; have BK166 := n0_; have HB := n1_; have HO181 := n2_; clear n0_ n1_ n2_; clear ho hb hg hat))
              go_roundg kj19
              case measure => have := HK1.out; have := HJ4.out; have := HJ13.out; have := HJ19.out; omega
              case rel => exact ⟨(y179), (x4_19), (wrap64 (x5_1 + 1)), z_g2, z_g2, H', ⟨by have := HK1.out; have := HJ4.out; have := HJ13.out; have := HJ19.out; omega⟩, ⟨by (with_reducible repeat (first | apply Kd.R_alloc | apply Kd.R_drewN | apply Kd.R_drew)); exact HO181.out⟩, ⟨z10_3⟩, ⟨z10_0⟩⟩
             ·rw [if_neg c30] at H
              exact absurd H (by simp)
            ·rw [if_neg c29] at H
             have c29b0 := decide_eq_false c29; clear c29; have H' := Aside0.mk H
             clear H; go_wp2
             go_roundg kj19
             case measure => have := HK1.out; have := HJ4.out; have := HJ13.out; have := HJ19.out; omega
             case rel => exact ⟨(x3_1), (x4_19), (wrap64 (x5_1 + 1)), z_g2, z_g2, H', ⟨by have := HK1.out; have := HJ4.out; have := HJ13.out; have := HJ19.out; omega⟩, ⟨z_g10⟩, ⟨z10_3⟩, ⟨z10_0⟩⟩
      ·replace c11 := Bool.eq_false_iff.mpr c11; subst c11; rw [if_neg (show ¬ (false = true) by decide)] at H
       obtain rfl := Option.some.inj H; go_wp2
       go_ret
       exact ⟨_, by first | rfl | (simp [errW_none, errW_some] <;> rfl) | (simp [*, errW_none, errW_some] <;> rfl), z_g10, z10_0⟩

/-! ### spec_IsWord: function 83 -/
def spec_IsWord.l0 : Nat → ByteArray → Int → Option (Bool)
  | 0, _, _ => none
  | k + 1, x0, x3 => if x3 < (x0.size : Int) then (if 0 ≤ x3 then (if (bt x0 x3) < 97 then (some false) else (if (bt x0 x3) > 122 then (some false) else (spec_IsWord.l0 k x0 (wrap64 (x3 + 1))))) else (none)) else (some true)
def spec_IsWord.f (k : Nat) (a0 : ByteArray) : Option (Bool) := (spec_l1In.f (a0.size : Int) 1 8).bind fun t182 => (if t182 = true then (spec_IsWord.l0 k a0 0) else (some false))
theorem spec_IsWord.calls (k : Nat) (a0 : ByteArray) (r : Bool) (w : World) (h : spec_IsWord.f k a0 = some r) :
   Calls Try.prog 83 #[.string a0] w fun e w' => e = .returned (.bool r) ∧ Drawn0 w w' := by
  have H : ((spec_l1In.f (a0.size : Int) 1 8).bind fun t182 => (if t182 = true then (spec_IsWord.l0 k a0 0) else (some false))) = some r := h; clear h; replace H := Option.bind_eq_some_iff.mp H; obtain ⟨t182, A20, H⟩ := H; try dsimp only at H
  have A2 := Aside0.mk A20; clear A20; by_cases c3 : t182 = true
  ·subst c3; rw [if_pos rfl] at H
   have H' := Aside0.mk H
   clear H; go_enter Try.func83, Try.ntmps83
   go_wp2_with (first | ((with_reducible refine gate_callee (f := 44) rfl ?_); refine goesL_ (some 6) rfl rfl Try.func44 (by kernel_rfl) rfl #[.int .i64 (a0.size : Int), .int .i64 1, .int .i64 8] rfl z_g9 ?_; (with_reducible refine (spec_l1In.calls (a0.size : Int) 1 8 true _ A2.out).mono ?_); rintro e w' ⟨rfl, ⟨nd, rfl⟩⟩; refine ⟨_, rfl, ?_⟩))
   go_loopg [3] k (fun kq v3 w' => ∃ (x3_1 : Int), v3 = .int .i64 x3_1 ∧ Aside0 (spec_IsWord.l0 kq a0 x3_1 = some r) ∧ Aside0 (kq ≤ k) ∧ Drawn0 w w')
   case atStart => exact ⟨(0), z_g2, H', ⟨Nat.le_refl _⟩, z_g3⟩
   case round =>
    clear H'; try clear p2
    try clear c3
    obtain ⟨x3_1, rfl, HA, HK1, ⟨m1, rfl⟩⟩ := hrel
    cases gk with
    | zero => exact absurd HA.out (by simp [spec_IsWord.l0])
    | succ k1 =>
     have H := HA.out; clear HA; simp only [spec_IsWord.l0] at H; by_cases c4 : x3_1 < (a0.size : Int)
     ·rw [if_pos c4] at H
      have c4b0 := decide_eq_true c4; clear c4; by_cases c5 : 0 ≤ x3_1
      ·rw [if_pos c5] at H
       have c5b0 := decide_eq_true c5; clear c5; by_cases c7 : (bt a0 x3_1) < 97
       ·rw [if_pos c7] at H
        have c7b0 := decide_eq_true c7; clear c7; obtain rfl := Option.some.inj H; have p6 : 0 ≤ (x3_1 : Int) := of_decide_eq_true z_g1; have q6 : x3_1 < (a0.size : Int) := of_decide_eq_true z_g1; have hx6 := bt_at a0 x3_1; replace p6 := eq_true p6; replace q6 := eq_true q6; go_wp2
        go_ret
        exact ⟨z_g2, z_g3⟩
       ·rw [if_neg c7] at H
        have c7b0 := decide_eq_false c7; clear c7; by_cases c9 : (bt a0 x3_1) > 122
        ·rw [if_pos c9] at H
         have c9b0 := decide_eq_true c9; clear c9; obtain rfl := Option.some.inj H; have p6 : 0 ≤ (x3_1 : Int) := of_decide_eq_true z_g1; have q6 : x3_1 < (a0.size : Int) := of_decide_eq_true z_g1; have hx6 := bt_at a0 x3_1; replace p6 := eq_true p6; replace q6 := eq_true q6; have p8 : 0 ≤ (x3_1 : Int) := of_decide_eq_true z_g1; have q8 : x3_1 < (a0.size : Int) := of_decide_eq_true z_g1; have hx8 := bt_at a0 x3_1; replace p8 := eq_true p8; replace q8 := eq_true q8; go_wp2
         go_ret
         exact ⟨z_g2, z_g3⟩
        ·rw [if_neg c9] at H
         have c9b0 := decide_eq_false c9; clear c9; have H' := Aside0.mk H
         clear H; have p6 : 0 ≤ (x3_1 : Int) := of_decide_eq_true z_g1; have q6 : x3_1 < (a0.size : Int) := of_decide_eq_true z_g1; have hx6 := bt_at a0 x3_1; replace p6 := eq_true p6; replace q6 := eq_true q6; have p8 : 0 ≤ (x3_1 : Int) := of_decide_eq_true z_g1; have q8 : x3_1 < (a0.size : Int) := of_decide_eq_true z_g1; have hx8 := bt_at a0 x3_1; replace p8 := eq_true p8; replace q8 := eq_true q8; go_wp2
         go_roundg k1
         case measure => have := HK1.out; omega
         case rel => exact ⟨(wrap64 (x3_1 + 1)), z_g2, H', ⟨by have := HK1.out; omega⟩, z_g3⟩
      ·rw [if_neg c5] at H
       exact absurd H (by simp)
     ·rw [if_neg c4] at H
      have c4b0 := decide_eq_false c4; clear c4; obtain rfl := Option.some.inj H; go_wp2
      go_ret
      exact ⟨z_g2, z_g3⟩
  ·replace c3 := Bool.eq_false_iff.mpr c3; subst c3; rw [if_neg (show ¬ (false = true) by decide)] at H
   obtain rfl := Option.some.inj H; go_enter Try.func83, Try.ntmps83
   go_wp2_with (first | ((with_reducible refine gate_callee (f := 44) rfl ?_); refine goesL_ (some 6) rfl rfl Try.func44 (by kernel_rfl) rfl #[.int .i64 (a0.size : Int), .int .i64 1, .int .i64 8] rfl z_g9 ?_; (with_reducible refine (spec_l1In.calls (a0.size : Int) 1 8 false _ A2.out).mono ?_); rintro e w' ⟨rfl, ⟨nd, rfl⟩⟩; refine ⟨_, rfl, ?_⟩))
   go_ret
   exact ⟨z_g2, z_g3⟩

/-! ### spec_IsPattern: function 119 -/
def spec_IsPattern.l0 : Nat → ByteArray → Int → Option (Bool)
  | 0, _, _ => none
  | k + 1, x0, x3 => if x3 < (x0.size : Int) then (if 0 ≤ x3 then (if (bt x0 x3) = 63 then (spec_IsPattern.l0 k x0 (wrap64 (x3 + 1))) else (if (bt x0 x3) < 97 then (some false) else (if (bt x0 x3) > 122 then (some false) else (spec_IsPattern.l0 k x0 (wrap64 (x3 + 1)))))) else (none)) else (some true)
def spec_IsPattern.f (k : Nat) (a0 : ByteArray) : Option (Bool) := (spec_l1In.f (a0.size : Int) 1 8).bind fun t183 => (if t183 = true then (spec_IsPattern.l0 k a0 0) else (some false))
theorem spec_IsPattern.calls (k : Nat) (a0 : ByteArray) (r : Bool) (w : World) (h : spec_IsPattern.f k a0 = some r) :
   Calls Try.prog 119 #[.string a0] w fun e w' => e = .returned (.bool r) ∧ Drawn0 w w' := by
  have H : ((spec_l1In.f (a0.size : Int) 1 8).bind fun t183 => (if t183 = true then (spec_IsPattern.l0 k a0 0) else (some false))) = some r := h; clear h; replace H := Option.bind_eq_some_iff.mp H; obtain ⟨t183, A20, H⟩ := H; try dsimp only at H
  have A2 := Aside0.mk A20; clear A20; by_cases c3 : t183 = true
  ·subst c3; rw [if_pos rfl] at H
   have H' := Aside0.mk H
   clear H; go_enter Try.func119, Try.ntmps119
   go_wp2_with (first | ((with_reducible refine gate_callee (f := 44) rfl ?_); refine goesL_ (some 6) rfl rfl Try.func44 (by kernel_rfl) rfl #[.int .i64 (a0.size : Int), .int .i64 1, .int .i64 8] rfl z_g9 ?_; (with_reducible refine (spec_l1In.calls (a0.size : Int) 1 8 true _ A2.out).mono ?_); rintro e w' ⟨rfl, ⟨nd, rfl⟩⟩; refine ⟨_, rfl, ?_⟩))
   go_loopg [3] k (fun kq v3 w' => ∃ (x3_1 : Int), v3 = .int .i64 x3_1 ∧ Aside0 (spec_IsPattern.l0 kq a0 x3_1 = some r) ∧ Aside0 (kq ≤ k) ∧ Drawn0 w w')
   case atStart => exact ⟨(0), z_g2, H', ⟨Nat.le_refl _⟩, z_g3⟩
   case round =>
    clear H'; try clear c1
    try clear p2
    try clear c3
    obtain ⟨x3_1, rfl, HA, HK1, ⟨m1, rfl⟩⟩ := hrel
    cases gk with
    | zero => exact absurd HA.out (by simp [spec_IsPattern.l0])
    | succ k1 =>
     have H := HA.out; clear HA; simp only [spec_IsPattern.l0] at H; by_cases c4 : x3_1 < (a0.size : Int)
     ·rw [if_pos c4] at H
      have c4b0 := decide_eq_true c4; clear c4; by_cases c5 : 0 ≤ x3_1
      ·rw [if_pos c5] at H
       have c5b0 := decide_eq_true c5; clear c5; by_cases c7 : (bt a0 x3_1) = 63
       ·rw [if_pos c7] at H
        have c7b0 : ((bt a0 x3_1) == 63) = true := beq_iff_eq.mpr c7; have c7b1 : ((bt a0 x3_1) != 63) = false := bne_eq_false_iff_eq.mpr c7; clear c7; have H' := Aside0.mk H
        clear H; have p6 : 0 ≤ (x3_1 : Int) := of_decide_eq_true z_g1; have q6 : x3_1 < (a0.size : Int) := of_decide_eq_true z_g1; have hx6 := bt_at a0 x3_1; replace p6 := eq_true p6; replace q6 := eq_true q6; go_wp2
        go_roundg k1
        case measure => have := HK1.out; omega
        case rel => exact ⟨(wrap64 (x3_1 + 1)), z_g2, H', ⟨by have := HK1.out; omega⟩, z_g3⟩
       ·rw [if_neg c7] at H
        have c7b0 : ((bt a0 x3_1) == 63) = false := beq_eq_false_iff_ne.mpr c7; have c7b1 : ((bt a0 x3_1) != 63) = true := bne_iff_ne.mpr c7; by_cases c9 : (bt a0 x3_1) < 97
        ·rw [if_pos c9] at H
         have c9b0 := decide_eq_true c9; clear c9; obtain rfl := Option.some.inj H; have p6 : 0 ≤ (x3_1 : Int) := of_decide_eq_true z_g1; have q6 : x3_1 < (a0.size : Int) := of_decide_eq_true z_g1; have hx6 := bt_at a0 x3_1; replace p6 := eq_true p6; replace q6 := eq_true q6; have p8 : 0 ≤ (x3_1 : Int) := of_decide_eq_true z_g1; have q8 : x3_1 < (a0.size : Int) := of_decide_eq_true z_g1; have hx8 := bt_at a0 x3_1; replace p8 := eq_true p8; replace q8 := eq_true q8; go_wp2
         go_ret
         exact ⟨z_g2, z_g3⟩
        ·rw [if_neg c9] at H
         have c9b0 := decide_eq_false c9; clear c9; by_cases c11 : (bt a0 x3_1) > 122
         ·rw [if_pos c11] at H
          have c11b0 := decide_eq_true c11; clear c11; obtain rfl := Option.some.inj H; have p6 : 0 ≤ (x3_1 : Int) := of_decide_eq_true z_g1; have q6 : x3_1 < (a0.size : Int) := of_decide_eq_true z_g1; have hx6 := bt_at a0 x3_1; replace p6 := eq_true p6; replace q6 := eq_true q6; have p8 : 0 ≤ (x3_1 : Int) := of_decide_eq_true z_g1; have q8 : x3_1 < (a0.size : Int) := of_decide_eq_true z_g1; have hx8 := bt_at a0 x3_1; replace p8 := eq_true p8; replace q8 := eq_true q8; have p10 : 0 ≤ (x3_1 : Int) := of_decide_eq_true z_g1; have q10 : x3_1 < (a0.size : Int) := of_decide_eq_true z_g1; have hx10 := bt_at a0 x3_1; replace p10 := eq_true p10; replace q10 := eq_true q10; go_wp2
          go_ret
          exact ⟨z_g2, z_g3⟩
         ·rw [if_neg c11] at H
          have c11b0 := decide_eq_false c11; clear c11; have H' := Aside0.mk H
          clear H; have p6 : 0 ≤ (x3_1 : Int) := of_decide_eq_true z_g1; have q6 : x3_1 < (a0.size : Int) := of_decide_eq_true z_g1; have hx6 := bt_at a0 x3_1; replace p6 := eq_true p6; replace q6 := eq_true q6; have p8 : 0 ≤ (x3_1 : Int) := of_decide_eq_true z_g1; have q8 : x3_1 < (a0.size : Int) := of_decide_eq_true z_g1; have hx8 := bt_at a0 x3_1; replace p8 := eq_true p8; replace q8 := eq_true q8; have p10 : 0 ≤ (x3_1 : Int) := of_decide_eq_true z_g1; have q10 : x3_1 < (a0.size : Int) := of_decide_eq_true z_g1; have hx10 := bt_at a0 x3_1; replace p10 := eq_true p10; replace q10 := eq_true q10; go_wp2
          go_roundg k1
          case measure => have := HK1.out; omega
          case rel => exact ⟨(wrap64 (x3_1 + 1)), z_g2, H', ⟨by have := HK1.out; omega⟩, z_g3⟩
      ·rw [if_neg c5] at H
       exact absurd H (by simp)
     ·rw [if_neg c4] at H
      have c4b0 := decide_eq_false c4; clear c4; obtain rfl := Option.some.inj H; go_wp2
      go_ret
      exact ⟨z_g2, z_g3⟩
  ·replace c3 := Bool.eq_false_iff.mpr c3; subst c3; rw [if_neg (show ¬ (false = true) by decide)] at H
   obtain rfl := Option.some.inj H; go_enter Try.func119, Try.ntmps119
   go_wp2_with (first | ((with_reducible refine gate_callee (f := 44) rfl ?_); refine goesL_ (some 6) rfl rfl Try.func44 (by kernel_rfl) rfl #[.int .i64 (a0.size : Int), .int .i64 1, .int .i64 8] rfl z_g9 ?_; (with_reducible refine (spec_l1In.calls (a0.size : Int) 1 8 false _ A2.out).mono ?_); rintro e w' ⟨rfl, ⟨nd, rfl⟩⟩; refine ⟨_, rfl, ?_⟩))
   go_ret
   exact ⟨z_g2, z_g3⟩

end Go.Proofs.Ytodcckiphdnjeaa.QFnPruned
