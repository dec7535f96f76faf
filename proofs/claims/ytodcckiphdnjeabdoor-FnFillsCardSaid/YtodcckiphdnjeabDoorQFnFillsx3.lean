-- Written by a changed copy of the kit's printer (wip/mp.py of this repo), for this claim; Lean checks it.
import Derived.Test.YtodcckiphdnjeabDoorQFnFillsx0
import Derived.Test.YtodcckiphdnjeabDoorQFnFillsx2
namespace Go.Proofs.YtodcckiphdnjeabDoor.QFnFills
open Go.RowKit Go.Proofs.YtodcckiphdnjeabDoorW.PrintWords Go.Proofs.YtodcckiphdnjeabDoorW.PrintLast Go.Proofs.YtodcckiphdnjeabDoorW.PrintMore
attribute [local go_sem] max2_int min2_int max_two min_two max_three min_three max_four min_four   -- for this text's walks alone
set_option linter.unusedVariables false
set_option linter.unusedSimpArgs false

theorem bd3_ {p q : Prop} (h0 : q) (h : q → p := by intro h_; (with_reducible repeat (first | refine blk_drewN ?_ _ | refine blk_drew ?_ | refine blk_alloc ?_ _)); exact h_) : p := h h0
theorem z3_0 {p : Prop} (h : p := by repeat (first | (with_reducible first | exact HB.out | apply below_alloc | apply pw_below_drewN | apply below_drew1 | refine below_set ?_ GE129.out | refine below_set ?_ GE130.out) | exact HB.out)) : p := h
theorem z3_1 {p : Prop} (h : p := by repeat (first | (with_reducible first | exact HB.out | apply below_alloc | apply pw_below_drewN | apply below_drew1) | exact HB.out)) : p := h
theorem z3_2 {p : Prop} (h : p := by repeat (first | (with_reducible first | exact HB.out | apply below_alloc | apply pw_below_drewN | apply below_drew1 | refine below_set ?_ GE127.out) | exact HB.out)) : p := h
theorem z3_3 {p : Prop} (h : p := by (with_reducible repeat (first | refine blk_drewN ?_ _ | refine blk_drew ?_ | refine blk_alloc ?_ _)); refine blk_put (cs := #[.int .i64 0, .int .i64 0, .string (⟨#[]⟩ : ByteArray)]) ?_ 2 _ rfl; (with_reducible repeat (first | refine blk_drewN ?_ _ | refine blk_drew ?_ | refine blk_alloc ?_ _)); refine blk_put (cs := #[.int .i64 0, .int .i64 0, .string (⟨#[]⟩ : ByteArray)]) ?_ 1 _ rfl; (with_reducible repeat (first | refine blk_drewN ?_ _ | refine blk_drew ?_ | refine blk_alloc ?_ _)); refine blk_put (cs := #[.int .i64 0, .int .i64 0, .string (⟨#[]⟩ : ByteArray)]) ?_ 0 _ rfl; (with_reducible repeat (first | refine blk_drewN ?_ _ | refine blk_drew ?_ | refine blk_alloc ?_ _)); exact BK129.out) : p := h
theorem z3_4 {p : Prop} (h : p := by first | (with_reducible assumption) | assumption) : p := h
theorem z3_5 {p : Prop} (h : p := by first | rfl | (simp; done) | (simp [*]; done)) : p := h
theorem z3_6 {p : Prop} (h : p := by (with_reducible repeat (first | refine blk_drewN ?_ _ | refine blk_drew ?_ | refine blk_alloc ?_ _)); exact BK127.out) : p := h
theorem pt3_ : (∀ (l : List Value) (i : Nat) (x : Value), l.toArray.setIfInBounds i x = (l.set i x).toArray) ∧ (∀ (a : Value) (l : List Value) (x : Value), (a :: l).set 0 x = x :: l) ∧ (∀ (a : Value) (l : List Value) (i : Nat) (x : Value), (a :: l).set (i + 1) x = a :: l.set i x) := ⟨fun _ _ _ => List.setIfInBounds_toArray .., fun _ _ _ => rfl, fun _ _ _ _ => rfl⟩
/-! ### spec_GridText: function 81 -/
mutual
def spec_GridText.l0 : Nat → ByteArray → Int → Int → Int → ByteArray → Option (ByteArray)
  | 0, _, _, _, _, _ => none
  | k + 1, x3, x4, x128000, x128001, x128002 => if x4 < x128000 then ((spec_IsGrid.f k x128000 x128001 x128002).bind fun t128 => (spec_GridText.j1 k x3 x4 t128 x128000 x128001 x128002)) else (spec_GridText.j1 k x3 x4 false x128000 x128001 x128002)
def spec_GridText.j1 : Nat → ByteArray → Int → Bool → Int → Int → ByteArray → Option (ByteArray)
  | 0, _, _, _, _, _, _ => none
  | k + 1, x3, x4, x12, x128000, x128001, x128002 => if x12 = true then (if x4 > 0 then (if x3.size + 1 ≤ 9223372036854775807 then (if 0 ≤ (wrap64 (x4 * x128001)) then (if (wrap64 (x4 * x128001)) ≤ (wrap64 ((wrap64 (x4 + 1)) * x128001)) then (if (wrap64 ((wrap64 (x4 + 1)) * x128001)) ≤ (x128002.size : Int) then (if (x3 ++ (⟨#[47]⟩ : ByteArray)).size + (x128002.extract ((wrap64 (x4 * x128001)) : Int).toNat ((wrap64 ((wrap64 (x4 + 1)) * x128001)) : Int).toNat).size ≤ 9223372036854775807 then (spec_GridText.l0 k ((x3 ++ (⟨#[47]⟩ : ByteArray)) ++ (x128002.extract ((wrap64 (x4 * x128001)) : Int).toNat ((wrap64 ((wrap64 (x4 + 1)) * x128001)) : Int).toNat)) (wrap64 (x4 + 1)) x128000 x128001 x128002) else (none)) else (none)) else (none)) else (none)) else (none)) else (if 0 ≤ (wrap64 (x4 * x128001)) then (if (wrap64 (x4 * x128001)) ≤ (wrap64 ((wrap64 (x4 + 1)) * x128001)) then (if (wrap64 ((wrap64 (x4 + 1)) * x128001)) ≤ (x128002.size : Int) then (if x3.size + (x128002.extract ((wrap64 (x4 * x128001)) : Int).toNat ((wrap64 ((wrap64 (x4 + 1)) * x128001)) : Int).toNat).size ≤ 9223372036854775807 then (spec_GridText.l0 k (x3 ++ (x128002.extract ((wrap64 (x4 * x128001)) : Int).toNat ((wrap64 ((wrap64 (x4 + 1)) * x128001)) : Int).toNat)) (wrap64 (x4 + 1)) x128000 x128001 x128002) else (none)) else (none)) else (none)) else (none))) else (some x3)
end
def spec_GridText.f (k : Nat) (a0_0 : Int) (a0_1 : Int) (a0_2 : ByteArray) : Option (ByteArray) := spec_GridText.l0 k (⟨#[]⟩ : ByteArray) 0 a0_0 a0_1 a0_2
theorem spec_GridText.mono_l : ∀ k, (∀ y0 y1 y2 y3 y4, LeO (spec_GridText.l0 k y0 y1 y2 y3 y4) (spec_GridText.l0 (k + 1) y0 y1 y2 y3 y4)) ∧ (∀ y0 y1 y2 y3 y4 y5, LeO (spec_GridText.j1 k y0 y1 y2 y3 y4 y5) (spec_GridText.j1 (k + 1) y0 y1 y2 y3 y4 y5))
  | 0 => ⟨fun _ _ _ _ _ r h => by simp [spec_GridText.l0] at h, fun _ _ _ _ _ _ r h => by simp [spec_GridText.j1] at h⟩
  | k + 1 => by
   obtain ⟨ih0, ih1⟩ := spec_GridText.mono_l k; refine ⟨?_, ?_⟩
   ·intro y0 y1 y2 y3 y4
    unfold spec_GridText.l0
    repeat' first
    | (with_reducible exact ih0 _ _ _ _ _)
    | (with_reducible exact ih1 _ _ _ _ _ _)
    | (with_reducible exact spec_IsGrid.mono _ _ _ _)
    | (with_reducible exact LeO.refl _)
    | (with_reducible exact LeO.none _)
    | (with_reducible refine LeO.ite ?_ ?_)
    | (with_reducible refine LeO.bind ?_ (fun _ => ?_))
    | exact ih0 _ _ _ _ _
    | exact ih1 _ _ _ _ _ _
    | exact spec_IsGrid.mono _ _ _ _
    | exact LeO.none _
    | refine LeO.ite ?_ ?_
    | refine LeO.bind ?_ (fun _ => ?_)
   ·intro y0 y1 y2 y3 y4 y5
    unfold spec_GridText.j1
    repeat' first
    | (with_reducible exact ih0 _ _ _ _ _)
    | (with_reducible exact ih1 _ _ _ _ _ _)
    | (with_reducible exact spec_IsGrid.mono _ _ _ _)
    | (with_reducible exact LeO.refl _)
    | (with_reducible exact LeO.none _)
    | (with_reducible refine LeO.ite ?_ ?_)
    | (with_reducible refine LeO.bind ?_ (fun _ => ?_))
    | exact ih0 _ _ _ _ _
    | exact ih1 _ _ _ _ _ _
    | exact spec_IsGrid.mono _ _ _ _
    | exact LeO.none _
    | refine LeO.ite ?_ ?_
    | refine LeO.bind ?_ (fun _ => ?_)
theorem spec_GridText.mono : ∀ a0 a1 a2 k, LeO (spec_GridText.f k a0 a1 a2) (spec_GridText.f (k + 1) a0 a1 a2) := by
  intro a0 a1 a2 k
  obtain ⟨ih0, ih1⟩ := spec_GridText.mono_l k; unfold spec_GridText.f
  repeat' first
    | (with_reducible exact ih0 _ _ _ _ _)
    | (with_reducible exact ih1 _ _ _ _ _ _)
    | (with_reducible exact spec_IsGrid.mono _ _ _ _)
    | (with_reducible exact LeO.refl _)
    | (with_reducible exact LeO.none _)
    | (with_reducible refine LeO.ite ?_ ?_)
    | (with_reducible refine LeO.bind ?_ (fun _ => ?_))
    | exact ih0 _ _ _ _ _
    | exact ih1 _ _ _ _ _ _
    | exact spec_IsGrid.mono _ _ _ _
    | exact LeO.none _
    | refine LeO.ite ?_ ?_
    | refine LeO.bind ?_ (fun _ => ?_)
set_option maxHeartbeats 8000000 in
set_option maxRecDepth 100000 in
theorem spec_GridText.calls (k : Nat) (a0_0 : Int) (a0_1 : Int) (a0_2 : ByteArray) (r : ByteArray) (w : World) (h : spec_GridText.f k a0_0 a0_1 a0_2 = some r) :
   Calls Tryd.prog 81 #[.agg #[.int .i64 a0_0, .int .i64 a0_1, .string a0_2]] w fun e w' => e = .returned (.string r) ∧ Below w.heap.size w w' := by
  have hu25 := Tryd.underlying25; have HB := Aside0.mk (Below.refl w.heap.size w); have H : (spec_GridText.l0 k (⟨#[]⟩ : ByteArray) 0 a0_0 a0_1 a0_2) = some r := h; clear h; have H' := Aside0.mk H
  clear H; go_enter Tryd.func81, Tryd.ntmps81
  go_wp2_with (first | ((with_reducible refine gate_dst (N := 1) rfl ?_); refine box_event ?hg (N := 1) ?hd (cs := #[.int .i64 a0_0, .int .i64 a0_1, .string a0_2]) (t := 25) ?hr ?_; (case hd => rfl); (case hg => rfl); (case hr => first | (go_simp; done) | (go_simp; rfl)); intro gb127 hg w2 hbox hb; have n0_ := Aside0.mk (below_step z3_1 hb); have n1_ := Aside0.mk (hbox); have n2_ := Aside0.mk ((by rw [hg]; exact (below_size z3_1) : w.heap.size ≤ gb127)); have n3_ := Aside0.mk ((by rw [hg]; exact (below_size z3_1) : w.heap.size ≤ gb127)); clear HB; have HB := n0_; have BK127 := n1_; have GW127 := n2_; have GE127 := n3_; clear n0_ n1_ n2_ n3_; clear hb hbox hg))
  go_loopg [3, 4] k (fun kq v3 v4 w' => ∃ (x3_1 : ByteArray) (x4_1 : Int), v3 = .string x3_1 ∧ v4 = .int .i64 x4_1 ∧ Aside0 (spec_GridText.l0 kq x3_1 x4_1 a0_0 a0_1 a0_2 = some r) ∧ Aside0 (kq ≤ k) ∧ Aside0 (w'.heap[gb127]? = some (.cells #[.int .i64 a0_0, .int .i64 a0_1, .string a0_2] 25 (0, 0))) ∧ Aside0 (Below w.heap.size w w'))
  case atStart => exact ⟨((⟨#[]⟩ : ByteArray)), (0), z3_5, z3_5, H', ⟨Nat.le_refl _⟩, ⟨z3_6⟩, ⟨z3_2⟩⟩
  case round =>
   clear H'; try clear p2
   obtain ⟨x3_1, x4_1, rfl, rfl, HA, HK1, BK127, HB⟩ := hrel
   cases gk with
   | zero => exact absurd HA.out (by simp [spec_GridText.l0])
   | succ k1 =>
    have H := HA.out; clear HA; simp only [spec_GridText.l0] at H; have HC3 := Aside0.mk H; clear H; go_upto_region 3 with (fail)
    go_cut [12] (fun v12 wc => ∃ (kq : Nat) (x12_2 : Bool), v12 = .bool x12_2 ∧ Aside0 (spec_GridText.j1 kq x3_1 x4_1 x12_2 a0_0 a0_1 a0_2 = some r) ∧ Aside0 (kq ≤ k1) ∧ Aside0 (wc.heap[gb127]? = some (.cells #[.int .i64 a0_0, .int .i64 a0_1, .string a0_2] 25 (0, 0))) ∧ Aside0 (Below w.heap.size w wc))
    case first =>
     have H := HC3.out; clear HC3; by_cases c4 : x4_1 < a0_0
     ·rw [if_pos c4] at H
      have c4b0 : decide (x4_1 < a0_0) = true := decide_eq_true c4; clear c4; (first | rw [c4b0] | (simp only [i64_w, i32_w]; rw [c4b0]) | skip)
      replace H := Option.bind_eq_some_iff.mp H; obtain ⟨t128, A50, H⟩ := H; replace H : (spec_GridText.j1 k1 x3_1 x4_1 t128 a0_0 a0_1 a0_2) = some r := H; have A5 := Aside0.mk A50; clear A50; have H' := Aside0.mk H
      clear H; have hcz6_0 : wr.cell? ⟨gb127, 0, none⟩ = some (.int .i64 a0_0) := (blk_cell BK127.out 0).trans rfl; have hcz6_1 : wr.cell? ⟨gb127, 1, none⟩ = some (.int .i64 a0_1) := (blk_cell BK127.out 1).trans rfl; have hcz6_2 : wr.cell? ⟨gb127, 2, none⟩ = some (.string a0_2) := (blk_cell BK127.out 2).trans rfl; have hfz6_0 := blk_frozen BK127.out 0; have hfz6_1 := blk_frozen BK127.out 1; have hfz6_2 := blk_frozen BK127.out 2; go_wp2_with (first | (go_at_call 61; (with_reducible refine (spec_IsGrid.calls k1 a0_0 a0_1 a0_2 t128 _ A5.out).mono ?_); rintro e w7 ⟨rfl, hb⟩; have n0_ := Aside0.mk (blk_below (g := gb127) (o := .cells #[.int .i64 a0_0, .int .i64 a0_1, .string a0_2] 25 (0, 0)) (bd3_ BK127.out) hb); have n1_ := Aside0.mk (below_step z3_2 hb); clear BK127; clear HB; have BK127 := n0_; have HB := n1_; clear n0_ n1_; (try clear hb); (try clear hb2); (try clear hk); (try clear hi)))
      go_meet
      case rel => exact ⟨_, (t128), z3_5, H', ⟨by have := HK1.out; first | omega | exact Nat.le_refl _⟩, ⟨z3_6⟩, ⟨z3_2⟩⟩
     ·rw [if_neg c4] at H
      have c4b0 : decide (x4_1 < a0_0) = false := decide_eq_false c4; clear c4; (first | rw [c4b0] | (simp only [i64_w, i32_w]; rw [c4b0]) | skip)
      have H' := Aside0.mk H
      clear H; have hcz8_0 : wr.cell? ⟨gb127, 0, none⟩ = some (.int .i64 a0_0) := (blk_cell BK127.out 0).trans rfl; have hcz8_1 : wr.cell? ⟨gb127, 1, none⟩ = some (.int .i64 a0_1) := (blk_cell BK127.out 1).trans rfl; have hcz8_2 : wr.cell? ⟨gb127, 2, none⟩ = some (.string a0_2) := (blk_cell BK127.out 2).trans rfl; have hfz8_0 := blk_frozen BK127.out 0; have hfz8_1 := blk_frozen BK127.out 1; have hfz8_2 := blk_frozen BK127.out 2; go_wp2
      go_meet
      case rel => exact ⟨_, (false), z3_5, H', ⟨by have := HK1.out; first | omega | exact Nat.le_refl _⟩, ⟨z3_6⟩, ⟨z3_2⟩⟩
    case rest =>
     clear HC3; try clear p2
     try clear c4
     try clear c4b0
     try clear c8
     try clear hcz6_0
     try clear hcz6_1
     try clear hcz6_2
     try clear hcz8_0
     try clear hcz8_1
     try clear hcz8_2
     try clear hfz6_0
     try clear hfz6_1
     try clear hfz6_2
     try clear hfz8_0
     try clear hfz8_1
     try clear hfz8_2
     try clear p2
     obtain ⟨kq, x12_2, rfl, HA, HJ2, BK127, HB⟩ := hcut
     cases kq with
     | zero => exact absurd HA.out (by simp [spec_GridText.j1])
     | succ kj2 =>
      have H := HA.out; clear HA; simp only [spec_GridText.j1] at H; by_cases c9 : x12_2 = true
      ·subst c9; have H1 : (if x4_1 > 0 then (if x3_1.size + 1 ≤ 9223372036854775807 then (if 0 ≤ (wrap64 (x4_1 * a0_1)) then (if (wrap64 (x4_1 * a0_1)) ≤ (wrap64 ((wrap64 (x4_1 + 1)) * a0_1)) then (if (wrap64 ((wrap64 (x4_1 + 1)) * a0_1)) ≤ (a0_2.size : Int) then (if (x3_1 ++ (⟨#[47]⟩ : ByteArray)).size + (a0_2.extract ((wrap64 (x4_1 * a0_1)) : Int).toNat ((wrap64 ((wrap64 (x4_1 + 1)) * a0_1)) : Int).toNat).size ≤ 9223372036854775807 then (spec_GridText.l0 kj2 ((x3_1 ++ (⟨#[47]⟩ : ByteArray)) ++ (a0_2.extract ((wrap64 (x4_1 * a0_1)) : Int).toNat ((wrap64 ((wrap64 (x4_1 + 1)) * a0_1)) : Int).toNat)) (wrap64 (x4_1 + 1)) a0_0 a0_1 a0_2) else (none)) else (none)) else (none)) else (none)) else (none)) else (if 0 ≤ (wrap64 (x4_1 * a0_1)) then (if (wrap64 (x4_1 * a0_1)) ≤ (wrap64 ((wrap64 (x4_1 + 1)) * a0_1)) then (if (wrap64 ((wrap64 (x4_1 + 1)) * a0_1)) ≤ (a0_2.size : Int) then (if x3_1.size + (a0_2.extract ((wrap64 (x4_1 * a0_1)) : Int).toNat ((wrap64 ((wrap64 (x4_1 + 1)) * a0_1)) : Int).toNat).size ≤ 9223372036854775807 then (spec_GridText.l0 kj2 (x3_1 ++ (a0_2.extract ((wrap64 (x4_1 * a0_1)) : Int).toNat ((wrap64 ((wrap64 (x4_1 + 1)) * a0_1)) : Int).toNat)) (wrap64 (x4_1 + 1)) a0_0 a0_1 a0_2) else (none)) else (none)) else (none)) else (none))) = some r := by rw [if_pos rfl] at H; exact H
       clear H; have H := H1; clear H1; by_cases c10 : x4_1 > 0
       ·rw [if_pos c10] at H
        have c10b0 : decide (0 < x4_1) = true := decide_eq_true c10; clear c10; by_cases c11 : x3_1.size + 1 ≤ 9223372036854775807
        ·rw [if_pos c11] at H
         have c11b0 := eq_true c11; have c11b1 : decide (x3_1.size + 1 ≤ 9223372036854775807) = true := decide_eq_true c11; try have c11b2 : (9223372036854775807 < x3_1.size + 1) = False := eq_false (Nat.not_lt.2 c11)
         obtain ⟨ji12, hji12⟩ : ∃ j_ : Int, (wrap64 (x4_1 * a0_1)) = j_ := ⟨_, rfl⟩; replace H : (if 0 ≤ (ji12) then (if (ji12) ≤ (wrap64 ((wrap64 (x4_1 + 1)) * a0_1)) then (if (wrap64 ((wrap64 (x4_1 + 1)) * a0_1)) ≤ (a0_2.size : Int) then (if (x3_1 ++ (⟨#[47]⟩ : ByteArray)).size + (a0_2.extract ((ji12) : Int).toNat ((wrap64 ((wrap64 (x4_1 + 1)) * a0_1)) : Int).toNat).size ≤ 9223372036854775807 then (spec_GridText.l0 kj2 ((x3_1 ++ (⟨#[47]⟩ : ByteArray)) ++ (a0_2.extract ((ji12) : Int).toNat ((wrap64 ((wrap64 (x4_1 + 1)) * a0_1)) : Int).toNat)) (wrap64 (x4_1 + 1)) a0_0 a0_1 a0_2) else (none)) else (none)) else (none)) else (none)) = some r := by first | (rw [hji12] at H; exact H) | (simp only [hji12] at H ⊢; exact H)
         have hji12w : (IntKind.i64.wrap (x4_1 * a0_1)) = ji12 := (i64_w _).trans hji12; by_cases c13 : 0 ≤ (ji12)
         ·rw [if_pos c13] at H
          have c13b0 := eq_true c13; have c13b1 : decide (0 ≤ (ji12)) = true := decide_eq_true c13; clear c13; by_cases c14 : (ji12) ≤ (wrap64 ((wrap64 (x4_1 + 1)) * a0_1))
          ·rw [if_pos c14] at H
           have c14b0 := eq_true c14; have c14b1 : decide ((ji12) ≤ (wrap64 ((wrap64 (x4_1 + 1)) * a0_1))) = true := decide_eq_true c14; by_cases c15 : (wrap64 ((wrap64 (x4_1 + 1)) * a0_1)) ≤ (a0_2.size : Int)
           ·rw [if_pos c15] at H
            have c15b0 := eq_true c15; have c15b1 : decide ((wrap64 ((wrap64 (x4_1 + 1)) * a0_1)) ≤ (a0_2.size : Int)) = true := decide_eq_true c15; by_cases c16 : (x3_1 ++ (⟨#[47]⟩ : ByteArray)).size + (a0_2.extract ((ji12) : Int).toNat ((wrap64 ((wrap64 (x4_1 + 1)) * a0_1)) : Int).toNat).size ≤ 9223372036854775807
            ·rw [if_pos c16] at H
             have c16b0 := eq_true c16; have c16b1 : decide ((x3_1 ++ (⟨#[47]⟩ : ByteArray)).size + (a0_2.extract ((ji12) : Int).toNat ((wrap64 ((wrap64 (x4_1 + 1)) * a0_1)) : Int).toNat).size ≤ 9223372036854775807) = true := decide_eq_true c16; try have c16b2 : (9223372036854775807 < (x3_1 ++ (⟨#[47]⟩ : ByteArray)).size + (a0_2.extract ((ji12) : Int).toNat ((wrap64 ((wrap64 (x4_1 + 1)) * a0_1)) : Int).toNat).size) = False := eq_false (Nat.not_lt.2 c16)
             try have c16b3 : (9223372036854775807 < x3_1.size + (⟨#[47]⟩ : ByteArray).size + ((wrap64 ((wrap64 (x4_1 + 1)) * a0_1)).toNat - ji12.toNat)) = False := eq_false (by have q0_ : (wrap64 ((wrap64 (x4_1 + 1)) * a0_1) : Int) ≤ (a0_2.size : Int) := of_decide_eq_true z3_4; have h_ := c16; simp only [ByteArray.size_append, ByteArray.size_extract] at h_; omega)
             have H' := Aside0.mk H
             clear H; have hcz17_0 : wc.cell? ⟨gb127, 0, none⟩ = some (.int .i64 a0_0) := (blk_cell BK127.out 0).trans rfl; have hcz17_1 : wc.cell? ⟨gb127, 1, none⟩ = some (.int .i64 a0_1) := (blk_cell BK127.out 1).trans rfl; have hcz17_2 : wc.cell? ⟨gb127, 2, none⟩ = some (.string a0_2) := (blk_cell BK127.out 2).trans rfl; have hfz17_0 := blk_frozen BK127.out 0; have hfz17_1 := blk_frozen BK127.out 1; have hfz17_2 := blk_frozen BK127.out 2; go_wp2
             go_roundg kj2
             case measure => have := HK1.out; have := HJ2.out; omega
             case rel => exact ⟨((x3_1 ++ (⟨#[47]⟩ : ByteArray)) ++ (a0_2.extract ((ji12) : Int).toNat ((wrap64 ((wrap64 (x4_1 + 1)) * a0_1)) : Int).toNat)), (wrap64 (x4_1 + 1)), (by first | rfl | (simp; done) | (simp only [← hji12] <;> (first | rfl | simp)) | (simp [*]; done)), z3_5, H', ⟨by have := HK1.out; have := HJ2.out; omega⟩, ⟨z3_6⟩, ⟨z3_2⟩⟩
            ·rw [if_neg c16] at H
             exact absurd H (by simp)
           ·rw [if_neg c15] at H
            exact absurd H (by simp)
          ·rw [if_neg c14] at H
           exact absurd H (by simp)
         ·rw [if_neg c13] at H
          exact absurd H (by simp)
        ·rw [if_neg c11] at H
         exact absurd H (by simp)
       ·rw [if_neg c10] at H
        have c10b0 : decide (0 < x4_1) = false := decide_eq_false c10; clear c10; obtain ⟨ji18, hji18⟩ : ∃ j_ : Int, (wrap64 (x4_1 * a0_1)) = j_ := ⟨_, rfl⟩; replace H : (if 0 ≤ (ji18) then (if (ji18) ≤ (wrap64 ((wrap64 (x4_1 + 1)) * a0_1)) then (if (wrap64 ((wrap64 (x4_1 + 1)) * a0_1)) ≤ (a0_2.size : Int) then (if x3_1.size + (a0_2.extract ((ji18) : Int).toNat ((wrap64 ((wrap64 (x4_1 + 1)) * a0_1)) : Int).toNat).size ≤ 9223372036854775807 then (spec_GridText.l0 kj2 (x3_1 ++ (a0_2.extract ((ji18) : Int).toNat ((wrap64 ((wrap64 (x4_1 + 1)) * a0_1)) : Int).toNat)) (wrap64 (x4_1 + 1)) a0_0 a0_1 a0_2) else (none)) else (none)) else (none)) else (none)) = some r := by first | (rw [hji18] at H; exact H) | (simp only [hji18] at H ⊢; exact H)
        have hji18w : (IntKind.i64.wrap (x4_1 * a0_1)) = ji18 := (i64_w _).trans hji18; by_cases c19 : 0 ≤ (ji18)
        ·rw [if_pos c19] at H
         have c19b0 := eq_true c19; have c19b1 : decide (0 ≤ (ji18)) = true := decide_eq_true c19; clear c19; by_cases c20 : (ji18) ≤ (wrap64 ((wrap64 (x4_1 + 1)) * a0_1))
         ·rw [if_pos c20] at H
          have c20b0 := eq_true c20; have c20b1 : decide ((ji18) ≤ (wrap64 ((wrap64 (x4_1 + 1)) * a0_1))) = true := decide_eq_true c20; by_cases c21 : (wrap64 ((wrap64 (x4_1 + 1)) * a0_1)) ≤ (a0_2.size : Int)
          ·rw [if_pos c21] at H
           have c21b0 := eq_true c21; have c21b1 : decide ((wrap64 ((wrap64 (x4_1 + 1)) * a0_1)) ≤ (a0_2.size : Int)) = true := decide_eq_true c21; by_cases c22 : x3_1.size + (a0_2.extract ((ji18) : Int).toNat ((wrap64 ((wrap64 (x4_1 + 1)) * a0_1)) : Int).toNat).size ≤ 9223372036854775807
           ·rw [if_pos c22] at H
            have c22b0 := eq_true c22; have c22b1 : decide (x3_1.size + (a0_2.extract ((ji18) : Int).toNat ((wrap64 ((wrap64 (x4_1 + 1)) * a0_1)) : Int).toNat).size ≤ 9223372036854775807) = true := decide_eq_true c22; try have c22b2 : (9223372036854775807 < x3_1.size + (a0_2.extract ((ji18) : Int).toNat ((wrap64 ((wrap64 (x4_1 + 1)) * a0_1)) : Int).toNat).size) = False := eq_false (Nat.not_lt.2 c22)
            try have c22b3 : (9223372036854775807 < x3_1.size + ((wrap64 ((wrap64 (x4_1 + 1)) * a0_1)).toNat - ji18.toNat)) = False := eq_false (by have q0_ : (wrap64 ((wrap64 (x4_1 + 1)) * a0_1) : Int) ≤ (a0_2.size : Int) := of_decide_eq_true z3_4; have h_ := c22; simp only [ByteArray.size_append, ByteArray.size_extract] at h_; omega)
            have H' := Aside0.mk H
            clear H; have hcz23_0 : wc.cell? ⟨gb127, 0, none⟩ = some (.int .i64 a0_0) := (blk_cell BK127.out 0).trans rfl; have hcz23_1 : wc.cell? ⟨gb127, 1, none⟩ = some (.int .i64 a0_1) := (blk_cell BK127.out 1).trans rfl; have hcz23_2 : wc.cell? ⟨gb127, 2, none⟩ = some (.string a0_2) := (blk_cell BK127.out 2).trans rfl; have hfz23_0 := blk_frozen BK127.out 0; have hfz23_1 := blk_frozen BK127.out 1; have hfz23_2 := blk_frozen BK127.out 2; go_wp2
            go_roundg kj2
            case measure => have := HK1.out; have := HJ2.out; omega
            case rel => exact ⟨(x3_1 ++ (a0_2.extract ((ji18) : Int).toNat ((wrap64 ((wrap64 (x4_1 + 1)) * a0_1)) : Int).toNat)), (wrap64 (x4_1 + 1)), (by first | rfl | (simp; done) | (simp only [← hji18] <;> (first | rfl | simp)) | (simp [*]; done)), z3_5, H', ⟨by have := HK1.out; have := HJ2.out; omega⟩, ⟨z3_6⟩, ⟨z3_2⟩⟩
           ·rw [if_neg c22] at H
            exact absurd H (by simp)
          ·rw [if_neg c21] at H
           exact absurd H (by simp)
         ·rw [if_neg c20] at H
          exact absurd H (by simp)
        ·rw [if_neg c19] at H
         exact absurd H (by simp)
      ·replace c9 := Bool.eq_false_iff.mpr c9; subst c9; have H1 : (some x3_1) = some r := by rw [if_neg (show ¬ (false = true) by decide)] at H; exact H
       clear H; have H := H1; clear H1; obtain rfl := Option.some.inj H; go_wp2
       go_ret
       exact ⟨by first | rfl | (simp [errW_none, errW_some] <;> rfl) | (simp [*, errW_none, errW_some] <;> rfl), z3_2⟩

/-! ### spec_ParseGrid: function 71 -/
def spec_ParseGrid.l0 : Nat → ByteArray → Int → Int → Int → ByteArray → Option (Int × Int × ByteArray × Bool)
  | 0, _, _, _, _, _ => none
  | k + 1, x0, x5, x131000, x131001, x131002 => if x5 < (x0.size : Int) then (if 0 ≤ x5 then (if (bt x0 x5) = 47 then (if (wrap64 (x131000 + 1)) = 1 then (spec_ParseGrid.l0 k x0 (wrap64 (x5 + 1)) (wrap64 (x131000 + 1)) (wrap64 (x5 + 1)) x131002) else (spec_ParseGrid.l0 k x0 (wrap64 (x5 + 1)) (wrap64 (x131000 + 1)) x131001 x131002)) else (if x5 ≤ (wrap64 (x5 + 1)) then (if (wrap64 (x5 + 1)) ≤ (x0.size : Int) then (if x131002.size + (x0.extract (x5 : Int).toNat ((wrap64 (x5 + 1)) : Int).toNat).size ≤ 9223372036854775807 then (if x131000 = 1 then (spec_ParseGrid.l0 k x0 (wrap64 (x5 + 1)) x131000 (wrap64 (x5 + 1)) (x131002 ++ (x0.extract (x5 : Int).toNat ((wrap64 (x5 + 1)) : Int).toNat))) else (spec_ParseGrid.l0 k x0 (wrap64 (x5 + 1)) x131000 x131001 (x131002 ++ (x0.extract (x5 : Int).toNat ((wrap64 (x5 + 1)) : Int).toNat)))) else (none)) else (none)) else (none))) else (none)) else ((spec_GridText.f k x131000 x131001 x131002).bind fun t131 => (if t131.toList = x0.toList then ((spec_IsGrid.f k x131000 x131001 x131002).bind fun t132 => (if t132 = true then (some (x131000, x131001, x131002, true)) else (some (0, 0, (⟨#[]⟩ : ByteArray), false)))) else (some (0, 0, (⟨#[]⟩ : ByteArray), false))))
def spec_ParseGrid.f (k : Nat) (a0 : ByteArray) : Option (Int × Int × ByteArray × Bool) := spec_ParseGrid.l0 k a0 0 1 0 (⟨#[]⟩ : ByteArray)
theorem spec_ParseGrid.mono_l : ∀ k, (∀ y0 y1 y2 y3 y4, LeO (spec_ParseGrid.l0 k y0 y1 y2 y3 y4) (spec_ParseGrid.l0 (k + 1) y0 y1 y2 y3 y4))
  | 0 => fun _ _ _ _ _ r h => by simp [spec_ParseGrid.l0] at h
  | k + 1 => by
   have ih0 := spec_ParseGrid.mono_l k
   ·intro y0 y1 y2 y3 y4
    unfold spec_ParseGrid.l0
    repeat' first
    | (with_reducible exact ih0 _ _ _ _ _)
    | (with_reducible exact spec_GridText.mono _ _ _ _)
    | (with_reducible exact spec_IsGrid.mono _ _ _ _)
    | (with_reducible exact LeO.refl _)
    | (with_reducible exact LeO.none _)
    | (with_reducible refine LeO.ite ?_ ?_)
    | (with_reducible refine LeO.bind ?_ (fun _ => ?_))
    | exact ih0 _ _ _ _ _
    | exact spec_GridText.mono _ _ _ _
    | exact spec_IsGrid.mono _ _ _ _
    | exact LeO.none _
    | refine LeO.ite ?_ ?_
    | refine LeO.bind ?_ (fun _ => ?_)
theorem spec_ParseGrid.mono : ∀ a0 k, LeO (spec_ParseGrid.f k a0) (spec_ParseGrid.f (k + 1) a0) := by
  intro a0 k
  have ih0 := spec_ParseGrid.mono_l k; unfold spec_ParseGrid.f
  repeat' first
    | (with_reducible exact ih0 _ _ _ _ _)
    | (with_reducible exact spec_GridText.mono _ _ _ _)
    | (with_reducible exact spec_IsGrid.mono _ _ _ _)
    | (with_reducible exact LeO.refl _)
    | (with_reducible exact LeO.none _)
    | (with_reducible refine LeO.ite ?_ ?_)
    | (with_reducible refine LeO.bind ?_ (fun _ => ?_))
    | exact ih0 _ _ _ _ _
    | exact spec_GridText.mono _ _ _ _
    | exact spec_IsGrid.mono _ _ _ _
    | exact LeO.none _
    | refine LeO.ite ?_ ?_
    | refine LeO.bind ?_ (fun _ => ?_)
def spec_ParseGrid.T7 : Bool × List (List Nat × List Nat) := (true, [([], []), ([0], [0]), ([], []), ([], []), ([], []), ([4], [4]), ([2, 3, 5], [2, 3, 5]), ([1, 6], [1, 6]), ([0, 1, 2, 3, 4, 5, 6, 7], []), ([8, 7, 0, 1, 2, 3, 4, 5, 6, 7], [7, 8])])
def spec_ParseGrid.B7 : List Nat := [0, 1, 0, 0, 0, 16, 60, 127, 255, 511]
theorem spec_ParseGrid.tab7 : rtab .any (opsOf Tryd.f71 7) = spec_ParseGrid.T7 := by kernel_rfl
theorem spec_ParseGrid.bits7 : waitsOk spec_ParseGrid.T7.2 spec_ParseGrid.B7 = true := by kernel_rfl
set_option maxHeartbeats 8000000 in
set_option maxRecDepth 100000 in
theorem spec_ParseGrid.calls (k : Nat) (a0 : ByteArray) (r1 : Int) (r2 : Int) (r3 : ByteArray) (r4 : Bool) (w : World) (h : spec_ParseGrid.f k a0 = some (r1, r2, r3, r4)) :
   Calls Tryd.prog 71 #[.string a0] w fun e w' => e = .returned (.tuple #[.agg #[.int .i64 r1, .int .i64 r2, .string r3], .bool r4]) ∧ Below w.heap.size w w' := by
  have hu25 := Tryd.underlying25; have HB := Aside0.mk (Below.refl w.heap.size w); have H : (spec_ParseGrid.l0 k a0 0 1 0 (⟨#[]⟩ : ByteArray)) = some (r1, r2, r3, r4) := h; clear h; have H' := Aside0.mk H
  clear H; go_enter Tryd.func71, Tryd.ntmps71
  go_wp2_with (first | ((with_reducible refine gate_dst (N := 2) rfl ?_); refine box_event ?hg (N := 2) ?hd (cs := #[.int .i64 0, .int .i64 0, .string (⟨#[]⟩ : ByteArray)]) (t := 25) ?hr ?_; (case hd => rfl); (case hg => rfl); (case hr => first | (go_simp; done) | (go_simp; rfl)); intro gb129 hg w2 hbox hb; have n0_ := Aside0.mk (below_step z3_1 hb); have n1_ := Aside0.mk (hbox); have n2_ := Aside0.mk ((by rw [hg]; exact (below_size z3_1) : w.heap.size ≤ gb129)); have n3_ := Aside0.mk ((by rw [hg]; exact (below_size z3_1) : w.heap.size ≤ gb129)); clear HB; have HB := n0_; have BK129 := n1_; have GW129 := n2_; have GE129 := n3_; clear n0_ n1_ n2_ n3_; clear hb hbox hg) | ((with_reducible refine gate_dst (N := 4) rfl ?_); refine box_event ?hg (N := 4) ?hd (cs := #[.int .i64 0, .int .i64 0, .string (⟨#[]⟩ : ByteArray)]) (t := 25) ?hr ?_; (case hd => rfl); (case hg => rfl); (case hr => first | (go_simp; done) | (go_simp; rfl)); intro gb130 hg w3 hbox hb; have n0_ := Aside0.mk (blk_below (g := gb129) (o := .cells #[.int .i64 0, .int .i64 0, .string (⟨#[]⟩ : ByteArray)] 25 (0, 0)) (bd3_ BK129.out) hb); have n1_ := Aside0.mk (below_step (by repeat (first | (with_reducible first | exact HB.out | apply below_alloc | apply pw_below_drewN | apply below_drew1 | refine below_set ?_ GE129.out) | exact HB.out)) hb); have n2_ := Aside0.mk (hbox); have n3_ := Aside0.mk ((by rw [hg]; exact (below_size (by repeat (first | (with_reducible first | exact HB.out | apply below_alloc | apply pw_below_drewN | apply below_drew1 | refine below_set ?_ GE129.out) | exact HB.out))) : w.heap.size ≤ gb130)); have n4_ := Aside0.mk ((by rw [hg]; exact (below_size (by repeat (first | (with_reducible first | exact HB.out | apply below_alloc | apply pw_below_drewN | apply below_drew1 | refine below_set ?_ GE129.out) | exact HB.out))) : w.heap.size ≤ gb130)); have n5_ := Aside0.mk ((by rw [hg]; exact Nat.ne_of_lt (blk_lt (g := gb129) (o := .cells #[.int .i64 0, .int .i64 0, .string (⟨#[]⟩ : ByteArray)] 25 (0, 0)) (bd3_ BK129.out)) : gb129 ≠ gb130)); have n6_ := Aside0.mk ((by rw [hg]; exact Nat.ne_of_gt (blk_lt (g := gb129) (o := .cells #[.int .i64 0, .int .i64 0, .string (⟨#[]⟩ : ByteArray)] 25 (0, 0)) (bd3_ BK129.out)) : gb130 ≠ gb129)); clear BK129; clear HB; have BK129 := n0_; have HB := n1_; have BK130 := n2_; have GW130 := n3_; have GE130 := n4_; have NB129_130 := n5_; have NB130_129 := n6_; clear n0_ n1_ n2_ n3_ n4_ n5_ n6_; clear hb hbox hg; have hnb4 := NB130_129.out; have hnc4 := NB129_130.out; have hcz5_0 : w3.cell? ⟨gb130, 0, none⟩ = some (.int .i64 0) := (blk_cell BK130.out 0).trans rfl; have hcz5_1 : w3.cell? ⟨gb130, 1, none⟩ = some (.int .i64 0) := (blk_cell BK130.out 1).trans rfl; have hcz5_2 : w3.cell? ⟨gb130, 2, none⟩ = some (.string (⟨#[]⟩ : ByteArray)) := (blk_cell BK130.out 2).trans rfl; have hfz5_0 := blk_frozen BK130.out 0; have hfz5_1 := blk_frozen BK130.out 1; have hfz5_2 := blk_frozen BK130.out 2))
  go_loopg [5] k (fun kq v5 w' => ∃ (x5_1 : Int) (x131000_1 : Int) (x131001_1 : Int) (x131002_1 : ByteArray), v5 = .int .i64 x5_1 ∧ Aside0 (spec_ParseGrid.l0 kq a0 x5_1 x131000_1 x131001_1 x131002_1 = some (r1, r2, r3, r4)) ∧ Aside0 (kq ≤ k) ∧ Aside0 (w'.heap[gb129]? = some (.cells #[.int .i64 0, .int .i64 0, .string (⟨#[]⟩ : ByteArray)] 25 (0, 0))) ∧ Aside0 (w'.heap[gb130]? = some (.cells #[.int .i64 x131000_1, .int .i64 x131001_1, .string x131002_1] 25 (0, 0))) ∧ Aside0 (Below w.heap.size w w'))
  case atStart => exact ⟨(0), (1), (0), ((⟨#[]⟩ : ByteArray)), z3_5, H', ⟨Nat.le_refl _⟩, ⟨by (with_reducible repeat (first | refine blk_drewN ?_ _ | refine blk_drew ?_ | refine blk_alloc ?_ _)); refine blk_far ?_ NB129_130.out _; (with_reducible repeat (first | refine blk_drewN ?_ _ | refine blk_drew ?_ | refine blk_alloc ?_ _)); refine blk_far ?_ NB129_130.out _; (with_reducible repeat (first | refine blk_drewN ?_ _ | refine blk_drew ?_ | refine blk_alloc ?_ _)); refine blk_far ?_ NB129_130.out _; (with_reducible repeat (first | refine blk_drewN ?_ _ | refine blk_drew ?_ | refine blk_alloc ?_ _)); exact BK129.out⟩, ⟨by (with_reducible repeat (first | refine blk_drewN ?_ _ | refine blk_drew ?_ | refine blk_alloc ?_ _)); refine blk_put (cs := #[.int .i64 1, .int .i64 0, .string (⟨#[]⟩ : ByteArray)]) ?_ 2 _ rfl; (with_reducible repeat (first | refine blk_drewN ?_ _ | refine blk_drew ?_ | refine blk_alloc ?_ _)); refine blk_put (cs := #[.int .i64 1, .int .i64 0, .string (⟨#[]⟩ : ByteArray)]) ?_ 1 _ rfl; (with_reducible repeat (first | refine blk_drewN ?_ _ | refine blk_drew ?_ | refine blk_alloc ?_ _)); refine blk_put (cs := #[.int .i64 0, .int .i64 0, .string (⟨#[]⟩ : ByteArray)]) ?_ 0 _ rfl; (with_reducible repeat (first | refine blk_drewN ?_ _ | refine blk_drew ?_ | refine blk_alloc ?_ _)); exact BK130.out⟩, ⟨z3_0⟩⟩
  case round =>
   clear H'; try clear p2
   try clear c4
   try clear hcz5_0
   try clear hcz5_1
   try clear hcz5_2
   try clear hfz5_0
   try clear hfz5_1
   try clear hfz5_2
   obtain ⟨x5_1, x131000_1, x131001_1, x131002_1, rfl, HA, HK1, BK129, BK130, HB⟩ := hrel
   cases gk with
   | zero => exact absurd HA.out (by simp [spec_ParseGrid.l0])
   | succ k1 =>
    have H := HA.out; clear HA; simp only [spec_ParseGrid.l0] at H; by_cases c6 : x5_1 < (a0.size : Int)
    ·rw [if_pos c6] at H
     have c6b0 : decide (x5_1 < (a0.size : Int)) = true := decide_eq_true c6; clear c6; by_cases c7 : 0 ≤ x5_1
     ·rw [if_pos c7] at H
      have c7b0 : decide (0 ≤ x5_1) = true := decide_eq_true c7; clear c7; by_cases c9 : (bt a0 x5_1) = 47
      ·rw [if_pos c9] at H
       have c9b0 : ((bt a0 x5_1) == 47) = true := beq_iff_eq.mpr c9; have c9b1 : ((bt a0 x5_1) != 47) = false := bne_eq_false_iff_eq.mpr c9; clear c9; by_cases c10 : (wrap64 (x131000_1 + 1)) = 1
       ·rw [if_pos c10] at H
        have c10b0 : ((wrap64 (x131000_1 + 1)) == 1) = true := beq_iff_eq.mpr c10; have c10b1 : ((wrap64 (x131000_1 + 1)) != 1) = false := bne_eq_false_iff_eq.mpr c10; clear c10; have H' := Aside0.mk H
        clear H; have p8 : 0 ≤ (x5_1 : Int) := of_decide_eq_true z3_4; have q8 : x5_1 < (a0.size : Int) := of_decide_eq_true z3_4; have hx8 := bt_at a0 x5_1; replace p8 := eq_true p8; replace q8 := eq_true q8; have hnb11 := NB130_129.out; have hnc11 := NB129_130.out; have hcz12_0 : wr.cell? ⟨gb130, 0, none⟩ = some (.int .i64 x131000_1) := (blk_cell BK130.out 0).trans rfl; have hcz12_1 : wr.cell? ⟨gb130, 1, none⟩ = some (.int .i64 x131001_1) := (blk_cell BK130.out 1).trans rfl; have hcz12_2 : wr.cell? ⟨gb130, 2, none⟩ = some (.string x131002_1) := (blk_cell BK130.out 2).trans rfl; have hfz12_0 := blk_frozen BK130.out 0; have hfz12_1 := blk_frozen BK130.out 1; have hfz12_2 := blk_frozen BK130.out 2; go_wp2
        go_roundg k1
        case measure => have := HK1.out; omega
        case rel => exact ⟨(wrap64 (x5_1 + 1)), (wrap64 (x131000_1 + 1)), (wrap64 (x5_1 + 1)), (x131002_1), z3_5, H', ⟨by have := HK1.out; omega⟩, ⟨by (with_reducible repeat (first | refine blk_drewN ?_ _ | refine blk_drew ?_ | refine blk_alloc ?_ _)); refine blk_far ?_ NB129_130.out _; (with_reducible repeat (first | refine blk_drewN ?_ _ | refine blk_drew ?_ | refine blk_alloc ?_ _)); refine blk_far ?_ NB129_130.out _; (with_reducible repeat (first | refine blk_drewN ?_ _ | refine blk_drew ?_ | refine blk_alloc ?_ _)); exact BK129.out⟩, ⟨by (with_reducible repeat (first | refine blk_drewN ?_ _ | refine blk_drew ?_ | refine blk_alloc ?_ _)); refine blk_put (cs := #[.int .i64 (wrap64 (x131000_1 + 1)), .int .i64 x131001_1, .string x131002_1]) ?_ 1 _ rfl; (with_reducible repeat (first | refine blk_drewN ?_ _ | refine blk_drew ?_ | refine blk_alloc ?_ _)); refine blk_put (cs := #[.int .i64 x131000_1, .int .i64 x131001_1, .string x131002_1]) ?_ 0 _ rfl; (with_reducible repeat (first | refine blk_drewN ?_ _ | refine blk_drew ?_ | refine blk_alloc ?_ _)); exact BK130.out⟩, ⟨z3_0⟩⟩
       ·rw [if_neg c10] at H
        have c10b0 : ((wrap64 (x131000_1 + 1)) == 1) = false := beq_eq_false_iff_ne.mpr c10; have c10b1 : ((wrap64 (x131000_1 + 1)) != 1) = true := bne_iff_ne.mpr c10; have H' := Aside0.mk H
        clear H; have p8 : 0 ≤ (x5_1 : Int) := of_decide_eq_true z3_4; have q8 : x5_1 < (a0.size : Int) := of_decide_eq_true z3_4; have hx8 := bt_at a0 x5_1; replace p8 := eq_true p8; replace q8 := eq_true q8; have hnb13 := NB130_129.out; have hnc13 := NB129_130.out; have hcz14_0 : wr.cell? ⟨gb130, 0, none⟩ = some (.int .i64 x131000_1) := (blk_cell BK130.out 0).trans rfl; have hcz14_1 : wr.cell? ⟨gb130, 1, none⟩ = some (.int .i64 x131001_1) := (blk_cell BK130.out 1).trans rfl; have hcz14_2 : wr.cell? ⟨gb130, 2, none⟩ = some (.string x131002_1) := (blk_cell BK130.out 2).trans rfl; have hfz14_0 := blk_frozen BK130.out 0; have hfz14_1 := blk_frozen BK130.out 1; have hfz14_2 := blk_frozen BK130.out 2; go_wp2
        go_roundg k1
        case measure => have := HK1.out; omega
        case rel => exact ⟨(wrap64 (x5_1 + 1)), (wrap64 (x131000_1 + 1)), (x131001_1), (x131002_1), z3_5, H', ⟨by have := HK1.out; omega⟩, ⟨by (with_reducible repeat (first | refine blk_drewN ?_ _ | refine blk_drew ?_ | refine blk_alloc ?_ _)); refine blk_far ?_ NB129_130.out _; (with_reducible repeat (first | refine blk_drewN ?_ _ | refine blk_drew ?_ | refine blk_alloc ?_ _)); exact BK129.out⟩, ⟨by (with_reducible repeat (first | refine blk_drewN ?_ _ | refine blk_drew ?_ | refine blk_alloc ?_ _)); refine blk_put (cs := #[.int .i64 x131000_1, .int .i64 x131001_1, .string x131002_1]) ?_ 0 _ rfl; (with_reducible repeat (first | refine blk_drewN ?_ _ | refine blk_drew ?_ | refine blk_alloc ?_ _)); exact BK130.out⟩, ⟨z3_0⟩⟩
      ·rw [if_neg c9] at H
       have c9b0 : ((bt a0 x5_1) == 47) = false := beq_eq_false_iff_ne.mpr c9; have c9b1 : ((bt a0 x5_1) != 47) = true := bne_iff_ne.mpr c9; have c15b0 := eq_true (of_decide_eq_true z3_4 : 0 ≤ x5_1); by_cases c16 : x5_1 ≤ (wrap64 (x5_1 + 1))
       ·rw [if_pos c16] at H
        have c16b0 := eq_true c16; have c16b1 : decide (x5_1 ≤ (wrap64 (x5_1 + 1))) = true := decide_eq_true c16; by_cases c17 : (wrap64 (x5_1 + 1)) ≤ (a0.size : Int)
        ·rw [if_pos c17] at H
         have c17b0 := eq_true c17; have c17b1 : decide ((wrap64 (x5_1 + 1)) ≤ (a0.size : Int)) = true := decide_eq_true c17; by_cases c18 : x131002_1.size + (a0.extract (x5_1 : Int).toNat ((wrap64 (x5_1 + 1)) : Int).toNat).size ≤ 9223372036854775807
         ·rw [if_pos c18] at H
          have c18b0 := eq_true c18; have c18b1 : decide (x131002_1.size + (a0.extract (x5_1 : Int).toNat ((wrap64 (x5_1 + 1)) : Int).toNat).size ≤ 9223372036854775807) = true := decide_eq_true c18; try have c18b2 : (9223372036854775807 < x131002_1.size + (a0.extract (x5_1 : Int).toNat ((wrap64 (x5_1 + 1)) : Int).toNat).size) = False := eq_false (Nat.not_lt.2 c18)
          try have c18b3 : (9223372036854775807 < x131002_1.size + ((wrap64 (x5_1 + 1)).toNat - x5_1.toNat)) = False := eq_false (by have q0_ : (wrap64 (x5_1 + 1) : Int) ≤ (a0.size : Int) := of_decide_eq_true z3_4; have h_ := c18; simp only [ByteArray.size_append, ByteArray.size_extract] at h_; omega)
          by_cases c19 : x131000_1 = 1
          ·rw [if_pos c19] at H
           have c19b0 : (x131000_1 == 1) = true := beq_iff_eq.mpr c19; have c19b1 : (x131000_1 != 1) = false := bne_eq_false_iff_eq.mpr c19; clear c19; have H' := Aside0.mk H
           clear H; have p8 : 0 ≤ (x5_1 : Int) := of_decide_eq_true z3_4; have q8 : x5_1 < (a0.size : Int) := of_decide_eq_true z3_4; have hx8 := bt_at a0 x5_1; replace p8 := eq_true p8; replace q8 := eq_true q8; try go_wp2
           have n0_ := Aside0.mk (blk_drew BK129.out); have n1_ := Aside0.mk (blk_drew BK130.out); have n2_ := Aside0.mk (below_drew1 HB.out); clear BK129; clear BK130; clear HB; have BK129 := n0_; have BK130 := n1_; have HB := n2_; clear n0_ n1_ n2_; refine start_ (n := 10) (S := fun w' => w'.cell? ⟨gb130, 0, none⟩ = some (.int .i64 x131000_1) ∧ w'.cell? ⟨gb130, 1, none⟩ = some (.int .i64 x131001_1) ∧ w'.cell? ⟨gb130, 2, none⟩ = some (.string x131002_1)) (ds := [9]) #[false, false, false, false, false, false, false, false, false, false] (by kernel_rfl) rfl rfl ⟨(blk_cell BK130.out 0).trans rfl, (blk_cell BK130.out 1).trans rfl, (blk_cell BK130.out 2).trans rfl⟩ (fun hHeld => ?_); refine with_tabW spec_ParseGrid.tab7 spec_ParseGrid.bits7 (fun HT_ HW_ => ?_)
           generalize wr.drew = w20 at BK129 BK130 HB hHeld ⊢
           refine pure_ (i := 0) (N := some 21) (v := ?_) (a' := ?_) #[true, false, false, false, false, false, false, false, false, false] rfl rfl (any_of HT_.out (by kernel_rfl)) (fun _ _ _ h => h) (Or.inl ⟨by rfl, ?_⟩) ?_ ?_
           rotate_left
           ·intro w'
            go_simp; with_reducible rfl
           rotate_left
           ·simp only [Act.put, pt3_, i64_w, i32_w]; rfl
           refine pure_ (i := 2) (N := some 23) (v := ?_) (a' := ?_) #[true, false, true, false, false, false, false, false, false, false] rfl rfl (any_of HT_.out (by kernel_rfl)) (fun _ _ _ h => h) (Or.inl ⟨by rfl, ?_⟩) ?_ ?_
           rotate_left
           ·intro w'
            go_simp; with_reducible rfl
           rotate_left
           ·simp only [Act.put, pt3_, i64_w, i32_w]; rfl
           refine pure_ (i := 3) (N := some 24) (v := ?_) (a' := ?_) #[true, false, true, true, false, false, false, false, false, false] rfl rfl (any_of HT_.out (by kernel_rfl)) (fun _ _ _ h => h) (Or.inl ⟨by rfl, ?_⟩) ?_ ?_
           rotate_left
           ·intro w'
            go_simp; with_reducible rfl
           rotate_left
           ·simp only [Act.put, pt3_, i64_w, i32_w]; rfl
           refine pure_ (i := 4) (N := some 25) (v := ?_) (a' := ?_) #[true, false, true, true, true, false, false, false, false, false] rfl rfl (any_of HT_.out (by kernel_rfl)) (fun _ _ _ h => h) (Or.inl ⟨by rfl, ?_⟩) ?_ ?_
           rotate_left
           ·intro w'
            go_simp; with_reducible rfl
           rotate_left
           ·simp only [Act.put, pt3_, i64_w, i32_w]; rfl
           refine pure_ (i := 5) (N := some 26) (v := ?_) (a' := ?_) #[true, false, true, true, true, true, false, false, false, false] rfl rfl (any_of HT_.out (by kernel_rfl)) (fun _ _ _ h => h) (Or.inl ⟨by rfl, ?_⟩) ?_ ?_
           rotate_left
           ·intro w'
            go_simp; with_reducible rfl
           rotate_left
           ·simp only [Act.put, pt3_, i64_w, i32_w]; rfl
           refine pure_ (i := 6) (N := some 27) (v := ?_) (a' := ?_) #[true, false, true, true, true, true, true, false, false, false] rfl rfl (any_of HT_.out (by kernel_rfl)) (fun _ _ _ h => h) (Or.inl ⟨by rfl, ?_⟩) ?_ ?_
           rotate_left
           ·intro w'
            go_simp; with_reducible rfl
           rotate_left
           ·simp only [Act.put, pt3_, i64_w, i32_w]; rfl
           refine take_ (i := 1) (N := some 22) (v := ?_) (a' := ?_) #[true, true, true, true, true, true, true, false, false, false] rfl rfl (take_ofW HT_.out HW_.out (by kernel_rfl)) (fun _ _ _ h => h) (Or.inl ⟨by rfl, ?_⟩) hHeld ?_ ?_
           rotate_left
           ·rintro w' ⟨s0, s1, s2⟩
            go_simp; with_reducible rfl
           rotate_left
           ·simp only [Act.put, pt3_, i64_w, i32_w]; rfl
           refine pure_ (i := 7) (N := some 28) (v := ?_) (a' := ?_) #[true, true, true, true, true, true, true, true, false, false] rfl rfl (any_of HT_.out (by kernel_rfl)) (fun _ _ _ h => h) (Or.inl ⟨by rfl, ?_⟩) ?_ ?_
           rotate_left
           ·intro w'
            go_simp; with_reducible rfl
           rotate_left
           ·simp only [Act.put, pt3_, i64_w, i32_w]; rfl
           refine pure_ (i := 8) (N := some 29) (v := ?_) (a' := ?_) #[true, true, true, true, true, true, true, true, true, false] rfl rfl (any_of HT_.out (by kernel_rfl)) (fun _ _ _ h => h) (Or.inl ⟨by rfl, ?_⟩) ?_ ?_
           rotate_left
           ·intro w'
            go_simp; with_reducible rfl
           rotate_left
           ·simp only [Act.put, pt3_, i64_w, i32_w]; rfl
           refine last_ (i := 9) (N := none) #[true, true, true, true, true, true, true, true, true, true] rfl rfl (one_of HT_.out (by kernel_rfl)) (by decide) (fun K hK => ?_)
           have hs21 : w20.cell? ⟨gb130, 2, none⟩ = some (.string x131002_1) := (blk_cell BK130.out 2).trans rfl; have hfs21 := blk_frozen BK130.out 2; have hns21_0 := NB129_130.out; have hms21_0 := NB130_129.out; refine skip_ (w1 := ?_) (by rfl) rfl ?_ ?_
           rotate_left
           ·go_simp; rfl
           refine hK.out _ _ ?_
           clear hK K; refine done_ (done_of HT_.out (by kernel_rfl)) ?_
           have hnb22 := NB130_129.out; have hnc22 := NB129_130.out; have hcz23_0 : w20.cell? ⟨gb130, 0, none⟩ = some (.int .i64 x131000_1) := (blk_cell BK130.out 0).trans rfl; have hcz23_1 : w20.cell? ⟨gb130, 1, none⟩ = some (.int .i64 x131001_1) := (blk_cell BK130.out 1).trans rfl; have hcz23_2 : w20.cell? ⟨gb130, 2, none⟩ = some (.string x131002_1) := (blk_cell BK130.out 2).trans rfl; have hfz23_0 := blk_frozen BK130.out 0; have hfz23_1 := blk_frozen BK130.out 1; have hfz23_2 := blk_frozen BK130.out 2; try go_wp2
           go_roundg k1
           case measure => have := HK1.out; omega
           case rel => exact ⟨(wrap64 (x5_1 + 1)), (x131000_1), (wrap64 (x5_1 + 1)), (x131002_1 ++ (a0.extract (x5_1 : Int).toNat ((wrap64 (x5_1 + 1)) : Int).toNat)), z3_5, H', ⟨by have := HK1.out; omega⟩, ⟨by (with_reducible repeat (first | refine blk_drewN ?_ _ | refine blk_drew ?_ | refine blk_alloc ?_ _)); refine blk_far ?_ NB129_130.out _; (with_reducible repeat (first | refine blk_drewN ?_ _ | refine blk_drew ?_ | refine blk_alloc ?_ _)); refine blk_far ?_ NB129_130.out _; (with_reducible repeat (first | refine blk_drewN ?_ _ | refine blk_drew ?_ | refine blk_alloc ?_ _)); exact BK129.out⟩, ⟨by (with_reducible repeat (first | refine blk_drewN ?_ _ | refine blk_drew ?_ | refine blk_alloc ?_ _)); refine blk_put (cs := #[.int .i64 x131000_1, .int .i64 x131001_1, .string (x131002_1 ++ (a0.extract (x5_1 : Int).toNat ((wrap64 (x5_1 + 1)) : Int).toNat))]) ?_ 1 _ rfl; (with_reducible repeat (first | refine blk_drewN ?_ _ | refine blk_drew ?_ | refine blk_alloc ?_ _)); refine blk_put (cs := #[.int .i64 x131000_1, .int .i64 x131001_1, .string x131002_1]) ?_ 2 _ rfl; (with_reducible repeat (first | refine blk_drewN ?_ _ | refine blk_drew ?_ | refine blk_alloc ?_ _)); exact BK130.out⟩, ⟨z3_0⟩⟩
          ·rw [if_neg c19] at H
           have c19b0 : (x131000_1 == 1) = false := beq_eq_false_iff_ne.mpr c19; have c19b1 : (x131000_1 != 1) = true := bne_iff_ne.mpr c19; have H' := Aside0.mk H
           clear H; have p8 : 0 ≤ (x5_1 : Int) := of_decide_eq_true z3_4; have q8 : x5_1 < (a0.size : Int) := of_decide_eq_true z3_4; have hx8 := bt_at a0 x5_1; replace p8 := eq_true p8; replace q8 := eq_true q8; try go_wp2
           have n0_ := Aside0.mk (blk_drew BK129.out); have n1_ := Aside0.mk (blk_drew BK130.out); have n2_ := Aside0.mk (below_drew1 HB.out); clear BK129; clear BK130; clear HB; have BK129 := n0_; have BK130 := n1_; have HB := n2_; clear n0_ n1_ n2_; refine start_ (n := 10) (S := fun w' => w'.cell? ⟨gb130, 0, none⟩ = some (.int .i64 x131000_1) ∧ w'.cell? ⟨gb130, 1, none⟩ = some (.int .i64 x131001_1) ∧ w'.cell? ⟨gb130, 2, none⟩ = some (.string x131002_1)) (ds := [9]) #[false, false, false, false, false, false, false, false, false, false] (by kernel_rfl) rfl rfl ⟨(blk_cell BK130.out 0).trans rfl, (blk_cell BK130.out 1).trans rfl, (blk_cell BK130.out 2).trans rfl⟩ (fun hHeld => ?_); refine with_tabW spec_ParseGrid.tab7 spec_ParseGrid.bits7 (fun HT_ HW_ => ?_)
           generalize wr.drew = w24 at BK129 BK130 HB hHeld ⊢
           refine pure_ (i := 0) (N := some 21) (v := ?_) (a' := ?_) #[true, false, false, false, false, false, false, false, false, false] rfl rfl (any_of HT_.out (by kernel_rfl)) (fun _ _ _ h => h) (Or.inl ⟨by rfl, ?_⟩) ?_ ?_
           rotate_left
           ·intro w'
            go_simp; with_reducible rfl
           rotate_left
           ·simp only [Act.put, pt3_, i64_w, i32_w]; rfl
           refine pure_ (i := 2) (N := some 23) (v := ?_) (a' := ?_) #[true, false, true, false, false, false, false, false, false, false] rfl rfl (any_of HT_.out (by kernel_rfl)) (fun _ _ _ h => h) (Or.inl ⟨by rfl, ?_⟩) ?_ ?_
           rotate_left
           ·intro w'
            go_simp; with_reducible rfl
           rotate_left
           ·simp only [Act.put, pt3_, i64_w, i32_w]; rfl
           refine pure_ (i := 3) (N := some 24) (v := ?_) (a' := ?_) #[true, false, true, true, false, false, false, false, false, false] rfl rfl (any_of HT_.out (by kernel_rfl)) (fun _ _ _ h => h) (Or.inl ⟨by rfl, ?_⟩) ?_ ?_
           rotate_left
           ·intro w'
            go_simp; with_reducible rfl
           rotate_left
           ·simp only [Act.put, pt3_, i64_w, i32_w]; rfl
           refine pure_ (i := 4) (N := some 25) (v := ?_) (a' := ?_) #[true, false, true, true, true, false, false, false, false, false] rfl rfl (any_of HT_.out (by kernel_rfl)) (fun _ _ _ h => h) (Or.inl ⟨by rfl, ?_⟩) ?_ ?_
           rotate_left
           ·intro w'
            go_simp; with_reducible rfl
           rotate_left
           ·simp only [Act.put, pt3_, i64_w, i32_w]; rfl
           refine pure_ (i := 5) (N := some 26) (v := ?_) (a' := ?_) #[true, false, true, true, true, true, false, false, false, false] rfl rfl (any_of HT_.out (by kernel_rfl)) (fun _ _ _ h => h) (Or.inl ⟨by rfl, ?_⟩) ?_ ?_
           rotate_left
           ·intro w'
            go_simp; with_reducible rfl
           rotate_left
           ·simp only [Act.put, pt3_, i64_w, i32_w]; rfl
           refine pure_ (i := 6) (N := some 27) (v := ?_) (a' := ?_) #[true, false, true, true, true, true, true, false, false, false] rfl rfl (any_of HT_.out (by kernel_rfl)) (fun _ _ _ h => h) (Or.inl ⟨by rfl, ?_⟩) ?_ ?_
           rotate_left
           ·intro w'
            go_simp; with_reducible rfl
           rotate_left
           ·simp only [Act.put, pt3_, i64_w, i32_w]; rfl
           refine take_ (i := 1) (N := some 22) (v := ?_) (a' := ?_) #[true, true, true, true, true, true, true, false, false, false] rfl rfl (take_ofW HT_.out HW_.out (by kernel_rfl)) (fun _ _ _ h => h) (Or.inl ⟨by rfl, ?_⟩) hHeld ?_ ?_
           rotate_left
           ·rintro w' ⟨s0, s1, s2⟩
            go_simp; with_reducible rfl
           rotate_left
           ·simp only [Act.put, pt3_, i64_w, i32_w]; rfl
           refine pure_ (i := 7) (N := some 28) (v := ?_) (a' := ?_) #[true, true, true, true, true, true, true, true, false, false] rfl rfl (any_of HT_.out (by kernel_rfl)) (fun _ _ _ h => h) (Or.inl ⟨by rfl, ?_⟩) ?_ ?_
           rotate_left
           ·intro w'
            go_simp; with_reducible rfl
           rotate_left
           ·simp only [Act.put, pt3_, i64_w, i32_w]; rfl
           refine pure_ (i := 8) (N := some 29) (v := ?_) (a' := ?_) #[true, true, true, true, true, true, true, true, true, false] rfl rfl (any_of HT_.out (by kernel_rfl)) (fun _ _ _ h => h) (Or.inl ⟨by rfl, ?_⟩) ?_ ?_
           rotate_left
           ·intro w'
            go_simp; with_reducible rfl
           rotate_left
           ·simp only [Act.put, pt3_, i64_w, i32_w]; rfl
           refine last_ (i := 9) (N := none) #[true, true, true, true, true, true, true, true, true, true] rfl rfl (one_of HT_.out (by kernel_rfl)) (by decide) (fun K hK => ?_)
           have hs25 : w24.cell? ⟨gb130, 2, none⟩ = some (.string x131002_1) := (blk_cell BK130.out 2).trans rfl; have hfs25 := blk_frozen BK130.out 2; have hns25_0 := NB129_130.out; have hms25_0 := NB130_129.out; refine skip_ (w1 := ?_) (by rfl) rfl ?_ ?_
           rotate_left
           ·go_simp; rfl
           refine hK.out _ _ ?_
           clear hK K; refine done_ (done_of HT_.out (by kernel_rfl)) ?_
           have hnb26 := NB130_129.out; have hnc26 := NB129_130.out; have hcz27_0 : w24.cell? ⟨gb130, 0, none⟩ = some (.int .i64 x131000_1) := (blk_cell BK130.out 0).trans rfl; have hcz27_1 : w24.cell? ⟨gb130, 1, none⟩ = some (.int .i64 x131001_1) := (blk_cell BK130.out 1).trans rfl; have hcz27_2 : w24.cell? ⟨gb130, 2, none⟩ = some (.string x131002_1) := (blk_cell BK130.out 2).trans rfl; have hfz27_0 := blk_frozen BK130.out 0; have hfz27_1 := blk_frozen BK130.out 1; have hfz27_2 := blk_frozen BK130.out 2; try go_wp2
           go_roundg k1
           case measure => have := HK1.out; omega
           case rel => exact ⟨(wrap64 (x5_1 + 1)), (x131000_1), (x131001_1), (x131002_1 ++ (a0.extract (x5_1 : Int).toNat ((wrap64 (x5_1 + 1)) : Int).toNat)), z3_5, H', ⟨by have := HK1.out; omega⟩, ⟨by (with_reducible repeat (first | refine blk_drewN ?_ _ | refine blk_drew ?_ | refine blk_alloc ?_ _)); refine blk_far ?_ NB129_130.out _; (with_reducible repeat (first | refine blk_drewN ?_ _ | refine blk_drew ?_ | refine blk_alloc ?_ _)); exact BK129.out⟩, ⟨by (with_reducible repeat (first | refine blk_drewN ?_ _ | refine blk_drew ?_ | refine blk_alloc ?_ _)); refine blk_put (cs := #[.int .i64 x131000_1, .int .i64 x131001_1, .string x131002_1]) ?_ 2 _ rfl; (with_reducible repeat (first | refine blk_drewN ?_ _ | refine blk_drew ?_ | refine blk_alloc ?_ _)); exact BK130.out⟩, ⟨z3_0⟩⟩
         ·rw [if_neg c18] at H
          exact absurd H (by simp)
        ·rw [if_neg c17] at H
         exact absurd H (by simp)
       ·rw [if_neg c16] at H
        exact absurd H (by simp)
     ·rw [if_neg c7] at H
      exact absurd H (by simp)
    ·rw [if_neg c6] at H
     have c6b0 : decide (x5_1 < (a0.size : Int)) = false := decide_eq_false c6; clear c6; replace H := Option.bind_eq_some_iff.mp H; obtain ⟨t131, A280, H⟩ := H; replace H : (if t131.toList = a0.toList then ((spec_IsGrid.f k1 x131000_1 x131001_1 x131002_1).bind fun t132 => (if t132 = true then (some (x131000_1, x131001_1, x131002_1, true)) else (some (0, 0, (⟨#[]⟩ : ByteArray), false)))) else (some (0, 0, (⟨#[]⟩ : ByteArray), false))) = some (r1, r2, r3, r4) := H; have A28 := Aside0.mk A280; clear A280; by_cases c29 : t131.toList = a0.toList
     ·rw [if_pos c29] at H
      have c29b0 : (t131.toList == a0.toList) = true := beq_iff_eq.mpr c29; have c29b1 : (t131.toList != a0.toList) = false := bne_eq_false_iff_eq.mpr c29; clear c29; replace H := Option.bind_eq_some_iff.mp H; obtain ⟨t132, A300, H⟩ := H; replace H : (if t132 = true then (some (x131000_1, x131001_1, x131002_1, true)) else (some (0, 0, (⟨#[]⟩ : ByteArray), false))) = some (r1, r2, r3, r4) := H; have A30 := Aside0.mk A300; clear A300; by_cases c31 : t132 = true
      ·subst c31; have H1 : (some (x131000_1, x131001_1, x131002_1, true)) = some (r1, r2, r3, r4) := by rw [if_pos rfl] at H; exact H
       clear H; have H := H1; clear H1; simp only [Option.some.injEq, Prod.mk.injEq] at H; obtain ⟨rfl, rfl, rfl, rfl⟩ := H; have hnb32 := NB130_129.out; have hnc32 := NB129_130.out; have hcz33_0 : wr.cell? ⟨gb130, 0, none⟩ = some (.int .i64 x131000_1) := (blk_cell BK130.out 0).trans rfl; have hcz33_1 : wr.cell? ⟨gb130, 1, none⟩ = some (.int .i64 x131001_1) := (blk_cell BK130.out 1).trans rfl; have hcz33_2 : wr.cell? ⟨gb130, 2, none⟩ = some (.string x131002_1) := (blk_cell BK130.out 2).trans rfl; have hfz33_0 := blk_frozen BK130.out 0; have hfz33_1 := blk_frozen BK130.out 1; have hfz33_2 := blk_frozen BK130.out 2; go_wp2_with (first | ((with_reducible refine gate_callee (f := 81) rfl ?_); refine goesL_ (some 37) rfl rfl Tryd.func81 (by kernel_rfl) rfl #[.agg #[.int .i64 x131000_1, .int .i64 x131001_1, .string x131002_1]] rfl (by (try simp only [List.map_toArray, List.map_cons, List.map_nil]); first | done | rfl | (simp only [List.length_drop, List.length_take]; rfl)) ?_; (with_reducible refine (spec_GridText.calls k1 x131000_1 x131001_1 x131002_1 t131 _ A28.out).mono ?_); rintro e w34 ⟨rfl, hb⟩; refine ⟨_, rfl, ?_⟩; have n0_ := Aside0.mk (blk_below (g := gb129) (o := .cells #[.int .i64 0, .int .i64 0, .string (⟨#[]⟩ : ByteArray)] 25 (0, 0)) (bd3_ BK129.out) hb); have n1_ := Aside0.mk (blk_below (g := gb130) (o := .cells #[.int .i64 x131000_1, .int .i64 x131001_1, .string x131002_1] 25 (0, 0)) (bd3_ BK130.out) hb); have n2_ := Aside0.mk (below_step z3_0 hb); clear BK129; clear BK130; clear HB; have BK129 := n0_; have BK130 := n1_; have HB := n2_; clear n0_ n1_ n2_; (try clear hb); (try clear hb2); (try clear hk); (try clear hi); have hcz35_0 : w34.cell? ⟨gb130, 0, none⟩ = some (.int .i64 x131000_1) := (blk_cell BK130.out 0).trans rfl; have hcz35_1 : w34.cell? ⟨gb130, 1, none⟩ = some (.int .i64 x131001_1) := (blk_cell BK130.out 1).trans rfl; have hcz35_2 : w34.cell? ⟨gb130, 2, none⟩ = some (.string x131002_1) := (blk_cell BK130.out 2).trans rfl; have hfz35_0 := blk_frozen BK130.out 0; have hfz35_1 := blk_frozen BK130.out 1; have hfz35_2 := blk_frozen BK130.out 2) | (go_at_call 61; (with_reducible refine (spec_IsGrid.calls k1 x131000_1 x131001_1 x131002_1 true _ A30.out).mono ?_); rintro e w36 ⟨rfl, hb⟩; have n0_ := Aside0.mk (blk_below (g := gb129) (o := .cells #[.int .i64 0, .int .i64 0, .string (⟨#[]⟩ : ByteArray)] 25 (0, 0)) (bd3_ BK129.out) hb); have n1_ := Aside0.mk (blk_below (g := gb130) (o := .cells #[.int .i64 x131000_1, .int .i64 x131001_1, .string x131002_1] 25 (0, 0)) (bd3_ BK130.out) hb); have n2_ := Aside0.mk (below_step z3_0 hb); clear BK129; clear BK130; clear HB; have BK129 := n0_; have BK130 := n1_; have HB := n2_; clear n0_ n1_ n2_; (try clear hb); (try clear hb2); (try clear hk); (try clear hi); have hcz37_0 : w36.cell? ⟨gb130, 0, none⟩ = some (.int .i64 x131000_1) := (blk_cell BK130.out 0).trans rfl; have hcz37_1 : w36.cell? ⟨gb130, 1, none⟩ = some (.int .i64 x131001_1) := (blk_cell BK130.out 1).trans rfl; have hcz37_2 : w36.cell? ⟨gb130, 2, none⟩ = some (.string x131002_1) := (blk_cell BK130.out 2).trans rfl; have hfz37_0 := blk_frozen BK130.out 0; have hfz37_1 := blk_frozen BK130.out 1; have hfz37_2 := blk_frozen BK130.out 2; have hcz38_0 : w36.cell? ⟨gb129, 0, none⟩ = some (.int .i64 0) := (blk_cell BK129.out 0).trans rfl; have hcz38_1 : w36.cell? ⟨gb129, 1, none⟩ = some (.int .i64 0) := (blk_cell BK129.out 1).trans rfl; have hcz38_2 : w36.cell? ⟨gb129, 2, none⟩ = some (.string (⟨#[]⟩ : ByteArray)) := (blk_cell BK129.out 2).trans rfl; have hfz38_0 := blk_frozen BK129.out 0; have hfz38_1 := blk_frozen BK129.out 1; have hfz38_2 := blk_frozen BK129.out 2))
       refine bodyPost_ret (results_ct rfl _ _ gb129 25 #[.int .i64 x131000_1, .int .i64 x131001_1, .string x131002_1] (0, 0) _ rfl (by (with_reducible repeat (first | refine blk_drewN ?_ _ | refine blk_drew ?_ | refine blk_alloc ?_ _)); refine blk_put (cs := #[.int .i64 x131000_1, .int .i64 x131001_1, .string (⟨#[]⟩ : ByteArray)]) ?_ 2 _ rfl; (with_reducible repeat (first | refine blk_drewN ?_ _ | refine blk_drew ?_ | refine blk_alloc ?_ _)); refine blk_put (cs := #[.int .i64 x131000_1, .int .i64 0, .string (⟨#[]⟩ : ByteArray)]) ?_ 1 _ rfl; (with_reducible repeat (first | refine blk_drewN ?_ _ | refine blk_drew ?_ | refine blk_alloc ?_ _)); refine blk_put (cs := #[.int .i64 0, .int .i64 0, .string (⟨#[]⟩ : ByteArray)]) ?_ 0 _ rfl; (with_reducible repeat (first | refine blk_drewN ?_ _ | refine blk_drew ?_ | refine blk_alloc ?_ _)); exact BK129.out) Tryd.underlying25 rfl (by kernel_rfl)) rfl ?_
       exact ⟨by first | rfl | (simp [errW_none, errW_some] <;> rfl) | (simp [*, errW_none, errW_some] <;> rfl), z3_0⟩
      ·replace c31 := Bool.eq_false_iff.mpr c31; subst c31; have H1 : (some (0, 0, (⟨#[]⟩ : ByteArray), false)) = some (r1, r2, r3, r4) := by rw [if_neg (show ¬ (false = true) by decide)] at H; exact H
       clear H; have H := H1; clear H1; simp only [Option.some.injEq, Prod.mk.injEq] at H; obtain ⟨rfl, rfl, rfl, rfl⟩ := H; have hnb39 := NB130_129.out; have hnc39 := NB129_130.out; have hcz40_0 : wr.cell? ⟨gb130, 0, none⟩ = some (.int .i64 x131000_1) := (blk_cell BK130.out 0).trans rfl; have hcz40_1 : wr.cell? ⟨gb130, 1, none⟩ = some (.int .i64 x131001_1) := (blk_cell BK130.out 1).trans rfl; have hcz40_2 : wr.cell? ⟨gb130, 2, none⟩ = some (.string x131002_1) := (blk_cell BK130.out 2).trans rfl; have hfz40_0 := blk_frozen BK130.out 0; have hfz40_1 := blk_frozen BK130.out 1; have hfz40_2 := blk_frozen BK130.out 2; go_wp2_with (first | ((with_reducible refine gate_callee (f := 81) rfl ?_); refine goesL_ (some 37) rfl rfl Tryd.func81 (by kernel_rfl) rfl #[.agg #[.int .i64 x131000_1, .int .i64 x131001_1, .string x131002_1]] rfl (by (try simp only [List.map_toArray, List.map_cons, List.map_nil]); first | done | rfl | (simp only [List.length_drop, List.length_take]; rfl)) ?_; (with_reducible refine (spec_GridText.calls k1 x131000_1 x131001_1 x131002_1 t131 _ A28.out).mono ?_); rintro e w41 ⟨rfl, hb⟩; refine ⟨_, rfl, ?_⟩; have n0_ := Aside0.mk (blk_below (g := gb129) (o := .cells #[.int .i64 0, .int .i64 0, .string (⟨#[]⟩ : ByteArray)] 25 (0, 0)) (bd3_ BK129.out) hb); have n1_ := Aside0.mk (blk_below (g := gb130) (o := .cells #[.int .i64 x131000_1, .int .i64 x131001_1, .string x131002_1] 25 (0, 0)) (bd3_ BK130.out) hb); have n2_ := Aside0.mk (below_step z3_0 hb); clear BK129; clear BK130; clear HB; have BK129 := n0_; have BK130 := n1_; have HB := n2_; clear n0_ n1_ n2_; (try clear hb); (try clear hb2); (try clear hk); (try clear hi); have hcz42_0 : w41.cell? ⟨gb130, 0, none⟩ = some (.int .i64 x131000_1) := (blk_cell BK130.out 0).trans rfl; have hcz42_1 : w41.cell? ⟨gb130, 1, none⟩ = some (.int .i64 x131001_1) := (blk_cell BK130.out 1).trans rfl; have hcz42_2 : w41.cell? ⟨gb130, 2, none⟩ = some (.string x131002_1) := (blk_cell BK130.out 2).trans rfl; have hfz42_0 := blk_frozen BK130.out 0; have hfz42_1 := blk_frozen BK130.out 1; have hfz42_2 := blk_frozen BK130.out 2) | (go_at_call 61; (with_reducible refine (spec_IsGrid.calls k1 x131000_1 x131001_1 x131002_1 false _ A30.out).mono ?_); rintro e w43 ⟨rfl, hb⟩; have n0_ := Aside0.mk (blk_below (g := gb129) (o := .cells #[.int .i64 0, .int .i64 0, .string (⟨#[]⟩ : ByteArray)] 25 (0, 0)) (bd3_ BK129.out) hb); have n1_ := Aside0.mk (blk_below (g := gb130) (o := .cells #[.int .i64 x131000_1, .int .i64 x131001_1, .string x131002_1] 25 (0, 0)) (bd3_ BK130.out) hb); have n2_ := Aside0.mk (below_step z3_0 hb); clear BK129; clear BK130; clear HB; have BK129 := n0_; have BK130 := n1_; have HB := n2_; clear n0_ n1_ n2_; (try clear hb); (try clear hb2); (try clear hk); (try clear hi); have hcz44_0 : w43.cell? ⟨gb129, 0, none⟩ = some (.int .i64 0) := (blk_cell BK129.out 0).trans rfl; have hcz44_1 : w43.cell? ⟨gb129, 1, none⟩ = some (.int .i64 0) := (blk_cell BK129.out 1).trans rfl; have hcz44_2 : w43.cell? ⟨gb129, 2, none⟩ = some (.string (⟨#[]⟩ : ByteArray)) := (blk_cell BK129.out 2).trans rfl; have hfz44_0 := blk_frozen BK129.out 0; have hfz44_1 := blk_frozen BK129.out 1; have hfz44_2 := blk_frozen BK129.out 2))
       refine bodyPost_ret (results_ct rfl _ _ gb129 25 #[.int .i64 0, .int .i64 0, .string (⟨#[]⟩ : ByteArray)] (0, 0) _ rfl z3_3 Tryd.underlying25 rfl (by kernel_rfl)) rfl ?_
       exact ⟨by first | rfl | (simp [errW_none, errW_some] <;> rfl) | (simp [*, errW_none, errW_some] <;> rfl), z3_0⟩
     ·rw [if_neg c29] at H
      have c29b0 : (t131.toList == a0.toList) = false := beq_eq_false_iff_ne.mpr c29; have c29b1 : (t131.toList != a0.toList) = true := bne_iff_ne.mpr c29; simp only [Option.some.injEq, Prod.mk.injEq] at H; obtain ⟨rfl, rfl, rfl, rfl⟩ := H; have hnb45 := NB130_129.out; have hnc45 := NB129_130.out; have hcz46_0 : wr.cell? ⟨gb130, 0, none⟩ = some (.int .i64 x131000_1) := (blk_cell BK130.out 0).trans rfl; have hcz46_1 : wr.cell? ⟨gb130, 1, none⟩ = some (.int .i64 x131001_1) := (blk_cell BK130.out 1).trans rfl; have hcz46_2 : wr.cell? ⟨gb130, 2, none⟩ = some (.string x131002_1) := (blk_cell BK130.out 2).trans rfl; have hfz46_0 := blk_frozen BK130.out 0; have hfz46_1 := blk_frozen BK130.out 1; have hfz46_2 := blk_frozen BK130.out 2; go_wp2_with (first | ((with_reducible refine gate_callee (f := 81) rfl ?_); refine goesL_ (some 37) rfl rfl Tryd.func81 (by kernel_rfl) rfl #[.agg #[.int .i64 x131000_1, .int .i64 x131001_1, .string x131002_1]] rfl (by (try simp only [List.map_toArray, List.map_cons, List.map_nil]); first | done | rfl | (simp only [List.length_drop, List.length_take]; rfl)) ?_; (with_reducible refine (spec_GridText.calls k1 x131000_1 x131001_1 x131002_1 t131 _ A28.out).mono ?_); rintro e w47 ⟨rfl, hb⟩; refine ⟨_, rfl, ?_⟩; have n0_ := Aside0.mk (blk_below (g := gb129) (o := .cells #[.int .i64 0, .int .i64 0, .string (⟨#[]⟩ : ByteArray)] 25 (0, 0)) (bd3_ BK129.out) hb); have n1_ := Aside0.mk (blk_below (g := gb130) (o := .cells #[.int .i64 x131000_1, .int .i64 x131001_1, .string x131002_1] 25 (0, 0)) (bd3_ BK130.out) hb); have n2_ := Aside0.mk (below_step z3_0 hb); clear BK129; clear BK130; clear HB; have BK129 := n0_; have BK130 := n1_; have HB := n2_; clear n0_ n1_ n2_; (try clear hb); (try clear hb2); (try clear hk); (try clear hi); have hcz48_0 : w47.cell? ⟨gb129, 0, none⟩ = some (.int .i64 0) := (blk_cell BK129.out 0).trans rfl; have hcz48_1 : w47.cell? ⟨gb129, 1, none⟩ = some (.int .i64 0) := (blk_cell BK129.out 1).trans rfl; have hcz48_2 : w47.cell? ⟨gb129, 2, none⟩ = some (.string (⟨#[]⟩ : ByteArray)) := (blk_cell BK129.out 2).trans rfl; have hfz48_0 := blk_frozen BK129.out 0; have hfz48_1 := blk_frozen BK129.out 1; have hfz48_2 := blk_frozen BK129.out 2))
      refine bodyPost_ret (results_ct rfl _ _ gb129 25 #[.int .i64 0, .int .i64 0, .string (⟨#[]⟩ : ByteArray)] (0, 0) _ rfl z3_3 Tryd.underlying25 rfl (by kernel_rfl)) rfl ?_
      exact ⟨by first | rfl | (simp [errW_none, errW_some] <;> rfl) | (simp [*, errW_none, errW_some] <;> rfl), z3_0⟩

/-! ### spec_l7Texts: function 72 -/
def spec_l7Texts.f  : Option (List ByteArray) := some (([(⟨#[46, 46, 46, 47, 46, 46, 46, 47, 46, 46, 46]⟩ : ByteArray), (⟨#[46, 46, 35, 47, 46, 46, 46, 47, 35, 46, 46]⟩ : ByteArray), (⟨#[46, 46, 46, 47, 46, 35, 46, 47, 46, 46, 46]⟩ : ByteArray), (⟨#[46, 46, 46, 46, 47, 46, 46, 46, 46, 47, 46, 46, 46, 46]⟩ : ByteArray), (⟨#[46, 46, 46, 46, 35, 47, 46, 35, 46, 46, 46, 47, 46, 46, 46, 46, 46]⟩ : ByteArray), (⟨#[46, 46, 46, 46, 47, 46, 35, 35, 46, 47, 46, 46, 46, 46]⟩ : ByteArray), (⟨#[46, 46, 46, 46, 46, 35, 47, 46, 35, 46, 35, 46, 46, 47, 46, 46, 46, 46, 46, 46]⟩ : ByteArray), (⟨#[46, 46, 47, 46, 46]⟩ : ByteArray), (⟨#[35, 46, 46, 46, 47, 46, 46, 46, 46, 47, 46, 46, 46, 35]⟩ : ByteArray), (⟨#[46, 46, 46, 47, 35, 35, 35, 47, 46, 46, 46]⟩ : ByteArray)] : List ByteArray))
set_option maxHeartbeats 8000000 in
set_option maxRecDepth 100000 in
theorem spec_l7Texts.calls  (r : List ByteArray) (w : World) (h : spec_l7Texts.f  = some r) :
   Calls Tryd.prog 72 #[] w fun e w' => ∃ v0_ : Value, e = .returned (v0_) ∧ Kd.R Kd.string 9 w' w.heap.size (fun _ => True) v0_ r ∧ Below w.heap.size w w' := by
  have HB := Aside0.mk (Below.refl w.heap.size w); have H : (some (([(⟨#[46, 46, 46, 47, 46, 46, 46, 47, 46, 46, 46]⟩ : ByteArray), (⟨#[46, 46, 35, 47, 46, 46, 46, 47, 35, 46, 46]⟩ : ByteArray), (⟨#[46, 46, 46, 47, 46, 35, 46, 47, 46, 46, 46]⟩ : ByteArray), (⟨#[46, 46, 46, 46, 47, 46, 46, 46, 46, 47, 46, 46, 46, 46]⟩ : ByteArray), (⟨#[46, 46, 46, 46, 35, 47, 46, 35, 46, 46, 46, 47, 46, 46, 46, 46, 46]⟩ : ByteArray), (⟨#[46, 46, 46, 46, 47, 46, 35, 35, 46, 47, 46, 46, 46, 46]⟩ : ByteArray), (⟨#[46, 46, 46, 46, 46, 35, 47, 46, 35, 46, 35, 46, 46, 47, 46, 46, 46, 46, 46, 46]⟩ : ByteArray), (⟨#[46, 46, 47, 46, 46]⟩ : ByteArray), (⟨#[35, 46, 46, 46, 47, 46, 46, 46, 46, 47, 46, 46, 46, 35]⟩ : ByteArray), (⟨#[46, 46, 46, 47, 35, 35, 35, 47, 46, 46, 46]⟩ : ByteArray)] : List ByteArray))) = some r := h; clear h; obtain ⟨y133, hy133⟩ : ∃ y_ : List ByteArray, y_ = (([(⟨#[46, 46, 46, 47, 46, 46, 46, 47, 46, 46, 46]⟩ : ByteArray), (⟨#[46, 46, 35, 47, 46, 46, 46, 47, 35, 46, 46]⟩ : ByteArray), (⟨#[46, 46, 46, 47, 46, 35, 46, 47, 46, 46, 46]⟩ : ByteArray), (⟨#[46, 46, 46, 46, 47, 46, 46, 46, 46, 47, 46, 46, 46, 46]⟩ : ByteArray), (⟨#[46, 46, 46, 46, 35, 47, 46, 35, 46, 46, 46, 47, 46, 46, 46, 46, 46]⟩ : ByteArray), (⟨#[46, 46, 46, 46, 47, 46, 35, 35, 46, 47, 46, 46, 46, 46]⟩ : ByteArray), (⟨#[46, 46, 46, 46, 46, 35, 47, 46, 35, 46, 35, 46, 46, 47, 46, 46, 46, 46, 46, 46]⟩ : ByteArray), (⟨#[46, 46, 47, 46, 46]⟩ : ByteArray), (⟨#[35, 46, 46, 46, 47, 46, 46, 46, 46, 47, 46, 46, 46, 35]⟩ : ByteArray), (⟨#[46, 46, 46, 47, 35, 35, 35, 47, 46, 46, 46]⟩ : ByteArray)] : List ByteArray)) := ⟨_, rfl⟩; replace H : (some y133) = some r := by first | (rw [hy133]; with_reducible exact H) | (have H2_ := (Option.bind_some _ _).symm.trans H; rw [hy133]; with_reducible exact H2_) | (have H2_ := (Option.bind_some _ _).symm.trans H; with_reducible exact H2_) | with_reducible exact H | (rw [hy133]; exact H) | exact H
  have Ny133 := Aside0.mk hy133; clear hy133; obtain rfl := Option.some.inj H; go_enter Tryd.func72, Tryd.ntmps72
  go_wp2_with (first | ((with_reducible refine gate_dst (N := 1) rfl ?_); refine Kd.R_lit Kd.string _ 9 ?hg (N := 1) ?hd (xs := ([(⟨#[46, 46, 46, 47, 46, 46, 46, 47, 46, 46, 46]⟩ : ByteArray), (⟨#[46, 46, 35, 47, 46, 46, 46, 47, 35, 46, 46]⟩ : ByteArray), (⟨#[46, 46, 46, 47, 46, 35, 46, 47, 46, 46, 46]⟩ : ByteArray), (⟨#[46, 46, 46, 46, 47, 46, 46, 46, 46, 47, 46, 46, 46, 46]⟩ : ByteArray), (⟨#[46, 46, 46, 46, 35, 47, 46, 35, 46, 46, 46, 47, 46, 46, 46, 46, 46]⟩ : ByteArray), (⟨#[46, 46, 46, 46, 47, 46, 35, 35, 46, 47, 46, 46, 46, 46]⟩ : ByteArray), (⟨#[46, 46, 46, 46, 46, 35, 47, 46, 35, 46, 35, 46, 46, 47, 46, 46, 46, 46, 46, 46]⟩ : ByteArray), (⟨#[46, 46, 47, 46, 46]⟩ : ByteArray), (⟨#[35, 46, 46, 46, 47, 46, 46, 46, 46, 47, 46, 46, 46, 35]⟩ : ByteArray), (⟨#[46, 46, 46, 47, 35, 35, 35, 47, 46, 46, 46]⟩ : ByteArray)] : List ByteArray)) (inner := [.string (⟨#[46, 46, 46, 47, 46, 46, 46, 47, 46, 46, 46]⟩ : ByteArray), .string (⟨#[46, 46, 35, 47, 46, 46, 46, 47, 35, 46, 46]⟩ : ByteArray), .string (⟨#[46, 46, 46, 47, 46, 35, 46, 47, 46, 46, 46]⟩ : ByteArray), .string (⟨#[46, 46, 46, 46, 47, 46, 46, 46, 46, 47, 46, 46, 46, 46]⟩ : ByteArray), .string (⟨#[46, 46, 46, 46, 35, 47, 46, 35, 46, 46, 46, 47, 46, 46, 46, 46, 46]⟩ : ByteArray), .string (⟨#[46, 46, 46, 46, 47, 46, 35, 35, 46, 47, 46, 46, 46, 46]⟩ : ByteArray), .string (⟨#[46, 46, 46, 46, 46, 35, 47, 46, 35, 46, 35, 46, 46, 47, 46, 46, 46, 46, 46, 46]⟩ : ByteArray), .string (⟨#[46, 46, 47, 46, 46]⟩ : ByteArray), .string (⟨#[35, 46, 46, 46, 47, 46, 46, 46, 46, 47, 46, 46, 46, 35]⟩ : ByteArray), .string (⟨#[46, 46, 46, 47, 35, 35, 35, 47, 46, 46, 46]⟩ : ByteArray)]) (ok := fun _ => True) (okp := fun _ => True) ?hr ?hp (fun _ hk => hk) trivial (Below.refl _ _) (Nat.le_refl _) (by simp) ?_; (case hd => rfl); (case hg => rfl); (case hr => first | (go_simp; done) | (go_simp; rfl)); (case hp => exact (Reps.one (show Kd.M Kd.string _ _ _ (⟨#[46, 46, 46, 47, 46, 46, 46, 47, 46, 46, 46]⟩ : ByteArray) [.string (⟨#[46, 46, 46, 47, 46, 46, 46, 47, 46, 46, 46]⟩ : ByteArray)] from rfl) (Reps.one (show Kd.M Kd.string _ _ _ (⟨#[46, 46, 35, 47, 46, 46, 46, 47, 35, 46, 46]⟩ : ByteArray) [.string (⟨#[46, 46, 35, 47, 46, 46, 46, 47, 35, 46, 46]⟩ : ByteArray)] from rfl) (Reps.one (show Kd.M Kd.string _ _ _ (⟨#[46, 46, 46, 47, 46, 35, 46, 47, 46, 46, 46]⟩ : ByteArray) [.string (⟨#[46, 46, 46, 47, 46, 35, 46, 47, 46, 46, 46]⟩ : ByteArray)] from rfl) (Reps.one (show Kd.M Kd.string _ _ _ (⟨#[46, 46, 46, 46, 47, 46, 46, 46, 46, 47, 46, 46, 46, 46]⟩ : ByteArray) [.string (⟨#[46, 46, 46, 46, 47, 46, 46, 46, 46, 47, 46, 46, 46, 46]⟩ : ByteArray)] from rfl) (Reps.one (show Kd.M Kd.string _ _ _ (⟨#[46, 46, 46, 46, 35, 47, 46, 35, 46, 46, 46, 47, 46, 46, 46, 46, 46]⟩ : ByteArray) [.string (⟨#[46, 46, 46, 46, 35, 47, 46, 35, 46, 46, 46, 47, 46, 46, 46, 46, 46]⟩ : ByteArray)] from rfl) (Reps.one (show Kd.M Kd.string _ _ _ (⟨#[46, 46, 46, 46, 47, 46, 35, 35, 46, 47, 46, 46, 46, 46]⟩ : ByteArray) [.string (⟨#[46, 46, 46, 46, 47, 46, 35, 35, 46, 47, 46, 46, 46, 46]⟩ : ByteArray)] from rfl) (Reps.one (show Kd.M Kd.string _ _ _ (⟨#[46, 46, 46, 46, 46, 35, 47, 46, 35, 46, 35, 46, 46, 47, 46, 46, 46, 46, 46, 46]⟩ : ByteArray) [.string (⟨#[46, 46, 46, 46, 46, 35, 47, 46, 35, 46, 35, 46, 46, 47, 46, 46, 46, 46, 46, 46]⟩ : ByteArray)] from rfl) (Reps.one (show Kd.M Kd.string _ _ _ (⟨#[46, 46, 47, 46, 46]⟩ : ByteArray) [.string (⟨#[46, 46, 47, 46, 46]⟩ : ByteArray)] from rfl) (Reps.one (show Kd.M Kd.string _ _ _ (⟨#[35, 46, 46, 46, 47, 46, 46, 46, 46, 47, 46, 46, 46, 35]⟩ : ByteArray) [.string (⟨#[35, 46, 46, 46, 47, 46, 46, 46, 46, 47, 46, 46, 46, 35]⟩ : ByteArray)] from rfl) (Reps.one (show Kd.M Kd.string _ _ _ (⟨#[46, 46, 46, 47, 35, 35, 35, 47, 46, 46, 46]⟩ : ByteArray) [.string (⟨#[46, 46, 46, 47, 35, 35, 35, 47, 46, 46, 46]⟩ : ByteArray)] from rfl) (Reps.none _ _)))))))))))); intro v134 w1 ho2 hb hg_ hnew_; clear hg_ hnew_; (first | rw [← Ny133.out] at ho2 | (simp only [Int.reduceToNat] at ho2; rw [← Ny133.out] at ho2)); have n0_ := Aside0.mk (Kd.R_lower ho2 (below_size z3_1)); have n1_ := Aside0.mk (below_step z3_1 hb); clear HB; have HO135 := n0_; have HB := n1_; clear n0_ n1_; clear hb ho2))
  go_ret
  exact ⟨_, by first | rfl | (simp [errW_none, errW_some] <;> rfl) | (simp [*, errW_none, errW_some] <;> rfl), by (with_reducible repeat (first | apply Kd.R_alloc | apply Kd.R_drewN | apply Kd.R_drew)); exact HO135.out, z3_1⟩

end Go.Proofs.YtodcckiphdnjeabDoor.QFnFills
