-- Written by a changed copy of the kit's printer (wip/mp.py of this repo), for this claim; Lean checks it.
import Derived.Test.YtodcckiphdnjeabQFnCrossingsx0
import Derived.Test.YtodcckiphdnjeabQFnCrossingsx2
import Derived.Test.YtodcckiphdnjeabQFnCrossingsx4
import Derived.Test.YtodcckiphdnjeabQFnCrossingsx5
import Derived.Test.YtodcckiphdnjeabQFnCrossingsx6
import Derived.Test.YtodcckiphdnjeabQFnCrossingsx7
import Derived.Test.YtodcckiphdnjeabQFnCrossingsx8
namespace Go.Proofs.Ytodcckiphdnjeab.QFnCrossings
open Go.RowKit Go.Proofs.YtodcckiphdnjeabW.PrintWords Go.Proofs.YtodcckiphdnjeabW.PrintLast Go.Proofs.YtodcckiphdnjeabW.PrintMore
attribute [local go_sem] max2_int min2_int max_two min_two max_three min_three max_four min_four   -- for this text's walks alone
set_option linter.unusedVariables false
set_option linter.unusedSimpArgs false

/-! ### impl_IsWhite: function 80 -/
def impl_IsWhite.f (k : Nat) (a0_0 : Int) (a0_1 : Int) (a0_2 : ByteArray) (a1 : Int) : Option (Bool) := (impl_IsGrid.f k a0_0 a0_1 a0_2).bind fun t294 => (if t294 = true then ((impl_at.f a1 (a0_2.size : Int)).bind fun t295 => (if t295 = true then (if 0 ≤ a1 then (if a1 < (a0_2.size : Int) then (some ((bt a0_2 a1) == 46)) else (none)) else (none)) else (some false))) else (some false))
theorem impl_IsWhite.mono : ∀ a0 a1 a2 a3 k, LeO (impl_IsWhite.f k a0 a1 a2 a3) (impl_IsWhite.f (k + 1) a0 a1 a2 a3) := by
  intro a0 a1 a2 a3 k
  unfold impl_IsWhite.f
  repeat' first
    | (with_reducible exact impl_IsGrid.mono _ _ _ _)
    | (with_reducible exact LeO.refl _)
    | (with_reducible exact LeO.none _)
    | (with_reducible refine LeO.ite ?_ ?_)
    | (with_reducible refine LeO.bind ?_ (fun _ => ?_))
    | exact impl_IsGrid.mono _ _ _ _
    | exact LeO.none _
    | refine LeO.ite ?_ ?_
    | refine LeO.bind ?_ (fun _ => ?_)
set_option maxHeartbeats 8000000 in
set_option maxRecDepth 100000 in
theorem impl_IsWhite.calls (k : Nat) (a0_0 : Int) (a0_1 : Int) (a0_2 : ByteArray) (a1 : Int) (r : Bool) (w : World) (h : impl_IsWhite.f k a0_0 a0_1 a0_2 a1 = some r) :
   Calls Try.prog 80 #[.agg #[.int .i64 a0_0, .int .i64 a0_1, .string a0_2], .int .i64 a1] w fun e w' => e = .returned (.bool r) ∧ Below w.heap.size w w' := by
  have hu48 := Try.underlying48
  have HB := Aside0.mk (Below.refl w.heap.size w)
  have H : ((impl_IsGrid.f k a0_0 a0_1 a0_2).bind fun t294 => (if t294 = true then ((impl_at.f a1 (a0_2.size : Int)).bind fun t295 => (if t295 = true then (if 0 ≤ a1 then (if a1 < (a0_2.size : Int) then (some ((bt a0_2 a1) == 46)) else (none)) else (none)) else (some false))) else (some false))) = some r := h
  clear h
  replace H := Option.bind_eq_some_iff.mp H
  obtain ⟨t294, A30, H⟩ := H
  replace H : (if t294 = true then ((impl_at.f a1 (a0_2.size : Int)).bind fun t295 => (if t295 = true then (if 0 ≤ a1 then (if a1 < (a0_2.size : Int) then (some ((bt a0_2 a1) == 46)) else (none)) else (none)) else (some false))) else (some false)) = some r := H
  have A3 := Aside0.mk A30
  clear A30
  by_cases c4 : t294 = true
  ·subst c4
   have H1 : ((impl_at.f a1 (a0_2.size : Int)).bind fun t295 => (if t295 = true then (if 0 ≤ a1 then (if a1 < (a0_2.size : Int) then (some ((bt a0_2 a1) == 46)) else (none)) else (none)) else (some false))) = some r := by rw [if_pos rfl] at H; exact H
   clear H
   have H := H1
   clear H1
   replace H := Option.bind_eq_some_iff.mp H
   obtain ⟨t295, A50, H⟩ := H
   replace H : (if t295 = true then (if 0 ≤ a1 then (if a1 < (a0_2.size : Int) then (some ((bt a0_2 a1) == 46)) else (none)) else (none)) else (some false)) = some r := H
   have A5 := Aside0.mk A50
   clear A50
   by_cases c6 : t295 = true
   ·subst c6
    have H1 : (if 0 ≤ a1 then (if a1 < (a0_2.size : Int) then (some ((bt a0_2 a1) == 46)) else (none)) else (none)) = some r := by rw [if_pos rfl] at H; exact H
    clear H
    have H := H1
    clear H1
    by_cases c7 : 0 ≤ a1
    ·rw [if_pos c7] at H
     have c7b0 : decide (0 ≤ a1) = true := decide_eq_true c7
     clear c7
     by_cases c8 : a1 < (a0_2.size : Int)
     ·rw [if_pos c8] at H
      have c8b0 : decide (a1 < (a0_2.size : Int)) = true := decide_eq_true c8
      clear c8
      obtain rfl := Option.some.inj H
      go_enter Try.func80, Try.ntmps80
      go_wp2_with (first | ((with_reducible refine gate_dst (N := 2) rfl ?_); (try (refine gate_guard (by rfl) ?_; dsimp only)); refine box_event ?hg (N := 2) ?hd (cs := #[.int .i64 a0_0, .int .i64 a0_1, .string a0_2]) (t := 48) ?hr ?_; (case hd => rfl); (case hg => rfl); (case hr => first | (go_simp; done) | (go_simp; rfl)); intro gb293 hg w10 hbox hb; have n0_ := Aside0.mk (below_step (by repeat (first | (with_reducible first | exact HB.out | apply below_alloc | apply pw_below_drewN | apply below_drew1) | exact HB.out)) hb); have n1_ := Aside0.mk (hbox); have n2_ := Aside0.mk ((by rw [hg]; exact (below_size (by repeat (first | (with_reducible first | exact HB.out | apply below_alloc | apply pw_below_drewN | apply below_drew1) | exact HB.out))) : w.heap.size ≤ gb293)); have n3_ := Aside0.mk ((by rw [hg]; exact (below_size (by repeat (first | (with_reducible first | exact HB.out | apply below_alloc | apply pw_below_drewN | apply below_drew1) | exact HB.out))) : w.heap.size ≤ gb293)); clear HB; have HB := n0_; have BK293 := n1_; have GW293 := n2_; have GE293 := n3_; clear n0_ n1_ n2_ n3_; clear hb hbox hg; have hcz11_0 : w10.cell? ⟨gb293, 0, none⟩ = some (.int .i64 a0_0) := (blk_cell BK293.out 0).trans rfl; have hcz11_1 : w10.cell? ⟨gb293, 1, none⟩ = some (.int .i64 a0_1) := (blk_cell BK293.out 1).trans rfl; have hcz11_2 : w10.cell? ⟨gb293, 2, none⟩ = some (.string a0_2) := (blk_cell BK293.out 2).trans rfl; have hfz11_0 := blk_frozen BK293.out 0; have hfz11_1 := blk_frozen BK293.out 1; have hfz11_2 := blk_frozen BK293.out 2) | ((with_reducible refine gate_callee (f := 45) rfl ?_); refine goesL_ (some 6) rfl rfl Try.func45 (by kernel_rfl) rfl #[.agg #[.int .i64 a0_0, .int .i64 a0_1, .string a0_2]] rfl (by (try simp only [List.map_toArray, List.map_cons, List.map_nil]); first | done | rfl | (simp only [List.length_drop, List.length_take]; rfl)) ?_; (with_reducible refine (impl_IsGrid.calls k a0_0 a0_1 a0_2 true _ A3.out).mono ?_); rintro e w12 ⟨rfl, hb⟩; refine ⟨_, rfl, ?_⟩; have n0_ := Aside0.mk (blk_below (g := gb293) (o := .cells #[.int .i64 a0_0, .int .i64 a0_1, .string a0_2] 48 (0, 0)) (by (with_reducible repeat (first | refine blk_drewN ?_ _ | refine blk_drew ?_ | refine blk_alloc ?_ _)); exact BK293.out) hb); have n1_ := Aside0.mk (below_step (by repeat (first | (with_reducible first | exact HB.out | apply below_alloc | apply pw_below_drewN | apply below_drew1 | refine below_set ?_ GE293.out) | exact HB.out)) hb); clear BK293; clear HB; have BK293 := n0_; have HB := n1_; clear n0_ n1_; (try clear hb); (try clear hb2); (try clear hk); (try clear hi); have hcz13_0 : w12.cell? ⟨gb293, 0, none⟩ = some (.int .i64 a0_0) := (blk_cell BK293.out 0).trans rfl; have hcz13_1 : w12.cell? ⟨gb293, 1, none⟩ = some (.int .i64 a0_1) := (blk_cell BK293.out 1).trans rfl; have hcz13_2 : w12.cell? ⟨gb293, 2, none⟩ = some (.string a0_2) := (blk_cell BK293.out 2).trans rfl; have hfz13_0 := blk_frozen BK293.out 0; have hfz13_1 := blk_frozen BK293.out 1; have hfz13_2 := blk_frozen BK293.out 2) | (go_at_call 54; (with_reducible refine (impl_at.calls a1 (a0_2.size : Int) true _ A5.out).mono ?_); rintro e w' ⟨rfl, ⟨nd, rfl⟩⟩; have p9 : 0 ≤ (a1 : Int) := of_decide_eq_true (by first | (with_reducible assumption) | assumption); have q9 : a1 < (a0_2.size : Int) := of_decide_eq_true (by first | (with_reducible assumption) | assumption); have hx9 := bt_at a0_2 a1; replace p9 := eq_true p9; replace q9 := eq_true q9))
      go_ret
      exact ⟨by first | rfl | (simp [errW_none, errW_some] <;> rfl) | (simp [*, errW_none, errW_some] <;> rfl), by repeat (first | (with_reducible first | exact HB.out | apply below_alloc | apply pw_below_drewN | apply below_drew1 | refine below_set ?_ GE293.out) | exact HB.out)⟩
     ·rw [if_neg c8] at H
      exact absurd H (by simp)
    ·rw [if_neg c7] at H
     exact absurd H (by simp)
   ·replace c6 := Bool.eq_false_iff.mpr c6
    subst c6
    have H1 : (some false) = some r := by rw [if_neg (show ¬ (false = true) by decide)] at H; exact H
    clear H
    have H := H1
    clear H1
    obtain rfl := Option.some.inj H
    go_enter Try.func80, Try.ntmps80
    go_wp2_with (first | ((with_reducible refine gate_dst (N := 2) rfl ?_); (try (refine gate_guard (by rfl) ?_; dsimp only)); refine box_event ?hg (N := 2) ?hd (cs := #[.int .i64 a0_0, .int .i64 a0_1, .string a0_2]) (t := 48) ?hr ?_; (case hd => rfl); (case hg => rfl); (case hr => first | (go_simp; done) | (go_simp; rfl)); intro gb293 hg w14 hbox hb; have n0_ := Aside0.mk (below_step (by repeat (first | (with_reducible first | exact HB.out | apply below_alloc | apply pw_below_drewN | apply below_drew1) | exact HB.out)) hb); have n1_ := Aside0.mk (hbox); have n2_ := Aside0.mk ((by rw [hg]; exact (below_size (by repeat (first | (with_reducible first | exact HB.out | apply below_alloc | apply pw_below_drewN | apply below_drew1) | exact HB.out))) : w.heap.size ≤ gb293)); have n3_ := Aside0.mk ((by rw [hg]; exact (below_size (by repeat (first | (with_reducible first | exact HB.out | apply below_alloc | apply pw_below_drewN | apply below_drew1) | exact HB.out))) : w.heap.size ≤ gb293)); clear HB; have HB := n0_; have BK293 := n1_; have GW293 := n2_; have GE293 := n3_; clear n0_ n1_ n2_ n3_; clear hb hbox hg; have hcz15_0 : w14.cell? ⟨gb293, 0, none⟩ = some (.int .i64 a0_0) := (blk_cell BK293.out 0).trans rfl; have hcz15_1 : w14.cell? ⟨gb293, 1, none⟩ = some (.int .i64 a0_1) := (blk_cell BK293.out 1).trans rfl; have hcz15_2 : w14.cell? ⟨gb293, 2, none⟩ = some (.string a0_2) := (blk_cell BK293.out 2).trans rfl; have hfz15_0 := blk_frozen BK293.out 0; have hfz15_1 := blk_frozen BK293.out 1; have hfz15_2 := blk_frozen BK293.out 2) | ((with_reducible refine gate_callee (f := 45) rfl ?_); refine goesL_ (some 6) rfl rfl Try.func45 (by kernel_rfl) rfl #[.agg #[.int .i64 a0_0, .int .i64 a0_1, .string a0_2]] rfl (by (try simp only [List.map_toArray, List.map_cons, List.map_nil]); first | done | rfl | (simp only [List.length_drop, List.length_take]; rfl)) ?_; (with_reducible refine (impl_IsGrid.calls k a0_0 a0_1 a0_2 true _ A3.out).mono ?_); rintro e w16 ⟨rfl, hb⟩; refine ⟨_, rfl, ?_⟩; have n0_ := Aside0.mk (blk_below (g := gb293) (o := .cells #[.int .i64 a0_0, .int .i64 a0_1, .string a0_2] 48 (0, 0)) (by (with_reducible repeat (first | refine blk_drewN ?_ _ | refine blk_drew ?_ | refine blk_alloc ?_ _)); exact BK293.out) hb); have n1_ := Aside0.mk (below_step (by repeat (first | (with_reducible first | exact HB.out | apply below_alloc | apply pw_below_drewN | apply below_drew1 | refine below_set ?_ GE293.out) | exact HB.out)) hb); clear BK293; clear HB; have BK293 := n0_; have HB := n1_; clear n0_ n1_; (try clear hb); (try clear hb2); (try clear hk); (try clear hi); have hcz17_0 : w16.cell? ⟨gb293, 0, none⟩ = some (.int .i64 a0_0) := (blk_cell BK293.out 0).trans rfl; have hcz17_1 : w16.cell? ⟨gb293, 1, none⟩ = some (.int .i64 a0_1) := (blk_cell BK293.out 1).trans rfl; have hcz17_2 : w16.cell? ⟨gb293, 2, none⟩ = some (.string a0_2) := (blk_cell BK293.out 2).trans rfl; have hfz17_0 := blk_frozen BK293.out 0; have hfz17_1 := blk_frozen BK293.out 1; have hfz17_2 := blk_frozen BK293.out 2) | (go_at_call 54; (with_reducible refine (impl_at.calls a1 (a0_2.size : Int) false _ A5.out).mono ?_); rintro e w' ⟨rfl, ⟨nd, rfl⟩⟩))
    go_ret
    exact ⟨by first | rfl | (simp [errW_none, errW_some] <;> rfl) | (simp [*, errW_none, errW_some] <;> rfl), by repeat (first | (with_reducible first | exact HB.out | apply below_alloc | apply pw_below_drewN | apply below_drew1 | refine below_set ?_ GE293.out) | exact HB.out)⟩
  ·replace c4 := Bool.eq_false_iff.mpr c4
   subst c4
   have H1 : (some false) = some r := by rw [if_neg (show ¬ (false = true) by decide)] at H; exact H
   clear H
   have H := H1
   clear H1
   obtain rfl := Option.some.inj H
   go_enter Try.func80, Try.ntmps80
   go_wp2_with (first | ((with_reducible refine gate_dst (N := 2) rfl ?_); (try (refine gate_guard (by rfl) ?_; dsimp only)); refine box_event ?hg (N := 2) ?hd (cs := #[.int .i64 a0_0, .int .i64 a0_1, .string a0_2]) (t := 48) ?hr ?_; (case hd => rfl); (case hg => rfl); (case hr => first | (go_simp; done) | (go_simp; rfl)); intro gb293 hg w18 hbox hb; have n0_ := Aside0.mk (below_step (by repeat (first | (with_reducible first | exact HB.out | apply below_alloc | apply pw_below_drewN | apply below_drew1) | exact HB.out)) hb); have n1_ := Aside0.mk (hbox); have n2_ := Aside0.mk ((by rw [hg]; exact (below_size (by repeat (first | (with_reducible first | exact HB.out | apply below_alloc | apply pw_below_drewN | apply below_drew1) | exact HB.out))) : w.heap.size ≤ gb293)); have n3_ := Aside0.mk ((by rw [hg]; exact (below_size (by repeat (first | (with_reducible first | exact HB.out | apply below_alloc | apply pw_below_drewN | apply below_drew1) | exact HB.out))) : w.heap.size ≤ gb293)); clear HB; have HB := n0_; have BK293 := n1_; have GW293 := n2_; have GE293 := n3_; clear n0_ n1_ n2_ n3_; clear hb hbox hg; have hcz19_0 : w18.cell? ⟨gb293, 0, none⟩ = some (.int .i64 a0_0) := (blk_cell BK293.out 0).trans rfl; have hcz19_1 : w18.cell? ⟨gb293, 1, none⟩ = some (.int .i64 a0_1) := (blk_cell BK293.out 1).trans rfl; have hcz19_2 : w18.cell? ⟨gb293, 2, none⟩ = some (.string a0_2) := (blk_cell BK293.out 2).trans rfl; have hfz19_0 := blk_frozen BK293.out 0; have hfz19_1 := blk_frozen BK293.out 1; have hfz19_2 := blk_frozen BK293.out 2) | ((with_reducible refine gate_callee (f := 45) rfl ?_); refine goesL_ (some 6) rfl rfl Try.func45 (by kernel_rfl) rfl #[.agg #[.int .i64 a0_0, .int .i64 a0_1, .string a0_2]] rfl (by (try simp only [List.map_toArray, List.map_cons, List.map_nil]); first | done | rfl | (simp only [List.length_drop, List.length_take]; rfl)) ?_; (with_reducible refine (impl_IsGrid.calls k a0_0 a0_1 a0_2 false _ A3.out).mono ?_); rintro e w20 ⟨rfl, hb⟩; refine ⟨_, rfl, ?_⟩; have n0_ := Aside0.mk (blk_below (g := gb293) (o := .cells #[.int .i64 a0_0, .int .i64 a0_1, .string a0_2] 48 (0, 0)) (by (with_reducible repeat (first | refine blk_drewN ?_ _ | refine blk_drew ?_ | refine blk_alloc ?_ _)); exact BK293.out) hb); have n1_ := Aside0.mk (below_step (by repeat (first | (with_reducible first | exact HB.out | apply below_alloc | apply pw_below_drewN | apply below_drew1 | refine below_set ?_ GE293.out) | exact HB.out)) hb); clear BK293; clear HB; have BK293 := n0_; have HB := n1_; clear n0_ n1_; (try clear hb); (try clear hb2); (try clear hk); (try clear hi)))
   go_ret
   exact ⟨by first | rfl | (simp [errW_none, errW_some] <;> rfl) | (simp [*, errW_none, errW_some] <;> rfl), by repeat (first | (with_reducible first | exact HB.out | apply below_alloc | apply pw_below_drewN | apply below_drew1 | refine below_set ?_ GE293.out) | exact HB.out)⟩

/-! ### impl_CheckedShare: function 38 -/
def impl_CheckedShare.l0 : Nat → Int → Int → Int → Int → Int → Int → ByteArray → Option (Int × Int)
  | 0, _, _, _, _, _, _, _ => none
  | k + 1, x4, x5, x9, x10, x297000, x297001, x297002 => if x10 < x9 then ((impl_IsWhite.f k x297000 x297001 x297002 x10).bind fun t297 => (if t297 = true then ((impl_IsChecked.f k x297000 x297001 x297002 x10).bind fun t298 => (if t298 = true then (impl_CheckedShare.l0 k (wrap64 (x4 + 1)) (wrap64 (x5 + 1)) x9 (wrap64 (x10 + 1)) x297000 x297001 x297002) else (impl_CheckedShare.l0 k x4 (wrap64 (x5 + 1)) x9 (wrap64 (x10 + 1)) x297000 x297001 x297002))) else (impl_CheckedShare.l0 k x4 x5 x9 (wrap64 (x10 + 1)) x297000 x297001 x297002))) else (some (x4, x5))
def impl_CheckedShare.f (k : Nat) (a0_0 : Int) (a0_1 : Int) (a0_2 : ByteArray) : Option (Int × Int) := impl_CheckedShare.l0 k 0 0 (a0_2.size : Int) 0 a0_0 a0_1 a0_2
theorem impl_CheckedShare.mono_l : ∀ k, (∀ y0 y1 y2 y3 y4 y5 y6, LeO (impl_CheckedShare.l0 k y0 y1 y2 y3 y4 y5 y6) (impl_CheckedShare.l0 (k + 1) y0 y1 y2 y3 y4 y5 y6))
  | 0 => fun _ _ _ _ _ _ _ r h => by simp [impl_CheckedShare.l0] at h
  | k + 1 => by
   have ih0 := impl_CheckedShare.mono_l k
   ·intro y0 y1 y2 y3 y4 y5 y6
    unfold impl_CheckedShare.l0
    repeat' first
    | (with_reducible exact ih0 _ _ _ _ _ _ _)
    | (with_reducible exact impl_IsChecked.mono _ _ _ _ _)
    | (with_reducible exact impl_IsWhite.mono _ _ _ _ _)
    | (with_reducible exact LeO.refl _)
    | (with_reducible exact LeO.none _)
    | (with_reducible refine LeO.ite ?_ ?_)
    | (with_reducible refine LeO.bind ?_ (fun _ => ?_))
    | exact ih0 _ _ _ _ _ _ _
    | exact impl_IsChecked.mono _ _ _ _ _
    | exact impl_IsWhite.mono _ _ _ _ _
    | exact LeO.none _
    | refine LeO.ite ?_ ?_
    | refine LeO.bind ?_ (fun _ => ?_)
theorem impl_CheckedShare.mono : ∀ a0 a1 a2 k, LeO (impl_CheckedShare.f k a0 a1 a2) (impl_CheckedShare.f (k + 1) a0 a1 a2) := by
  intro a0 a1 a2 k
  have ih0 := impl_CheckedShare.mono_l k
  unfold impl_CheckedShare.f
  repeat' first
    | (with_reducible exact ih0 _ _ _ _ _ _ _)
    | (with_reducible exact impl_IsChecked.mono _ _ _ _ _)
    | (with_reducible exact impl_IsWhite.mono _ _ _ _ _)
    | (with_reducible exact LeO.refl _)
    | (with_reducible exact LeO.none _)
    | (with_reducible refine LeO.ite ?_ ?_)
    | (with_reducible refine LeO.bind ?_ (fun _ => ?_))
    | exact ih0 _ _ _ _ _ _ _
    | exact impl_IsChecked.mono _ _ _ _ _
    | exact impl_IsWhite.mono _ _ _ _ _
    | exact LeO.none _
    | refine LeO.ite ?_ ?_
    | refine LeO.bind ?_ (fun _ => ?_)
set_option maxHeartbeats 8000000 in
set_option maxRecDepth 100000 in
theorem impl_CheckedShare.calls (k : Nat) (a0_0 : Int) (a0_1 : Int) (a0_2 : ByteArray) (r1 : Int) (r2 : Int) (w : World) (h : impl_CheckedShare.f k a0_0 a0_1 a0_2 = some (r1, r2)) :
   Calls Try.prog 38 #[.agg #[.int .i64 a0_0, .int .i64 a0_1, .string a0_2]] w fun e w' => e = .returned (.tuple #[.int .i64 r1, .int .i64 r2]) ∧ Below w.heap.size w w' := by
  have hu48 := Try.underlying48
  have HB := Aside0.mk (Below.refl w.heap.size w)
  have H : (impl_CheckedShare.l0 k 0 0 (a0_2.size : Int) 0 a0_0 a0_1 a0_2) = some (r1, r2) := h
  clear h
  have H' := Aside0.mk H
  clear H
  go_enter Try.func38, Try.ntmps38
  go_wp2_with (first | ((with_reducible refine gate_dst (N := 1) rfl ?_); refine box_event ?hg (N := 1) ?hd (cs := #[.int .i64 a0_0, .int .i64 a0_1, .string a0_2]) (t := 48) ?hr ?_; (case hd => rfl); (case hg => rfl); (case hr => first | (go_simp; done) | (go_simp; rfl)); intro gb296 hg w2 hbox hb; have n0_ := Aside0.mk (below_step (by repeat (first | (with_reducible first | exact HB.out | apply below_alloc | apply pw_below_drewN | apply below_drew1) | exact HB.out)) hb); have n1_ := Aside0.mk (hbox); have n2_ := Aside0.mk ((by rw [hg]; exact (below_size (by repeat (first | (with_reducible first | exact HB.out | apply below_alloc | apply pw_below_drewN | apply below_drew1) | exact HB.out))) : w.heap.size ≤ gb296)); have n3_ := Aside0.mk ((by rw [hg]; exact (below_size (by repeat (first | (with_reducible first | exact HB.out | apply below_alloc | apply pw_below_drewN | apply below_drew1) | exact HB.out))) : w.heap.size ≤ gb296)); clear HB; have HB := n0_; have BK296 := n1_; have GW296 := n2_; have GE296 := n3_; clear n0_ n1_ n2_ n3_; clear hb hbox hg; have hcz3_0 : w2.cell? ⟨gb296, 0, none⟩ = some (.int .i64 a0_0) := (blk_cell BK296.out 0).trans rfl; have hcz3_1 : w2.cell? ⟨gb296, 1, none⟩ = some (.int .i64 a0_1) := (blk_cell BK296.out 1).trans rfl; have hcz3_2 : w2.cell? ⟨gb296, 2, none⟩ = some (.string a0_2) := (blk_cell BK296.out 2).trans rfl; have hfz3_0 := blk_frozen BK296.out 0; have hfz3_1 := blk_frozen BK296.out 1; have hfz3_2 := blk_frozen BK296.out 2))
  go_loopg [4, 5, 10] k (fun kq v4 v5 v10 w' => ∃ (x4_1 : Int) (x5_1 : Int) (x10_1 : Int), v4 = .int .i64 x4_1 ∧ v5 = .int .i64 x5_1 ∧ v10 = .int .i64 x10_1 ∧ Aside0 (impl_CheckedShare.l0 kq x4_1 x5_1 (a0_2.size : Int) x10_1 a0_0 a0_1 a0_2 = some (r1, r2)) ∧ Aside0 (kq ≤ k) ∧ Aside0 (w'.heap[gb296]? = some (.cells #[.int .i64 a0_0, .int .i64 a0_1, .string a0_2] 48 (0, 0))) ∧ Aside0 (Below w.heap.size w w'))
  case atStart => exact ⟨(0), (0), (0), (by first | rfl | (simp; done) | (simp [*]; done)), (by first | rfl | (simp; done) | (simp [*]; done)), (by first | rfl | (simp; done) | (simp [*]; done)), H', ⟨Nat.le_refl _⟩, ⟨by (with_reducible repeat (first | refine blk_drewN ?_ _ | refine blk_drew ?_ | refine blk_alloc ?_ _)); exact BK296.out⟩, ⟨by repeat (first | (with_reducible first | exact HB.out | apply below_alloc | apply pw_below_drewN | apply below_drew1 | refine below_set ?_ GE296.out) | exact HB.out)⟩⟩
  case round =>
   clear H'
   try clear p2
   try clear c3
   try clear hcz3_0
   try clear hcz3_1
   try clear hcz3_2
   try clear hfz3_0
   try clear hfz3_1
   try clear hfz3_2
   obtain ⟨x4_1, x5_1, x10_1, rfl, rfl, rfl, HA, HK1, BK296, HB⟩ := hrel
   cases gk with
   | zero => exact absurd HA.out (by simp [impl_CheckedShare.l0])
   | succ k1 =>
    have H := HA.out
    clear HA
    simp only [impl_CheckedShare.l0] at H
    by_cases c4 : x10_1 < (a0_2.size : Int)
    ·rw [if_pos c4] at H
     have c4b0 : decide (x10_1 < (a0_2.size : Int)) = true := decide_eq_true c4
     clear c4
     replace H := Option.bind_eq_some_iff.mp H
     obtain ⟨t297, A50, H⟩ := H
     replace H : (if t297 = true then ((impl_IsChecked.f k1 a0_0 a0_1 a0_2 x10_1).bind fun t298 => (if t298 = true then (impl_CheckedShare.l0 k1 (wrap64 (x4_1 + 1)) (wrap64 (x5_1 + 1)) (a0_2.size : Int) (wrap64 (x10_1 + 1)) a0_0 a0_1 a0_2) else (impl_CheckedShare.l0 k1 x4_1 (wrap64 (x5_1 + 1)) (a0_2.size : Int) (wrap64 (x10_1 + 1)) a0_0 a0_1 a0_2))) else (impl_CheckedShare.l0 k1 x4_1 x5_1 (a0_2.size : Int) (wrap64 (x10_1 + 1)) a0_0 a0_1 a0_2)) = some (r1, r2) := H
     have A5 := Aside0.mk A50
     clear A50
     by_cases c6 : t297 = true
     ·subst c6
      have H1 : ((impl_IsChecked.f k1 a0_0 a0_1 a0_2 x10_1).bind fun t298 => (if t298 = true then (impl_CheckedShare.l0 k1 (wrap64 (x4_1 + 1)) (wrap64 (x5_1 + 1)) (a0_2.size : Int) (wrap64 (x10_1 + 1)) a0_0 a0_1 a0_2) else (impl_CheckedShare.l0 k1 x4_1 (wrap64 (x5_1 + 1)) (a0_2.size : Int) (wrap64 (x10_1 + 1)) a0_0 a0_1 a0_2))) = some (r1, r2) := by rw [if_pos rfl] at H; exact H
      clear H
      have H := H1
      clear H1
      replace H := Option.bind_eq_some_iff.mp H
      obtain ⟨t298, A70, H⟩ := H
      replace H : (if t298 = true then (impl_CheckedShare.l0 k1 (wrap64 (x4_1 + 1)) (wrap64 (x5_1 + 1)) (a0_2.size : Int) (wrap64 (x10_1 + 1)) a0_0 a0_1 a0_2) else (impl_CheckedShare.l0 k1 x4_1 (wrap64 (x5_1 + 1)) (a0_2.size : Int) (wrap64 (x10_1 + 1)) a0_0 a0_1 a0_2)) = some (r1, r2) := H
      have A7 := Aside0.mk A70
      clear A70
      by_cases c8 : t298 = true
      ·subst c8
       have H1 : (impl_CheckedShare.l0 k1 (wrap64 (x4_1 + 1)) (wrap64 (x5_1 + 1)) (a0_2.size : Int) (wrap64 (x10_1 + 1)) a0_0 a0_1 a0_2) = some (r1, r2) := by rw [if_pos rfl] at H; exact H
       clear H
       have H := H1
       clear H1
       have H' := Aside0.mk H
       clear H
       have hcz9_0 : wr.cell? ⟨gb296, 0, none⟩ = some (.int .i64 a0_0) := (blk_cell BK296.out 0).trans rfl
       have hcz9_1 : wr.cell? ⟨gb296, 1, none⟩ = some (.int .i64 a0_1) := (blk_cell BK296.out 1).trans rfl
       have hcz9_2 : wr.cell? ⟨gb296, 2, none⟩ = some (.string a0_2) := (blk_cell BK296.out 2).trans rfl
       have hfz9_0 := blk_frozen BK296.out 0
       have hfz9_1 := blk_frozen BK296.out 1
       have hfz9_2 := blk_frozen BK296.out 2
       go_wp2_with (first | ((with_reducible refine gate_callee (f := 80) rfl ?_); refine goesL_ (some 15) rfl rfl Try.func80 (by kernel_rfl) rfl #[.agg #[.int .i64 a0_0, .int .i64 a0_1, .string a0_2], .int .i64 x10_1] rfl (by (try simp only [List.map_toArray, List.map_cons, List.map_nil]); first | done | rfl | (simp only [List.length_drop, List.length_take]; rfl)) ?_; (with_reducible refine (impl_IsWhite.calls k1 a0_0 a0_1 a0_2 x10_1 true _ A5.out).mono ?_); rintro e w10 ⟨rfl, hb⟩; refine ⟨_, rfl, ?_⟩; have n0_ := Aside0.mk (blk_below (g := gb296) (o := .cells #[.int .i64 a0_0, .int .i64 a0_1, .string a0_2] 48 (0, 0)) (by (with_reducible repeat (first | refine blk_drewN ?_ _ | refine blk_drew ?_ | refine blk_alloc ?_ _)); exact BK296.out) hb); have n1_ := Aside0.mk (below_step (by repeat (first | (with_reducible first | exact HB.out | apply below_alloc | apply pw_below_drewN | apply below_drew1 | refine below_set ?_ GE296.out) | exact HB.out)) hb); clear BK296; clear HB; have BK296 := n0_; have HB := n1_; clear n0_ n1_; (try clear hb); (try clear hb2); (try clear hk); (try clear hi); have hcz11_0 : w10.cell? ⟨gb296, 0, none⟩ = some (.int .i64 a0_0) := (blk_cell BK296.out 0).trans rfl; have hcz11_1 : w10.cell? ⟨gb296, 1, none⟩ = some (.int .i64 a0_1) := (blk_cell BK296.out 1).trans rfl; have hcz11_2 : w10.cell? ⟨gb296, 2, none⟩ = some (.string a0_2) := (blk_cell BK296.out 2).trans rfl; have hfz11_0 := blk_frozen BK296.out 0; have hfz11_1 := blk_frozen BK296.out 1; have hfz11_2 := blk_frozen BK296.out 2) | ((with_reducible refine gate_callee (f := 35) rfl ?_); refine goesL_ (some 20) rfl rfl Try.func35 (by kernel_rfl) rfl #[.agg #[.int .i64 a0_0, .int .i64 a0_1, .string a0_2], .int .i64 x10_1] rfl (by (try simp only [List.map_toArray, List.map_cons, List.map_nil]); first | done | rfl | (simp only [List.length_drop, List.length_take]; rfl)) ?_; (with_reducible refine (impl_IsChecked.calls k1 a0_0 a0_1 a0_2 x10_1 true _ A7.out).mono ?_); rintro e w12 ⟨rfl, hb⟩; refine ⟨_, rfl, ?_⟩; have n0_ := Aside0.mk (blk_below (g := gb296) (o := .cells #[.int .i64 a0_0, .int .i64 a0_1, .string a0_2] 48 (0, 0)) (by (with_reducible repeat (first | refine blk_drewN ?_ _ | refine blk_drew ?_ | refine blk_alloc ?_ _)); exact BK296.out) hb); have n1_ := Aside0.mk (below_step (by repeat (first | (with_reducible first | exact HB.out | apply below_alloc | apply pw_below_drewN | apply below_drew1 | refine below_set ?_ GE296.out) | exact HB.out)) hb); clear BK296; clear HB; have BK296 := n0_; have HB := n1_; clear n0_ n1_; (try clear hb); (try clear hb2); (try clear hk); (try clear hi)))
       go_roundg k1
       case measure => have := HK1.out; omega
       case rel => exact ⟨(wrap64 (x4_1 + 1)), (wrap64 (x5_1 + 1)), (wrap64 (x10_1 + 1)), (by first | rfl | (simp; done) | (simp [*]; done)), (by first | rfl | (simp; done) | (simp [*]; done)), (by first | rfl | (simp; done) | (simp [*]; done)), H', ⟨by have := HK1.out; omega⟩, ⟨by (with_reducible repeat (first | refine blk_drewN ?_ _ | refine blk_drew ?_ | refine blk_alloc ?_ _)); exact BK296.out⟩, ⟨by repeat (first | (with_reducible first | exact HB.out | apply below_alloc | apply pw_below_drewN | apply below_drew1 | refine below_set ?_ GE296.out) | exact HB.out)⟩⟩
      ·replace c8 := Bool.eq_false_iff.mpr c8
       subst c8
       have H1 : (impl_CheckedShare.l0 k1 x4_1 (wrap64 (x5_1 + 1)) (a0_2.size : Int) (wrap64 (x10_1 + 1)) a0_0 a0_1 a0_2) = some (r1, r2) := by rw [if_neg (show ¬ (false = true) by decide)] at H; exact H
       clear H
       have H := H1
       clear H1
       have H' := Aside0.mk H
       clear H
       have hcz13_0 : wr.cell? ⟨gb296, 0, none⟩ = some (.int .i64 a0_0) := (blk_cell BK296.out 0).trans rfl
       have hcz13_1 : wr.cell? ⟨gb296, 1, none⟩ = some (.int .i64 a0_1) := (blk_cell BK296.out 1).trans rfl
       have hcz13_2 : wr.cell? ⟨gb296, 2, none⟩ = some (.string a0_2) := (blk_cell BK296.out 2).trans rfl
       have hfz13_0 := blk_frozen BK296.out 0
       have hfz13_1 := blk_frozen BK296.out 1
       have hfz13_2 := blk_frozen BK296.out 2
       go_wp2_with (first | ((with_reducible refine gate_callee (f := 80) rfl ?_); refine goesL_ (some 15) rfl rfl Try.func80 (by kernel_rfl) rfl #[.agg #[.int .i64 a0_0, .int .i64 a0_1, .string a0_2], .int .i64 x10_1] rfl (by (try simp only [List.map_toArray, List.map_cons, List.map_nil]); first | done | rfl | (simp only [List.length_drop, List.length_take]; rfl)) ?_; (with_reducible refine (impl_IsWhite.calls k1 a0_0 a0_1 a0_2 x10_1 true _ A5.out).mono ?_); rintro e w14 ⟨rfl, hb⟩; refine ⟨_, rfl, ?_⟩; have n0_ := Aside0.mk (blk_below (g := gb296) (o := .cells #[.int .i64 a0_0, .int .i64 a0_1, .string a0_2] 48 (0, 0)) (by (with_reducible repeat (first | refine blk_drewN ?_ _ | refine blk_drew ?_ | refine blk_alloc ?_ _)); exact BK296.out) hb); have n1_ := Aside0.mk (below_step (by repeat (first | (with_reducible first | exact HB.out | apply below_alloc | apply pw_below_drewN | apply below_drew1 | refine below_set ?_ GE296.out) | exact HB.out)) hb); clear BK296; clear HB; have BK296 := n0_; have HB := n1_; clear n0_ n1_; (try clear hb); (try clear hb2); (try clear hk); (try clear hi); have hcz15_0 : w14.cell? ⟨gb296, 0, none⟩ = some (.int .i64 a0_0) := (blk_cell BK296.out 0).trans rfl; have hcz15_1 : w14.cell? ⟨gb296, 1, none⟩ = some (.int .i64 a0_1) := (blk_cell BK296.out 1).trans rfl; have hcz15_2 : w14.cell? ⟨gb296, 2, none⟩ = some (.string a0_2) := (blk_cell BK296.out 2).trans rfl; have hfz15_0 := blk_frozen BK296.out 0; have hfz15_1 := blk_frozen BK296.out 1; have hfz15_2 := blk_frozen BK296.out 2) | ((with_reducible refine gate_callee (f := 35) rfl ?_); refine goesL_ (some 20) rfl rfl Try.func35 (by kernel_rfl) rfl #[.agg #[.int .i64 a0_0, .int .i64 a0_1, .string a0_2], .int .i64 x10_1] rfl (by (try simp only [List.map_toArray, List.map_cons, List.map_nil]); first | done | rfl | (simp only [List.length_drop, List.length_take]; rfl)) ?_; (with_reducible refine (impl_IsChecked.calls k1 a0_0 a0_1 a0_2 x10_1 false _ A7.out).mono ?_); rintro e w16 ⟨rfl, hb⟩; refine ⟨_, rfl, ?_⟩; have n0_ := Aside0.mk (blk_below (g := gb296) (o := .cells #[.int .i64 a0_0, .int .i64 a0_1, .string a0_2] 48 (0, 0)) (by (with_reducible repeat (first | refine blk_drewN ?_ _ | refine blk_drew ?_ | refine blk_alloc ?_ _)); exact BK296.out) hb); have n1_ := Aside0.mk (below_step (by repeat (first | (with_reducible first | exact HB.out | apply below_alloc | apply pw_below_drewN | apply below_drew1 | refine below_set ?_ GE296.out) | exact HB.out)) hb); clear BK296; clear HB; have BK296 := n0_; have HB := n1_; clear n0_ n1_; (try clear hb); (try clear hb2); (try clear hk); (try clear hi)))
       go_roundg k1
       case measure => have := HK1.out; omega
       case rel => exact ⟨(x4_1), (wrap64 (x5_1 + 1)), (wrap64 (x10_1 + 1)), (by first | rfl | (simp; done) | (simp [*]; done)), (by first | rfl | (simp; done) | (simp [*]; done)), (by first | rfl | (simp; done) | (simp [*]; done)), H', ⟨by have := HK1.out; omega⟩, ⟨by (with_reducible repeat (first | refine blk_drewN ?_ _ | refine blk_drew ?_ | refine blk_alloc ?_ _)); exact BK296.out⟩, ⟨by repeat (first | (with_reducible first | exact HB.out | apply below_alloc | apply pw_below_drewN | apply below_drew1 | refine below_set ?_ GE296.out) | exact HB.out)⟩⟩
     ·replace c6 := Bool.eq_false_iff.mpr c6
      subst c6
      have H1 : (impl_CheckedShare.l0 k1 x4_1 x5_1 (a0_2.size : Int) (wrap64 (x10_1 + 1)) a0_0 a0_1 a0_2) = some (r1, r2) := by rw [if_neg (show ¬ (false = true) by decide)] at H; exact H
      clear H
      have H := H1
      clear H1
      have H' := Aside0.mk H
      clear H
      have hcz17_0 : wr.cell? ⟨gb296, 0, none⟩ = some (.int .i64 a0_0) := (blk_cell BK296.out 0).trans rfl
      have hcz17_1 : wr.cell? ⟨gb296, 1, none⟩ = some (.int .i64 a0_1) := (blk_cell BK296.out 1).trans rfl
      have hcz17_2 : wr.cell? ⟨gb296, 2, none⟩ = some (.string a0_2) := (blk_cell BK296.out 2).trans rfl
      have hfz17_0 := blk_frozen BK296.out 0
      have hfz17_1 := blk_frozen BK296.out 1
      have hfz17_2 := blk_frozen BK296.out 2
      go_wp2_with (first | ((with_reducible refine gate_callee (f := 80) rfl ?_); refine goesL_ (some 15) rfl rfl Try.func80 (by kernel_rfl) rfl #[.agg #[.int .i64 a0_0, .int .i64 a0_1, .string a0_2], .int .i64 x10_1] rfl (by (try simp only [List.map_toArray, List.map_cons, List.map_nil]); first | done | rfl | (simp only [List.length_drop, List.length_take]; rfl)) ?_; (with_reducible refine (impl_IsWhite.calls k1 a0_0 a0_1 a0_2 x10_1 false _ A5.out).mono ?_); rintro e w18 ⟨rfl, hb⟩; refine ⟨_, rfl, ?_⟩; have n0_ := Aside0.mk (blk_below (g := gb296) (o := .cells #[.int .i64 a0_0, .int .i64 a0_1, .string a0_2] 48 (0, 0)) (by (with_reducible repeat (first | refine blk_drewN ?_ _ | refine blk_drew ?_ | refine blk_alloc ?_ _)); exact BK296.out) hb); have n1_ := Aside0.mk (below_step (by repeat (first | (with_reducible first | exact HB.out | apply below_alloc | apply pw_below_drewN | apply below_drew1 | refine below_set ?_ GE296.out) | exact HB.out)) hb); clear BK296; clear HB; have BK296 := n0_; have HB := n1_; clear n0_ n1_; (try clear hb); (try clear hb2); (try clear hk); (try clear hi)))
      go_roundg k1
      case measure => have := HK1.out; omega
      case rel => exact ⟨(x4_1), (x5_1), (wrap64 (x10_1 + 1)), (by first | rfl | (simp; done) | (simp [*]; done)), (by first | rfl | (simp; done) | (simp [*]; done)), (by first | rfl | (simp; done) | (simp [*]; done)), H', ⟨by have := HK1.out; omega⟩, ⟨by (with_reducible repeat (first | refine blk_drewN ?_ _ | refine blk_drew ?_ | refine blk_alloc ?_ _)); exact BK296.out⟩, ⟨by repeat (first | (with_reducible first | exact HB.out | apply below_alloc | apply pw_below_drewN | apply below_drew1 | refine below_set ?_ GE296.out) | exact HB.out)⟩⟩
    ·rw [if_neg c4] at H
     have c4b0 : decide (x10_1 < (a0_2.size : Int)) = false := decide_eq_false c4
     clear c4
     simp only [Option.some.injEq, Prod.mk.injEq] at H
     obtain ⟨rfl, rfl⟩ := H
     go_wp2
     go_ret2
     exact ⟨by first | rfl | (simp [errW_none, errW_some] <;> rfl) | (simp [*, errW_none, errW_some] <;> rfl), by repeat (first | (with_reducible first | exact HB.out | apply below_alloc | apply pw_below_drewN | apply below_drew1 | refine below_set ?_ GE296.out) | exact HB.out)⟩

/-! ### impl_UncheckedIn: function 39 -/
def impl_UncheckedIn.l0 : Nat → Int → List Int → Int → Int → Int → Int → ByteArray → Option (Int)
  | 0, _, _, _, _, _, _, _ => none
  | k + 1, x6, x19, x20, x21, x300000, x300001, x300002 => if x21 < x20 then (if 0 ≤ x21 then (if x21 < (x19.length : Int) then ((impl_IsChecked.f k x300000 x300001 x300002 (rd x19 x21)).bind fun t306 => (if t306 = true then (impl_UncheckedIn.l0 k x6 x19 x20 (wrap64 (x21 + 1)) x300000 x300001 x300002) else (impl_UncheckedIn.l0 k (wrap64 (x6 + 1)) x19 x20 (wrap64 (x21 + 1)) x300000 x300001 x300002))) else (none)) else (none)) else (some x6)
def impl_UncheckedIn.f (k : Nat) (a0_0 : Int) (a0_1 : Int) (a0_2 : ByteArray) (a1 : Int) : Option (Int) := (impl_layout.f k a0_0 a0_1 a0_2).bind fun t300 => ((impl_at.f a1 (t300.length : Int)).bind fun t303 => (if t303 = true then (if 0 ≤ a1 then (if a1 < (t300.length : Int) then (impl_UncheckedIn.l0 k 0 (rd_L5 t300 a1) ((rd_L5 t300 a1).length : Int) 0 a0_0 a0_1 a0_2) else (none)) else (none)) else (some (-1))))
theorem impl_UncheckedIn.mono_l : ∀ k, (∀ y0 y1 y2 y3 y4 y5 y6, LeO (impl_UncheckedIn.l0 k y0 y1 y2 y3 y4 y5 y6) (impl_UncheckedIn.l0 (k + 1) y0 y1 y2 y3 y4 y5 y6))
  | 0 => fun _ _ _ _ _ _ _ r h => by simp [impl_UncheckedIn.l0] at h
  | k + 1 => by
   have ih0 := impl_UncheckedIn.mono_l k
   ·intro y0 y1 y2 y3 y4 y5 y6
    unfold impl_UncheckedIn.l0
    repeat' first
    | (with_reducible exact ih0 _ _ _ _ _ _ _)
    | (with_reducible exact impl_IsChecked.mono _ _ _ _ _)
    | (with_reducible exact impl_layout.mono _ _ _ _)
    | (with_reducible exact LeO.refl _)
    | (with_reducible exact LeO.none _)
    | (with_reducible refine LeO.ite ?_ ?_)
    | (with_reducible refine LeO.bind ?_ (fun _ => ?_))
    | exact ih0 _ _ _ _ _ _ _
    | exact impl_IsChecked.mono _ _ _ _ _
    | exact impl_layout.mono _ _ _ _
    | exact LeO.none _
    | refine LeO.ite ?_ ?_
    | refine LeO.bind ?_ (fun _ => ?_)
theorem impl_UncheckedIn.mono : ∀ a0 a1 a2 a3 k, LeO (impl_UncheckedIn.f k a0 a1 a2 a3) (impl_UncheckedIn.f (k + 1) a0 a1 a2 a3) := by
  intro a0 a1 a2 a3 k
  have ih0 := impl_UncheckedIn.mono_l k
  unfold impl_UncheckedIn.f
  repeat' first
    | (with_reducible exact ih0 _ _ _ _ _ _ _)
    | (with_reducible exact impl_IsChecked.mono _ _ _ _ _)
    | (with_reducible exact impl_layout.mono _ _ _ _)
    | (with_reducible exact LeO.refl _)
    | (with_reducible exact LeO.none _)
    | (with_reducible refine LeO.ite ?_ ?_)
    | (with_reducible refine LeO.bind ?_ (fun _ => ?_))
    | exact ih0 _ _ _ _ _ _ _
    | exact impl_IsChecked.mono _ _ _ _ _
    | exact impl_layout.mono _ _ _ _
    | exact LeO.none _
    | refine LeO.ite ?_ ?_
    | refine LeO.bind ?_ (fun _ => ?_)
set_option maxHeartbeats 8000000 in
set_option maxRecDepth 100000 in
theorem impl_UncheckedIn.calls (k : Nat) (a0_0 : Int) (a0_1 : Int) (a0_2 : ByteArray) (a1 : Int) (r : Int) (w : World) (h : impl_UncheckedIn.f k a0_0 a0_1 a0_2 a1 = some r) :
   Calls Try.prog 39 #[.agg #[.int .i64 a0_0, .int .i64 a0_1, .string a0_2], .int .i64 a1] w fun e w' => e = .returned (.int .i64 r) ∧ Below w.heap.size w w' := by
  have hu48 := Try.underlying48
  have HB := Aside0.mk (Below.refl w.heap.size w)
  have H : ((impl_layout.f k a0_0 a0_1 a0_2).bind fun t300 => ((impl_at.f a1 (t300.length : Int)).bind fun t303 => (if t303 = true then (if 0 ≤ a1 then (if a1 < (t300.length : Int) then (impl_UncheckedIn.l0 k 0 (rd_L5 t300 a1) ((rd_L5 t300 a1).length : Int) 0 a0_0 a0_1 a0_2) else (none)) else (none)) else (some (-1))))) = some r := h
  clear h
  replace H := Option.bind_eq_some_iff.mp H
  obtain ⟨t300, A30, H⟩ := H
  replace H : ((impl_at.f a1 (t300.length : Int)).bind fun t303 => (if t303 = true then (if 0 ≤ a1 then (if a1 < (t300.length : Int) then (impl_UncheckedIn.l0 k 0 (rd_L5 t300 a1) ((rd_L5 t300 a1).length : Int) 0 a0_0 a0_1 a0_2) else (none)) else (none)) else (some (-1)))) = some r := H
  have A3 := Aside0.mk A30
  clear A30
  replace H := Option.bind_eq_some_iff.mp H
  obtain ⟨t303, A40, H⟩ := H
  replace H : (if t303 = true then (if 0 ≤ a1 then (if a1 < (t300.length : Int) then (impl_UncheckedIn.l0 k 0 (rd_L5 t300 a1) ((rd_L5 t300 a1).length : Int) 0 a0_0 a0_1 a0_2) else (none)) else (none)) else (some (-1))) = some r := H
  have A4 := Aside0.mk A40
  clear A40
  by_cases c5 : t303 = true
  ·subst c5
   have H1 : (if 0 ≤ a1 then (if a1 < (t300.length : Int) then (impl_UncheckedIn.l0 k 0 (rd_L5 t300 a1) ((rd_L5 t300 a1).length : Int) 0 a0_0 a0_1 a0_2) else (none)) else (none)) = some r := by rw [if_pos rfl] at H; exact H
   clear H
   have H := H1
   clear H1
   by_cases c6 : 0 ≤ a1
   ·rw [if_pos c6] at H
    have c6b0 : decide (0 ≤ a1) = true := decide_eq_true c6
    clear c6
    by_cases c7 : a1 < (t300.length : Int)
    ·rw [if_pos c7] at H
     have c7b0 : decide (a1 < (t300.length : Int)) = true := decide_eq_true c7
     clear c7
     have H' := Aside0.mk H
     clear H
     go_enter Try.func39, Try.ntmps39
     go_wp2_with (first | ((with_reducible refine gate_dst (N := 2) rfl ?_); refine box_event ?hg (N := 2) ?hd (cs := #[.int .i64 a0_0, .int .i64 a0_1, .string a0_2]) (t := 48) ?hr ?_; (case hd => rfl); (case hg => rfl); (case hr => first | (go_simp; done) | (go_simp; rfl)); intro gb299 hg w8 hbox hb; have n0_ := Aside0.mk (below_step (by repeat (first | (with_reducible first | exact HB.out | apply below_alloc | apply pw_below_drewN | apply below_drew1) | exact HB.out)) hb); have n1_ := Aside0.mk (hbox); have n2_ := Aside0.mk ((by rw [hg]; exact (below_size (by repeat (first | (with_reducible first | exact HB.out | apply below_alloc | apply pw_below_drewN | apply below_drew1) | exact HB.out))) : w.heap.size ≤ gb299)); have n3_ := Aside0.mk ((by rw [hg]; exact (below_size (by repeat (first | (with_reducible first | exact HB.out | apply below_alloc | apply pw_below_drewN | apply below_drew1) | exact HB.out))) : w.heap.size ≤ gb299)); clear HB; have HB := n0_; have BK299 := n1_; have GW299 := n2_; have GE299 := n3_; clear n0_ n1_ n2_ n3_; clear hb hbox hg; have hcz9_0 : w8.cell? ⟨gb299, 0, none⟩ = some (.int .i64 a0_0) := (blk_cell BK299.out 0).trans rfl; have hcz9_1 : w8.cell? ⟨gb299, 1, none⟩ = some (.int .i64 a0_1) := (blk_cell BK299.out 1).trans rfl; have hcz9_2 : w8.cell? ⟨gb299, 2, none⟩ = some (.string a0_2) := (blk_cell BK299.out 2).trans rfl; have hfz9_0 := blk_frozen BK299.out 0; have hfz9_1 := blk_frozen BK299.out 1; have hfz9_2 := blk_frozen BK299.out 2) | ((with_reducible refine gate_callee (f := 74) rfl ?_); refine goesL_ (some 10) rfl rfl Try.func74 (by kernel_rfl) rfl #[.agg #[.int .i64 a0_0, .int .i64 a0_1, .string a0_2]] rfl (by (try simp only [List.map_toArray, List.map_cons, List.map_nil]); first | done | rfl | (simp only [List.length_drop, List.length_take]; rfl)) ?_; (with_reducible refine (impl_layout.calls k a0_0 a0_1 a0_2 t300 _ A3.out).mono ?_); rintro e w10 ⟨v301, rfl, ho0, hb⟩; refine ⟨_, rfl, ?_⟩; have n0_ := Aside0.mk (Kd.S_lower ho0 (below_size (by repeat (first | (with_reducible first | exact HB.out | apply below_alloc | apply pw_below_drewN | apply below_drew1 | refine below_set ?_ GE299.out) | exact HB.out)))); have n1_ := Aside0.mk (blk_below (g := gb299) (o := .cells #[.int .i64 a0_0, .int .i64 a0_1, .string a0_2] 48 (0, 0)) (by (with_reducible repeat (first | refine blk_drewN ?_ _ | refine blk_drew ?_ | refine blk_alloc ?_ _)); exact BK299.out) hb); have n2_ := Aside0.mk (below_step (by repeat (first | (with_reducible first | exact HB.out | apply below_alloc | apply pw_below_drewN | apply below_drew1 | refine below_set ?_ GE299.out) | exact HB.out)) hb); clear BK299; clear HB; have HO302 := n0_; have BK299 := n1_; have HB := n2_; clear n0_ n1_ n2_; (try clear hb); (try clear hb2); (try clear hk); (try clear hi); (try clear ho0); obtain ⟨Ao11, co11, eo11⟩ := Kd.S_slice HO302.out; subst eo11) | ((with_reducible refine gate_callee (f := 54) rfl ?_); refine goesL_ (some 14) rfl rfl Try.func54 (by kernel_rfl) rfl #[.int .i64 a1, .int .i64 (t300.length : Int)] rfl (by (try simp only [List.map_toArray, List.map_cons, List.map_nil]); first | done | rfl | (simp only [List.length_drop, List.length_take]; rfl)) ?_; (with_reducible refine (impl_at.calls a1 (t300.length : Int) true _ A4.out).mono ?_); rintro e w' ⟨rfl, ⟨nd, rfl⟩⟩; refine ⟨_, rfl, ?_⟩; have p304 : 0 ≤ (a1 : Int) := of_decide_eq_true (by first | (with_reducible assumption) | assumption); have q304 : a1 < (t300.length : Int) := of_decide_eq_true (by first | (with_reducible assumption) | assumption); obtain ⟨ad304, A304_0, c304_0, e304, hx304_0, hl304_0, hi304_0⟩ := at_L5 (Kd.S_reads' HO302.out).2.2 a1 p304 q304; cases e304; obtain ⟨ce304, hce304, hMe304, hcc304⟩ := Kd.S_get HO302.out [] a1 p304 (by first | exact q304 | exact of_decide_eq_true (by first | (with_reducible assumption) | assumption) | (have e_ := (Kd.S_reads' HO302.out).1; omega)); obtain ⟨ve304_0, rfl, ge304_0⟩ := hMe304; have hv304_0 := hcc304 0 _ rfl; rw [Nat.add_zero, show ((Kd.slice 3 (Kd.int .i64))).sz = 1 from rfl, Nat.mul_one] at hv304_0; replace hv304_0 := Option.some.inj (hv304_0.symm.trans hx304_0); rw [hv304_0] at ge304_0; have HL304_0 := Aside0.mk (show Kd.R (Kd.int .i64) 3 _ _ _ _ (rd_L5 t300 a1) from ge304_0); clear hv304_0 ge304_0; clear hcc304 hce304; have HR304_0 := Aside0.mk hi304_0; have HC304_0 := Aside0.mk hl304_0; clear hi304_0 hl304_0; replace p304 := eq_true p304; replace q304 := eq_true q304))
     go_loopg [6, 21] k (fun kq v6 v21 w' => ∃ (x6_1 : Int) (x21_1 : Int), v6 = .int .i64 x6_1 ∧ v21 = .int .i64 x21_1 ∧ Aside0 (impl_UncheckedIn.l0 kq x6_1 (rd_L5 t300 a1) ((rd_L5 t300 a1).length : Int) x21_1 a0_0 a0_1 a0_2 = some r) ∧ Aside0 (kq ≤ k) ∧ Aside0 (w'.heap[gb299]? = some (.cells #[.int .i64 a0_0, .int .i64 a0_1, .string a0_2] 48 (0, 0))) ∧ Aside0 (Kd.C (Kd.int .i64) w' A304_0 (rd_L5 t300 a1).length (rd_L5 t300 a1)) ∧ Aside0 (Below w.heap.size w w'))
     case atStart => exact ⟨(0), (0), (by first | rfl | (simp; done) | (simp [*]; done)), (by first | rfl | (simp; done) | (simp [*]; done)), H', ⟨Nat.le_refl _⟩, ⟨by (with_reducible repeat (first | refine blk_drewN ?_ _ | refine blk_drew ?_ | refine blk_alloc ?_ _)); exact BK299.out⟩, ⟨by repeat (first | (with_reducible exact HR304_0.out) | (with_reducible refine Kd.C_alloc ?_ _) | (with_reducible refine Kd.C_drewN ?_ _) | (with_reducible refine Kd.C_drew ?_) | exact HR304_0.out)⟩, ⟨by repeat (first | (with_reducible first | exact HB.out | apply below_alloc | apply pw_below_drewN | apply below_drew1 | refine below_set ?_ GE299.out) | exact HB.out)⟩⟩
     case round =>
      clear H'
      try clear p2
      try clear c3
      try clear p3
      try clear q3
      try clear hx3
      try clear c5
      try clear c6
      try clear c6b0
      try clear c7
      try clear c7b0
      try clear hcz9_0
      try clear hcz9_1
      try clear hcz9_2
      try clear hfz9_0
      try clear hfz9_1
      try clear hfz9_2
      try clear hx304_0
      try clear p304
      try clear q304
      obtain ⟨x6_1, x21_1, rfl, rfl, HA, HK1, BK299, HR304_0, HB⟩ := hrel
      cases gk with
      | zero => exact absurd HA.out (by simp [impl_UncheckedIn.l0])
      | succ k1 =>
       have H := HA.out
       clear HA
       simp only [impl_UncheckedIn.l0] at H
       by_cases c12 : x21_1 < ((rd_L5 t300 a1).length : Int)
       ·rw [if_pos c12] at H
        have c12b0 : decide (x21_1 < ((rd_L5 t300 a1).length : Int)) = true := decide_eq_true c12
        clear c12
        by_cases c13 : 0 ≤ x21_1
        ·rw [if_pos c13] at H
         have c13b0 : decide (0 ≤ x21_1) = true := decide_eq_true c13
         clear c13
         by_cases c14 : x21_1 < ((rd_L5 t300 a1).length : Int)
         ·rw [if_pos c14] at H
          have c14b0 : decide (x21_1 < ((rd_L5 t300 a1).length : Int)) = true := decide_eq_true c14
          clear c14
          replace H := Option.bind_eq_some_iff.mp H
          obtain ⟨t306, A150, H⟩ := H
          replace H : (if t306 = true then (impl_UncheckedIn.l0 k1 x6_1 (rd_L5 t300 a1) ((rd_L5 t300 a1).length : Int) (wrap64 (x21_1 + 1)) a0_0 a0_1 a0_2) else (impl_UncheckedIn.l0 k1 (wrap64 (x6_1 + 1)) (rd_L5 t300 a1) ((rd_L5 t300 a1).length : Int) (wrap64 (x21_1 + 1)) a0_0 a0_1 a0_2)) = some r := H
          have A15 := Aside0.mk A150
          clear A150
          by_cases c16 : t306 = true
          ·subst c16
           have H1 : (impl_UncheckedIn.l0 k1 x6_1 (rd_L5 t300 a1) ((rd_L5 t300 a1).length : Int) (wrap64 (x21_1 + 1)) a0_0 a0_1 a0_2) = some r := by rw [if_pos rfl] at H; exact H
           clear H
           have H := H1
           clear H1
           have H' := Aside0.mk H
           clear H
           have p305 : 0 ≤ (x21_1 : Int) := of_decide_eq_true (by first | (with_reducible assumption) | assumption)
           have q305 : x21_1 < ((rd_L5 t300 a1).length : Int) := of_decide_eq_true (by first | (with_reducible assumption) | assumption)
           obtain ⟨ad305, e305, hx305_0⟩ := Kd.at_int HR304_0.out x21_1 p305 q305
           cases e305
           try replace hx305_0 := (HB.out.cell (World.block_lt_of_cell? w _ hx305_0)).trans hx305_0
           replace p305 := eq_true p305
           replace q305 := eq_true q305
           have hcz17_0 : wr.cell? ⟨gb299, 0, none⟩ = some (.int .i64 a0_0) := (blk_cell BK299.out 0).trans rfl
           have hcz17_1 : wr.cell? ⟨gb299, 1, none⟩ = some (.int .i64 a0_1) := (blk_cell BK299.out 1).trans rfl
           have hcz17_2 : wr.cell? ⟨gb299, 2, none⟩ = some (.string a0_2) := (blk_cell BK299.out 2).trans rfl
           have hfz17_0 := blk_frozen BK299.out 0
           have hfz17_1 := blk_frozen BK299.out 1
           have hfz17_2 := blk_frozen BK299.out 2
           go_wp2_with (first | ((with_reducible refine gate_callee (f := 35) rfl ?_); refine goesL_ (some 27) rfl rfl Try.func35 (by kernel_rfl) rfl #[.agg #[.int .i64 a0_0, .int .i64 a0_1, .string a0_2], .int .i64 (rd (rd_L5 t300 a1) x21_1)] rfl (by (try simp only [List.map_toArray, List.map_cons, List.map_nil]); first | done | rfl | (simp only [List.length_drop, List.length_take]; rfl)) ?_; (with_reducible refine (impl_IsChecked.calls k1 a0_0 a0_1 a0_2 (rd (rd_L5 t300 a1) x21_1) true _ A15.out).mono ?_); rintro e w18 ⟨rfl, hb⟩; refine ⟨_, rfl, ?_⟩; have n0_ := Aside0.mk (blk_below (g := gb299) (o := .cells #[.int .i64 a0_0, .int .i64 a0_1, .string a0_2] 48 (0, 0)) (by (with_reducible repeat (first | refine blk_drewN ?_ _ | refine blk_drew ?_ | refine blk_alloc ?_ _)); exact BK299.out) hb); have n1_ := Aside0.mk (Kd.C_below (by repeat (first | (with_reducible exact HR304_0.out) | (with_reducible refine Kd.C_alloc ?_ _) | (with_reducible refine Kd.C_drewN ?_ _) | (with_reducible refine Kd.C_drew ?_) | exact HR304_0.out)) hb); have n2_ := Aside0.mk (below_step (by repeat (first | (with_reducible first | exact HB.out | apply below_alloc | apply pw_below_drewN | apply below_drew1 | refine below_set ?_ GE299.out) | exact HB.out)) hb); clear BK299; clear HR304_0; clear HB; have BK299 := n0_; have HR304_0 := n1_; have HB := n2_; clear n0_ n1_ n2_; (try clear hb); (try clear hb2); (try clear hk); (try clear hi)))
           go_roundg k1
           case measure => have := HK1.out; omega
           case rel => exact ⟨(x6_1), (wrap64 (x21_1 + 1)), (by first | rfl | (simp; done) | (simp [*]; done)), (by first | rfl | (simp; done) | (simp [*]; done)), H', ⟨by have := HK1.out; omega⟩, ⟨by (with_reducible repeat (first | refine blk_drewN ?_ _ | refine blk_drew ?_ | refine blk_alloc ?_ _)); exact BK299.out⟩, ⟨by repeat (first | (with_reducible exact HR304_0.out) | (with_reducible refine Kd.C_alloc ?_ _) | (with_reducible refine Kd.C_drewN ?_ _) | (with_reducible refine Kd.C_drew ?_) | exact HR304_0.out)⟩, ⟨by repeat (first | (with_reducible first | exact HB.out | apply below_alloc | apply pw_below_drewN | apply below_drew1 | refine below_set ?_ GE299.out) | exact HB.out)⟩⟩
          ·replace c16 := Bool.eq_false_iff.mpr c16
           subst c16
           have H1 : (impl_UncheckedIn.l0 k1 (wrap64 (x6_1 + 1)) (rd_L5 t300 a1) ((rd_L5 t300 a1).length : Int) (wrap64 (x21_1 + 1)) a0_0 a0_1 a0_2) = some r := by rw [if_neg (show ¬ (false = true) by decide)] at H; exact H
           clear H
           have H := H1
           clear H1
           have H' := Aside0.mk H
           clear H
           have p305 : 0 ≤ (x21_1 : Int) := of_decide_eq_true (by first | (with_reducible assumption) | assumption)
           have q305 : x21_1 < ((rd_L5 t300 a1).length : Int) := of_decide_eq_true (by first | (with_reducible assumption) | assumption)
           obtain ⟨ad305, e305, hx305_0⟩ := Kd.at_int HR304_0.out x21_1 p305 q305
           cases e305
           try replace hx305_0 := (HB.out.cell (World.block_lt_of_cell? w _ hx305_0)).trans hx305_0
           replace p305 := eq_true p305
           replace q305 := eq_true q305
           have hcz19_0 : wr.cell? ⟨gb299, 0, none⟩ = some (.int .i64 a0_0) := (blk_cell BK299.out 0).trans rfl
           have hcz19_1 : wr.cell? ⟨gb299, 1, none⟩ = some (.int .i64 a0_1) := (blk_cell BK299.out 1).trans rfl
           have hcz19_2 : wr.cell? ⟨gb299, 2, none⟩ = some (.string a0_2) := (blk_cell BK299.out 2).trans rfl
           have hfz19_0 := blk_frozen BK299.out 0
           have hfz19_1 := blk_frozen BK299.out 1
           have hfz19_2 := blk_frozen BK299.out 2
           go_wp2_with (first | ((with_reducible refine gate_callee (f := 35) rfl ?_); refine goesL_ (some 27) rfl rfl Try.func35 (by kernel_rfl) rfl #[.agg #[.int .i64 a0_0, .int .i64 a0_1, .string a0_2], .int .i64 (rd (rd_L5 t300 a1) x21_1)] rfl (by (try simp only [List.map_toArray, List.map_cons, List.map_nil]); first | done | rfl | (simp only [List.length_drop, List.length_take]; rfl)) ?_; (with_reducible refine (impl_IsChecked.calls k1 a0_0 a0_1 a0_2 (rd (rd_L5 t300 a1) x21_1) false _ A15.out).mono ?_); rintro e w20 ⟨rfl, hb⟩; refine ⟨_, rfl, ?_⟩; have n0_ := Aside0.mk (blk_below (g := gb299) (o := .cells #[.int .i64 a0_0, .int .i64 a0_1, .string a0_2] 48 (0, 0)) (by (with_reducible repeat (first | refine blk_drewN ?_ _ | refine blk_drew ?_ | refine blk_alloc ?_ _)); exact BK299.out) hb); have n1_ := Aside0.mk (Kd.C_below (by repeat (first | (with_reducible exact HR304_0.out) | (with_reducible refine Kd.C_alloc ?_ _) | (with_reducible refine Kd.C_drewN ?_ _) | (with_reducible refine Kd.C_drew ?_) | exact HR304_0.out)) hb); have n2_ := Aside0.mk (below_step (by repeat (first | (with_reducible first | exact HB.out | apply below_alloc | apply pw_below_drewN | apply below_drew1 | refine below_set ?_ GE299.out) | exact HB.out)) hb); clear BK299; clear HR304_0; clear HB; have BK299 := n0_; have HR304_0 := n1_; have HB := n2_; clear n0_ n1_ n2_; (try clear hb); (try clear hb2); (try clear hk); (try clear hi)))
           go_roundg k1
           case measure => have := HK1.out; omega
           case rel => exact ⟨(wrap64 (x6_1 + 1)), (wrap64 (x21_1 + 1)), (by first | rfl | (simp; done) | (simp [*]; done)), (by first | rfl | (simp; done) | (simp [*]; done)), H', ⟨by have := HK1.out; omega⟩, ⟨by (with_reducible repeat (first | refine blk_drewN ?_ _ | refine blk_drew ?_ | refine blk_alloc ?_ _)); exact BK299.out⟩, ⟨by repeat (first | (with_reducible exact HR304_0.out) | (with_reducible refine Kd.C_alloc ?_ _) | (with_reducible refine Kd.C_drewN ?_ _) | (with_reducible refine Kd.C_drew ?_) | exact HR304_0.out)⟩, ⟨by repeat (first | (with_reducible first | exact HB.out | apply below_alloc | apply pw_below_drewN | apply below_drew1 | refine below_set ?_ GE299.out) | exact HB.out)⟩⟩
         ·rw [if_neg c14] at H
          exact absurd H (by simp)
        ·rw [if_neg c13] at H
         exact absurd H (by simp)
       ·rw [if_neg c12] at H
        have c12b0 : decide (x21_1 < ((rd_L5 t300 a1).length : Int)) = false := decide_eq_false c12
        clear c12
        obtain rfl := Option.some.inj H
        go_wp2
        go_ret
        exact ⟨by first | rfl | (simp [errW_none, errW_some] <;> rfl) | (simp [*, errW_none, errW_some] <;> rfl), by repeat (first | (with_reducible first | exact HB.out | apply below_alloc | apply pw_below_drewN | apply below_drew1 | refine below_set ?_ GE299.out) | exact HB.out)⟩
    ·rw [if_neg c7] at H
     exact absurd H (by simp)
   ·rw [if_neg c6] at H
    exact absurd H (by simp)
  ·replace c5 := Bool.eq_false_iff.mpr c5
   subst c5
   have H1 : (some (-1)) = some r := by rw [if_neg (show ¬ (false = true) by decide)] at H; exact H
   clear H
   have H := H1
   clear H1
   obtain rfl := Option.some.inj H
   go_enter Try.func39, Try.ntmps39
   go_wp2_with (first | ((with_reducible refine gate_dst (N := 2) rfl ?_); refine box_event ?hg (N := 2) ?hd (cs := #[.int .i64 a0_0, .int .i64 a0_1, .string a0_2]) (t := 48) ?hr ?_; (case hd => rfl); (case hg => rfl); (case hr => first | (go_simp; done) | (go_simp; rfl)); intro gb299 hg w21 hbox hb; have n0_ := Aside0.mk (below_step (by repeat (first | (with_reducible first | exact HB.out | apply below_alloc | apply pw_below_drewN | apply below_drew1) | exact HB.out)) hb); have n1_ := Aside0.mk (hbox); have n2_ := Aside0.mk ((by rw [hg]; exact (below_size (by repeat (first | (with_reducible first | exact HB.out | apply below_alloc | apply pw_below_drewN | apply below_drew1) | exact HB.out))) : w.heap.size ≤ gb299)); have n3_ := Aside0.mk ((by rw [hg]; exact (below_size (by repeat (first | (with_reducible first | exact HB.out | apply below_alloc | apply pw_below_drewN | apply below_drew1) | exact HB.out))) : w.heap.size ≤ gb299)); clear HB; have HB := n0_; have BK299 := n1_; have GW299 := n2_; have GE299 := n3_; clear n0_ n1_ n2_ n3_; clear hb hbox hg; have hcz22_0 : w21.cell? ⟨gb299, 0, none⟩ = some (.int .i64 a0_0) := (blk_cell BK299.out 0).trans rfl; have hcz22_1 : w21.cell? ⟨gb299, 1, none⟩ = some (.int .i64 a0_1) := (blk_cell BK299.out 1).trans rfl; have hcz22_2 : w21.cell? ⟨gb299, 2, none⟩ = some (.string a0_2) := (blk_cell BK299.out 2).trans rfl; have hfz22_0 := blk_frozen BK299.out 0; have hfz22_1 := blk_frozen BK299.out 1; have hfz22_2 := blk_frozen BK299.out 2) | ((with_reducible refine gate_callee (f := 74) rfl ?_); refine goesL_ (some 10) rfl rfl Try.func74 (by kernel_rfl) rfl #[.agg #[.int .i64 a0_0, .int .i64 a0_1, .string a0_2]] rfl (by (try simp only [List.map_toArray, List.map_cons, List.map_nil]); first | done | rfl | (simp only [List.length_drop, List.length_take]; rfl)) ?_; (with_reducible refine (impl_layout.calls k a0_0 a0_1 a0_2 t300 _ A3.out).mono ?_); rintro e w23 ⟨v301, rfl, ho0, hb⟩; refine ⟨_, rfl, ?_⟩; have n0_ := Aside0.mk (Kd.S_lower ho0 (below_size (by repeat (first | (with_reducible first | exact HB.out | apply below_alloc | apply pw_below_drewN | apply below_drew1 | refine below_set ?_ GE299.out) | exact HB.out)))); have n1_ := Aside0.mk (blk_below (g := gb299) (o := .cells #[.int .i64 a0_0, .int .i64 a0_1, .string a0_2] 48 (0, 0)) (by (with_reducible repeat (first | refine blk_drewN ?_ _ | refine blk_drew ?_ | refine blk_alloc ?_ _)); exact BK299.out) hb); have n2_ := Aside0.mk (below_step (by repeat (first | (with_reducible first | exact HB.out | apply below_alloc | apply pw_below_drewN | apply below_drew1 | refine below_set ?_ GE299.out) | exact HB.out)) hb); clear BK299; clear HB; have HO302 := n0_; have BK299 := n1_; have HB := n2_; clear n0_ n1_ n2_; (try clear hb); (try clear hb2); (try clear hk); (try clear hi); (try clear ho0); obtain ⟨Ao24, co24, eo24⟩ := Kd.S_slice HO302.out; subst eo24) | ((with_reducible refine gate_callee (f := 54) rfl ?_); refine goesL_ (some 14) rfl rfl Try.func54 (by kernel_rfl) rfl #[.int .i64 a1, .int .i64 (t300.length : Int)] rfl (by (try simp only [List.map_toArray, List.map_cons, List.map_nil]); first | done | rfl | (simp only [List.length_drop, List.length_take]; rfl)) ?_; (with_reducible refine (impl_at.calls a1 (t300.length : Int) false _ A4.out).mono ?_); rintro e w' ⟨rfl, ⟨nd, rfl⟩⟩; refine ⟨_, rfl, ?_⟩))
   go_ret
   exact ⟨by first | rfl | (simp [errW_none, errW_some] <;> rfl) | (simp [*, errW_none, errW_some] <;> rfl), by repeat (first | (with_reducible first | exact HB.out | apply below_alloc | apply pw_below_drewN | apply below_drew1 | refine below_set ?_ GE299.out) | exact HB.out)⟩

/-! ### laws_FnCrossings: function 5 (given) -/
/-- The first loop: each crossing's slots hold its cell, where it says. -/
def coGo (k : Nat) (r c : Int) (s : ByteArray) (sl : List S57) : List S59 → Option Bool
  | [] => some true
  | e :: l => (impl_CellsOf.f k r c s (rd_T57 sl e.f0).f0 (rd_T57 sl e.f0).f1 (rd_T57 sl e.f0).f2 (rd_T57 sl e.f0).f3).bind fun a => (impl_CellsOf.f k r c s (rd_T57 sl e.f1).f0 (rd_T57 sl e.f1).f1 (rd_T57 sl e.f1).f2 (rd_T57 sl e.f1).f3).bind fun b => (impl_IsChecked.f k r c s e.f4).bind fun t => (impl_CrossedBy.f k r c s e.f0).bind fun ca => (laws_contains.f k ca e.f1).bind fun t1 => (impl_CrossedBy.f k r c s e.f1).bind fun cb => (laws_contains.f k cb e.f0).bind fun t2 => if ((0 ≤ e.f0 ∧ e.f0 < e.f1 ∧ e.f1 < (sl.length : Int)) ∧ (0 ≤ e.f2 ∧ e.f2 < (a.length : Int)) ∧ (0 ≤ e.f3 ∧ e.f3 < (b.length : Int)) ∧ (rd a e.f2 = e.f4 ∧ rd b e.f3 = e.f4 ∧ (rd_T57 sl e.f0).f1 ≠ (rd_T57 sl e.f1).f1)) ∧ (t = true ∧ t1 = true ∧ t2 = true) ∧ sl.length ≤ 1000 then coGo k r c s sl l else none
theorem coGo_cons (k : Nat) (r c : Int) (s : ByteArray) (sl : List S57) (e : S59) (l : List S59) : coGo k r c s sl (e :: l) = (impl_CellsOf.f k r c s (rd_T57 sl e.f0).f0 (rd_T57 sl e.f0).f1 (rd_T57 sl e.f0).f2 (rd_T57 sl e.f0).f3).bind fun a => (impl_CellsOf.f k r c s (rd_T57 sl e.f1).f0 (rd_T57 sl e.f1).f1 (rd_T57 sl e.f1).f2 (rd_T57 sl e.f1).f3).bind fun b => (impl_IsChecked.f k r c s e.f4).bind fun t => (impl_CrossedBy.f k r c s e.f0).bind fun ca => (laws_contains.f k ca e.f1).bind fun t1 => (impl_CrossedBy.f k r c s e.f1).bind fun cb => (laws_contains.f k cb e.f0).bind fun t2 => if ((0 ≤ e.f0 ∧ e.f0 < e.f1 ∧ e.f1 < (sl.length : Int)) ∧ (0 ≤ e.f2 ∧ e.f2 < (a.length : Int)) ∧ (0 ≤ e.f3 ∧ e.f3 < (b.length : Int)) ∧ (rd a e.f2 = e.f4 ∧ rd b e.f3 = e.f4 ∧ (rd_T57 sl e.f0).f1 ≠ (rd_T57 sl e.f1).f1)) ∧ (t = true ∧ t1 = true ∧ t2 = true) ∧ sl.length ≤ 1000 then coGo k r c s sl l else none := rfl
/-- The second loop: what the slots hold that is crossed. -/
def suGo (k : Nat) (r c : Int) (s : ByteArray) : List S57 → Nat → Int → Option Int
  | [], _, a => some a
  | x :: l, i, a => (impl_UncheckedIn.f k r c s (i : Int)).bind fun u => if (0 ≤ a ∧ a ≤ 1000000) ∧ (0 ≤ x.f3 ∧ x.f3 ≤ 1000) ∧ (-1 ≤ u ∧ u ≤ 1000) then suGo k r c s l (i + 1) (a + x.f3 - u) else none
theorem suGo_cons (k : Nat) (r c : Int) (s : ByteArray) (x : S57) (l : List S57) (i : Nat) (a : Int) : suGo k r c s (x :: l) i a = (impl_UncheckedIn.f k r c s (i : Int)).bind fun u => if (0 ≤ a ∧ a ≤ 1000000) ∧ (0 ≤ x.f3 ∧ x.f3 ≤ 1000) ∧ (-1 ≤ u ∧ u ≤ 1000) then suGo k r c s l (i + 1) (a + x.f3 - u) else none := rfl
def laws_FnCrossings.g (k : Nat) (r c : Int) (s : ByteArray) (sl : List S57) (xs : List S59) : Option Bool := (coGo k r c s sl xs).bind fun g1 => (impl_CheckedShare.f k r c s).bind fun cw => (suGo k r c s sl 0 0).bind fun sm => (impl_UncheckedIn.f k r c s (sl.length : Int)).bind fun u => if g1 = true ∧ (cw.1 = (xs.length : Int) ∧ sm = 2 * cw.1 ∧ cw.1 ≤ cw.2 ∧ u = -1) ∧ sl.length ≤ 1000 ∧ xs.length ≤ 1000 then some true else none
def laws_FnCrossings.f (k : Nat) (l0 : List Int) : Option Bool := (laws_big.f l0).bind fun b => if b = true then some true else (spec_DrawCrossingsOf.f k l0).bind fun g => (impl_SlotsOf.f k g.1 g.2.1 g.2.2).bind fun sl => (impl_CrossingsOf.f k g.1 g.2.1 g.2.2).bind fun xs => laws_FnCrossings.g k g.1 g.2.1 g.2.2 sl xs
/-- What stands while the law runs: the grid's box, the slots, the crossings. -/
structure FxW (w : World) (B : Nat) (r c : Int) (s : ByteArray) (A : Option Addr) (sl : List S57) (AX : Option Addr) (xs : List S59) (w' : World) : Prop where
  bk : w'.heap[B]? = some (.cells #[.int .i64 r, .int .i64 c, .string s] 48 (0, 0))
  hs : Kd.C k57 w' A sl.length sl
  hx : Kd.C k59 w' AX xs.length xs
  bl : Below w.heap.size w w'
theorem FxW.below {w : World} {B : Nat} {r c : Int} {s : ByteArray} {A : Option Addr} {sl : List S57} {AX : Option Addr} {xs : List S59} {w' w2 : World} (h : FxW w B r c s A sl AX xs w') (hb : Below w'.heap.size w' w2) : FxW w B r c s A sl AX xs w2 := ⟨blk_below h.bk hb, Kd.C_below h.hs hb, Kd.C_below h.hx hb, below_step h.bl hb⟩
theorem FxW.drew {w : World} {B : Nat} {r c : Int} {s : ByteArray} {A : Option Addr} {sl : List S57} {AX : Option Addr} {xs : List S59} {w' : World} (h : FxW w B r c s A sl AX xs w') : FxW w B r c s A sl AX xs w'.drew := h.below (below_drew (Below.refl _ _))
theorem fx_drewN {w w' : World} {n : Nat} (h : w' = w.drewN n) : Below w.heap.size w w' := h ▸ pw_below_drewN (Below.refl _ _) n
theorem fx_g {w : World} {B : Nat} {r c : Int} {s : ByteArray} {A : Option Addr} {sl : List S57} {AX : Option Addr} {xs : List S59} {W : World} (h : FxW w B r c s A sl AX xs W) : W.cell? ⟨B, 0, none⟩ = some (.int .i64 r) ∧ W.cell? ⟨B, 1, none⟩ = some (.int .i64 c) ∧ W.cell? ⟨B, 2, none⟩ = some (.string s) := ⟨(blk_cell h.bk 0).trans rfl, (blk_cell h.bk 1).trans rfl, (blk_cell h.bk 2).trans rfl⟩
theorem fx_s {w : World} {B : Nat} {r c : Int} {s : ByteArray} {A : Option Addr} {sl : List S57} {AX : Option Addr} {xs : List S59} {W : World} (h : FxW w B r c s A sl AX xs W) {i : Nat} (hi : i < sl.length) {ad : Addr} (hA : A = some ad) {x : S57} (hx : rd_T57 sl (i : Int) = x) : W.cell? (ad.add (i * 4)) = some (.int .i64 x.f0) ∧ W.cell? ⟨(ad.add (i * 4)).block, (ad.add (i * 4)).off + 1, none⟩ = some (.bool x.f1) ∧ W.cell? ⟨(ad.add (i * 4)).block, (ad.add (i * 4)).off + 2, none⟩ = some (.int .i64 x.f2) ∧ W.cell? ⟨(ad.add (i * 4)).block, (ad.add (i * 4)).off + 3, none⟩ = some (.int .i64 x.f3) := by
  obtain ⟨ad2, e1, h1⟩ := at_T57 h.hs (i : Int) (by omega) (by omega)
  obtain rfl := Option.some.inj (hA.symm.trans e1)
  rw [hx] at h1
  simp only [Int.toNat_natCast] at h1
  exact h1
theorem fx_x {w : World} {B : Nat} {r c : Int} {s : ByteArray} {A : Option Addr} {sl : List S57} {AX : Option Addr} {xs : List S59} {W : World} (h : FxW w B r c s A sl AX xs W) {i : Nat} (hi : i < xs.length) {ad : Addr} (hA : AX = some ad) {x : S59} (hx : rd_T59 xs (i : Int) = x) : W.cell? (ad.add (i * 5)) = some (.int .i64 x.f0) ∧ W.cell? ⟨(ad.add (i * 5)).block, (ad.add (i * 5)).off + 1, none⟩ = some (.int .i64 x.f1) ∧ W.cell? ⟨(ad.add (i * 5)).block, (ad.add (i * 5)).off + 2, none⟩ = some (.int .i64 x.f2) ∧ W.cell? ⟨(ad.add (i * 5)).block, (ad.add (i * 5)).off + 3, none⟩ = some (.int .i64 x.f3) ∧ W.cell? ⟨(ad.add (i * 5)).block, (ad.add (i * 5)).off + 4, none⟩ = some (.int .i64 x.f4) := by
  obtain ⟨ad2, e1, h1⟩ := at_T59 h.hx (i : Int) (by omega) (by omega)
  obtain rfl := Option.some.inj (hA.symm.trans e1)
  rw [hx] at h1
  simp only [Int.toNat_natCast] at h1
  exact h1
theorem fx_c {W : World} {A : Option Addr} {C : List Int} (h : Kd.C (Kd.int .i64) W A C.length C) {q : Nat} (hq : q < C.length) {y : Int} (hy : rd C (q : Int) = y) : ∃ bk o, A = some ⟨bk, o, none⟩ ∧ W.cell? ⟨bk, o + q, none⟩ = some (.int .i64 y) := by
  obtain ⟨ad, e1, hx⟩ := Kd.at_int h 0 (by omega) (by omega)
  subst e1
  have hx0 : W.cell? ad = some (.int .i64 (rd C 0)) := hx
  have hs : ad.spot = none := by
    unfold World.cell? at hx0
    split at hx0
    · split at hx0
      · cases hx0
      · rename_i hn
        cases hsp : ad.spot with
        | none => rfl
        | some v => rw [hsp] at hn; simp at hn
    · cases hx0
  obtain ⟨bk, o, sp⟩ := ad
  simp only at hs
  subst hs
  obtain ⟨ad3, e3, hz⟩ := Kd.at_int h (q : Int) (by omega) (by omega)
  cases e3
  rw [hy] at hz
  simp only [Int.toNat_natCast] at hz
  refine ⟨bk, o, rfl, ?_⟩
  rw [← hz]
  unfold Addr.add
  split <;> simp_all
theorem fx_ca {W : World} {bk o : Nat} {C : List Int} (h : Kd.C (Kd.int .i64) W (some ⟨bk, o, none⟩) C.length C) {q : Nat} (hq : q < C.length) {y : Int} (hy : rd C (q : Int) = y) : W.cell? ⟨bk, o + q, none⟩ = some (.int .i64 y) := by
  obtain ⟨bk2, o2, e, hc⟩ := fx_c h hq hy
  cases e
  exact hc
set_option maxHeartbeats 40000000 in
set_option maxRecDepth 100000 in
theorem laws_FnCrossings.calls (k : Nat) (A0 : Option Addr) (c0_ : Nat) (l0 : List Int) (r_ : Bool) (w : World) (hr0 : Kd.C (Kd.int .u8) w A0 l0.length l0) (hc0 : l0.length ≤ c0_) (h : laws_FnCrossings.f k l0 = some r_) :
    Calls Try.prog 5 #[.slice A0 l0.length c0_] w fun e w' => e = .returned (.bool r_) ∧ Below w.heap.size w w' := by
  unfold laws_FnCrossings.f at h
  obtain ⟨b, hb, hz_⟩ := Option.bind_eq_some_iff.mp h
  clear h; have h := hz_; clear hz_
  have KB := Aside0.mk (fun W hC => laws_big.calls A0 c0_ l0 b W hC hc0 hb)
  have HP := Aside0.mk hr0
  have HPC := Aside0.mk hc0
  clear hr0 hc0 hb
  cases b with
  | true =>
    rw [if_pos rfl] at h
    obtain rfl := Option.some.inj h
    clear h
    go_enter Try.func5, Try.ntmps5
    go_wp2_with fail
    go_at_call 7
    refine (KB.out _ HP.out).mono ?_
    rintro e w' ⟨rfl, nd, rfl⟩
    go_wp2
    go_ret
    exact ⟨rfl, pw_below_drewN (Below.refl _ _) _⟩
  | false =>
    rw [if_neg (by simp)] at h
    obtain ⟨⟨r, c, s⟩, ha, hz_⟩ := Option.bind_eq_some_iff.mp h
    clear h; have h := hz_; clear hz_
    obtain ⟨sl, hsl, hz_⟩ := Option.bind_eq_some_iff.mp h
    clear h; have h := hz_; clear hz_
    obtain ⟨xs, hxs, hz_⟩ := Option.bind_eq_some_iff.mp h
    clear h; have h := hz_; clear hz_
    unfold laws_FnCrossings.g at h
    obtain ⟨g1, hg1, hz_⟩ := Option.bind_eq_some_iff.mp h
    clear h; have h := hz_; clear hz_
    obtain ⟨⟨ch, wh⟩, hcw, hz_⟩ := Option.bind_eq_some_iff.mp h
    clear h; have h := hz_; clear hz_
    obtain ⟨sm, hsm, hz_⟩ := Option.bind_eq_some_iff.mp h
    clear h; have h := hz_; clear hz_
    obtain ⟨un, hun, hz_⟩ := Option.bind_eq_some_iff.mp h
    clear h; have h := hz_; clear hz_
    by_cases hcc : g1 = true ∧ (ch = (xs.length : Int) ∧ sm = 2 * ch ∧ ch ≤ wh ∧ un = -1) ∧ sl.length ≤ 1000 ∧ xs.length ≤ 1000
    · rw [if_pos hcc] at h
      obtain rfl := Option.some.inj h
      clear h
      obtain ⟨rfl, ⟨rfl, rfl, hwh, rfl⟩, hl1, hl2⟩ := hcc
      have KD := Aside0.mk (fun W hC => spec_DrawCrossingsOf.calls k A0 c0_ l0 r c s W hC HPC.out ha)
      have KS := Aside0.mk (fun W => impl_SlotsOf.calls k r c s sl W hsl)
      have KX := Aside0.mk (fun W => impl_CrossingsOf.calls k r c s xs W hxs)
      have KW := Aside0.mk (fun W => impl_CheckedShare.calls k r c s _ wh W hcw)
      have KU := Aside0.mk (fun W => impl_UncheckedIn.calls k r c s (sl.length : Int) (-1) W hun)
      have HG1 := Aside0.mk (show coGo k r c s sl (xs.drop 0) = some true from hg1)
      have HG2 := Aside0.mk (show suGo k r c s (sl.drop 0) 0 0 = some (2 * (xs.length : Int)) from hsm)
      have HL1 := Aside0.mk hl1
      have HL2 := Aside0.mk hl2
      have HWH := Aside0.mk hwh
      clear ha hsl hxs hcw hun hg1 hsm hl1 hl2 hwh
      go_enter Try.func5, Try.ntmps5
      go_wp2_with fail
      go_at_call 7
      refine (KB.out _ HP.out).mono ?_
      rintro e w' ⟨rfl, nd, rfl⟩
      have HB1 := Aside0.mk (pw_below_drewN (Below.refl w.heap.size w) nd)
      clear KB
      generalize w.drewN nd = w1 at HB1 ⊢
      go_wp2_with fail
      go_at_call 31
      refine (KD.out _ (Kd.C_below HP.out HB1.out)).mono ?_
      rintro e w2 ⟨rfl, hb⟩
      have HB2 := Aside0.mk (below_step HB1.out hb)
      have BK := Aside0.mk (blk_new w2 (.cells #[.int .i64 r, .int .i64 c, .string s] 48))
      clear hb KD HB1
      go_wp2_with fail
      go_at_call 32
      refine (KS.out _).mono ?_
      rintro e w3 ⟨v0, rfl, hr, hb⟩
      obtain ⟨A, cA, rfl⟩ := Kd.R_slice hr
      have HS := Aside0.mk (Kd.R_reads' hr).2.2
      have BK2 := Aside0.mk (blk_below BK.out hb)
      have HB3 := Aside0.mk (below_step (below_alloc HB2.out _) hb)
      clear hb hr KS HB2 BK
      generalize w2.heap.size = B at BK2 ⊢
      have c0 := (blk_cell BK2.out 0).trans rfl
      have c1 := (blk_cell BK2.out 1).trans rfl
      have c2 := (blk_cell BK2.out 2).trans rfl
      go_wp2_with fail
      go_at_call 33
      refine (KX.out _).mono ?_
      rintro e w4 ⟨v0, rfl, hr, hb⟩
      obtain ⟨AX, cX, rfl⟩ := Kd.R_slice hr
      have HF := Aside0.mk (show FxW w B r c s A sl AX xs w4 from ⟨blk_below BK2.out hb, Kd.C_below HS.out hb, (Kd.R_reads' hr).2.2, below_step HB3.out hb⟩)
      clear hb hr KX HB3 BK2 HS c0 c1 c2
      go_wp2
      go_loopg [6] xs.length (fun kq v6 w' => ∃ (i : Nat), v6 = .int .i64 (i : Int) ∧ Aside0 (i ≤ xs.length) ∧ Aside0 (xs.length - i ≤ kq) ∧ Aside0 (coGo k r c s sl (xs.drop i) = some true) ∧ Aside0 (FxW w B r c s A sl AX xs w'))
      case atStart => exact ⟨0, rfl, ⟨Nat.zero_le _⟩, ⟨by omega⟩, HG1, HF⟩
      case round =>
        clear HG1 HF
        obtain ⟨i, rfl, hi, hk, heq, HF⟩ := hrel
        have hll := HL2.out
        by_cases hlt : i < xs.length
        ·
          have cb0 : decide ((i : Int) < (xs.length : Int)) = true := by simp; exact hlt
          have cb1 : decide (i < xs.length) = true := decide_eq_true hlt
          have heq' := heq.out
          rw [List.drop_eq_getElem_cons hlt, coGo_cons] at heq'
          have hxe : rd_T59 xs (i : Int) = xs[i] := by
            unfold rd_T59
            simp [hlt]
          generalize xs[i] = x at heq' hxe
          obtain ⟨a, ha, hz_⟩ := Option.bind_eq_some_iff.mp heq'
          clear heq'; have heq' := hz_; clear hz_
          obtain ⟨b, hb, hz_⟩ := Option.bind_eq_some_iff.mp heq'
          clear heq'; have heq' := hz_; clear hz_
          obtain ⟨t, ht, hz_⟩ := Option.bind_eq_some_iff.mp heq'
          clear heq'; have heq' := hz_; clear hz_
          obtain ⟨ca, hca, hz_⟩ := Option.bind_eq_some_iff.mp heq'
          clear heq'; have heq' := hz_; clear hz_
          obtain ⟨t1, ht1, hz_⟩ := Option.bind_eq_some_iff.mp heq'
          clear heq'; have heq' := hz_; clear hz_
          obtain ⟨cb, hcb, hz_⟩ := Option.bind_eq_some_iff.mp heq'
          clear heq'; have heq' := hz_; clear hz_
          obtain ⟨t2, ht2, hz_⟩ := Option.bind_eq_some_iff.mp heq'
          clear heq'; have heq' := hz_; clear hz_
          obtain ⟨e0, e1, e2, e3, y⟩ := x
          simp only at ha hb ht hca ht1 hcb ht2 heq'
          by_cases hc : ((0 ≤ e0 ∧ e0 < e1 ∧ e1 < (sl.length : Int)) ∧ (0 ≤ e2 ∧ e2 < (a.length : Int)) ∧ (0 ≤ e3 ∧ e3 < (b.length : Int)) ∧ (rd a e2 = y ∧ rd b e3 = y ∧ (rd_T57 sl e0).f1 ≠ (rd_T57 sl e1).f1)) ∧ (t = true ∧ t1 = true ∧ t2 = true) ∧ sl.length ≤ 1000
          · rw [if_pos hc] at heq'
            have HE := Aside0.mk heq'
            clear heq heq'
            obtain ⟨⟨⟨hp0, hp1, hp2⟩, ⟨hu0, hu1⟩, ⟨hv0, hv1⟩, ⟨hya, hyb, hdd⟩⟩, ⟨rfl, rfl, rfl⟩, hls⟩ := hc
            obtain ⟨p, rfl⟩ := Int.eq_ofNat_of_zero_le hp0
            obtain ⟨p2, rfl⟩ := Int.eq_ofNat_of_zero_le (show 0 ≤ e1 by omega)
            obtain ⟨u, rfl⟩ := Int.eq_ofNat_of_zero_le hu0
            obtain ⟨v, rfl⟩ := Int.eq_ofNat_of_zero_le hv0
            have HXE := Aside0.mk hxe
            have HLT := Aside0.mk hlt
            have HP0 := Aside0.mk (show p < sl.length by omega)
            have HP1 := Aside0.mk (show p2 < sl.length by omega)
            have HU := Aside0.mk (show u < a.length by omega)
            have HV := Aside0.mk (show v < b.length by omega)
            have HYA := Aside0.mk hya
            have HYB := Aside0.mk hyb
            generalize hx0 : rd_T57 sl (p : Int) = x0 at ha hdd
            generalize hx1 : rd_T57 sl (p2 : Int) = x1 at hb hdd
            obtain ⟨n0, d0, a0, b0⟩ := x0
            obtain ⟨n1, d1, a1, b1⟩ := x1
            simp only at ha hb hdd
            have HX0 := Aside0.mk hx0
            have HX1 := Aside0.mk hx1
            have KA := Aside0.mk (fun W => impl_CellsOf.calls k r c s n0 d0 a0 b0 a W ha)
            have KB := Aside0.mk (fun W => impl_CellsOf.calls k r c s n1 d1 a1 b1 b W hb)
            have KT := Aside0.mk (fun W => impl_IsChecked.calls k r c s y true W ht)
            have KCA := Aside0.mk (fun W => impl_CrossedBy.calls k r c s (p : Int) ca W hca)
            have KCB := Aside0.mk (fun W => impl_CrossedBy.calls k r c s (p2 : Int) cb W hcb)
            have KN1 := Aside0.mk (fun Ax cx W h1 h2 => laws_contains.calls k Ax cx ca (p2 : Int) true W h1 h2 ht1)
            have KN2 := Aside0.mk (fun Ax cx W h1 h2 => laws_contains.calls k Ax cx cb (p : Int) true W h1 h2 ht2)
            obtain ⟨ad, eA, _⟩ := at_T57 HF.out.hs (p : Int) (by omega) (by omega)
            obtain ⟨ax, eX, _⟩ := at_T59 HF.out.hx (i : Int) (by omega) (by omega)
            cases eA
            cases eX
            have w1 : (d0 == d1) = false := beq_eq_false_iff_ne.mpr hdd
            have w2 : decide ((p2 : Int) ≤ (p : Int)) = false := decide_eq_false (by omega)
            have w3 : decide (p2 ≤ p) = false := decide_eq_false (by omega)
            have p1 : (0 ≤ (i : Int)) = True := eq_true (by omega)
            have q1 : ((i : Int) < (xs.length : Int)) = True := eq_true (by omega)
            have q2 : ((p : Int) < (sl.length : Int)) = True := eq_true (by omega)
            have q3 : ((p2 : Int) < (sl.length : Int)) = True := eq_true (by omega)
            have q4 : ((u : Int) < (a.length : Int)) = True := eq_true (by omega)
            have q5 : ((v : Int) < (b.length : Int)) = True := eq_true (by omega)
            clear hxe ha hb ht hca ht1 hcb ht2 hp0 hp1 hp2 hu0 hu1 hv0 hv1 hya hyb hdd hx0 hx1 hls
            go_upto_region 9 with fail
            go_cut [7] (fun v7 w' => ∃ (A7 : Option Addr) (c7 : Nat), v7 = .slice A7 a.length c7 ∧ Aside0 (Kd.C (Kd.int .i64) w' A7 a.length a) ∧ Aside0 (FxW w B r c s (some ad) sl (some ax) xs w'))
            case first => as_aux_lemma =>
              have HFd := Aside0.mk HF.out.drew
              clear HF
              have HALL := (⟨fx_g HFd.out, fx_x HFd.out HLT.out rfl HXE.out, fx_s HFd.out HP0.out rfl HX0.out, HFd⟩ : _ ∧ _ ∧ _ ∧ _)
              go_region_held3 (fun w' => (w'.cell? ⟨B, 0, none⟩ = some (.int .i64 r) ∧ w'.cell? ⟨B, 1, none⟩ = some (.int .i64 c) ∧ w'.cell? ⟨B, 2, none⟩ = some (.string s)) ∧ (w'.cell? (ax.add (i * 5)) = some (.int .i64 (p : Int)) ∧ w'.cell? ⟨(ax.add (i * 5)).block, (ax.add (i * 5)).off + 1, none⟩ = some (.int .i64 (p2 : Int)) ∧ w'.cell? ⟨(ax.add (i * 5)).block, (ax.add (i * 5)).off + 2, none⟩ = some (.int .i64 (u : Int)) ∧ w'.cell? ⟨(ax.add (i * 5)).block, (ax.add (i * 5)).off + 3, none⟩ = some (.int .i64 (v : Int)) ∧ w'.cell? ⟨(ax.add (i * 5)).block, (ax.add (i * 5)).off + 4, none⟩ = some (.int .i64 y)) ∧ (w'.cell? (ad.add (p * 4)) = some (.int .i64 n0) ∧ w'.cell? ⟨(ad.add (p * 4)).block, (ad.add (p * 4)).off + 1, none⟩ = some (.bool d0) ∧ w'.cell? ⟨(ad.add (p * 4)).block, (ad.add (p * 4)).off + 2, none⟩ = some (.int .i64 a0) ∧ w'.cell? ⟨(ad.add (p * 4)).block, (ad.add (p * 4)).off + 3, none⟩ = some (.int .i64 b0)) ∧ Aside0 (FxW w B r c s (some ad) sl (some ax) xs w')) (first | assumption | (go_split_ands; exact ⟨fx_g (‹Aside0 (FxW _ _ _ _ _ _ _ _ _ _)›.out.below hb9), fx_x (‹Aside0 (FxW _ _ _ _ _ _ _ _ _ _)›.out.below hb9) HLT.out rfl HXE.out, fx_s (‹Aside0 (FxW _ _ _ _ _ _ _ _ _ _)›.out.below hb9) HP0.out rfl HX0.out, ⟨(‹Aside0 (FxW _ _ _ _ _ _ _ _ _ _)›.out.below hb9)⟩⟩) | exact HALL) (first | (go_at_call 34; refine (KA.out _).mono ?_; rintro e wa ⟨v_, rfl, hr_, hb9⟩; obtain ⟨A7, c7, rfl⟩ := Kd.R_slice hr_; have HCN := Aside0.mk (Kd.R_reads' hr_).2.2; clear hr_))
              all_goals (go_wp2_with fail; go_meet; (case rel => (go_split_ands; exact ⟨_, _, rfl, HCN, ‹Aside0 (FxW _ _ _ _ _ _ _ _ _ _)›⟩)))
            case rest =>
              obtain ⟨A7, c7, rfl, HC7, HF2⟩ := hcut
              clear HF
              have HF := HF2
              clear HF2
              obtain ⟨bka, oa, rfl, _⟩ := fx_c HC7.out HU.out HYA.out
              go_upto_region 10 with fail
              go_cut [8] (fun v8 w' => ∃ (A8 : Option Addr) (c8 : Nat), v8 = .slice A8 b.length c8 ∧ Aside0 (Kd.C (Kd.int .i64) w' A8 b.length b) ∧ Aside0 (Kd.C (Kd.int .i64) w' (some ⟨bka, oa, none⟩) a.length a) ∧ Aside0 (FxW w B r c s (some ad) sl (some ax) xs w'))
              case first => as_aux_lemma =>
                have HCd := Aside0.mk (Kd.C_below HC7.out (below_drew (Below.refl _ _)))
                have HFd := Aside0.mk HF.out.drew
                clear HF
                clear HC7
                have HALL := (⟨fx_g HFd.out, fx_x HFd.out HLT.out rfl HXE.out, fx_s HFd.out HP1.out rfl HX1.out, HCd, HFd⟩ : _ ∧ _ ∧ _ ∧ _ ∧ _)
                go_region_held3 (fun w' => (w'.cell? ⟨B, 0, none⟩ = some (.int .i64 r) ∧ w'.cell? ⟨B, 1, none⟩ = some (.int .i64 c) ∧ w'.cell? ⟨B, 2, none⟩ = some (.string s)) ∧ (w'.cell? (ax.add (i * 5)) = some (.int .i64 (p : Int)) ∧ w'.cell? ⟨(ax.add (i * 5)).block, (ax.add (i * 5)).off + 1, none⟩ = some (.int .i64 (p2 : Int)) ∧ w'.cell? ⟨(ax.add (i * 5)).block, (ax.add (i * 5)).off + 2, none⟩ = some (.int .i64 (u : Int)) ∧ w'.cell? ⟨(ax.add (i * 5)).block, (ax.add (i * 5)).off + 3, none⟩ = some (.int .i64 (v : Int)) ∧ w'.cell? ⟨(ax.add (i * 5)).block, (ax.add (i * 5)).off + 4, none⟩ = some (.int .i64 y)) ∧ (w'.cell? (ad.add (p2 * 4)) = some (.int .i64 n1) ∧ w'.cell? ⟨(ad.add (p2 * 4)).block, (ad.add (p2 * 4)).off + 1, none⟩ = some (.bool d1) ∧ w'.cell? ⟨(ad.add (p2 * 4)).block, (ad.add (p2 * 4)).off + 2, none⟩ = some (.int .i64 a1) ∧ w'.cell? ⟨(ad.add (p2 * 4)).block, (ad.add (p2 * 4)).off + 3, none⟩ = some (.int .i64 b1)) ∧ (Aside0 (Kd.C (Kd.int .i64) w' (some ⟨bka, oa, none⟩) a.length a)) ∧ Aside0 (FxW w B r c s (some ad) sl (some ax) xs w')) (first | assumption | (go_split_ands; exact ⟨fx_g (‹Aside0 (FxW _ _ _ _ _ _ _ _ _ _)›.out.below hb9), fx_x (‹Aside0 (FxW _ _ _ _ _ _ _ _ _ _)›.out.below hb9) HLT.out rfl HXE.out, fx_s (‹Aside0 (FxW _ _ _ _ _ _ _ _ _ _)›.out.below hb9) HP1.out rfl HX1.out, ⟨Kd.C_below ‹Aside0 (Kd.C _ _ _ a.length a)›.out hb9⟩, ⟨‹Aside0 (FxW _ _ _ _ _ _ _ _ _ _)›.out.below hb9⟩⟩) | exact HALL) (first | (go_at_call 34; refine (KB.out _).mono ?_; rintro e wa ⟨v_, rfl, hr_, hb9⟩; obtain ⟨A8, c8, rfl⟩ := Kd.R_slice hr_; have HCN := Aside0.mk (Kd.R_reads' hr_).2.2; clear hr_))
                all_goals (go_wp2_with fail; go_meet; (case rel => (go_split_ands; exact ⟨_, _, rfl, HCN, ‹Aside0 (Kd.C _ _ _ a.length a)›, ‹Aside0 (FxW _ _ _ _ _ _ _ _ _ _)›⟩)))
              case rest =>
                obtain ⟨A8, c8, rfl, HC8, HC9, HF2⟩ := hcut
                clear HF HC7
                have HF := HF2
                clear HF2
                obtain ⟨bkb, ob, rfl, _⟩ := fx_c HC8.out HV.out HYB.out
                go_upto_region 11 with fail
                go_cut [120] (fun v120 w' => v120 = .bool false ∧ Aside0 (FxW w B r c s (some ad) sl (some ax) xs w'))
                case first => as_aux_lemma =>
                  have HCd := Aside0.mk (Kd.C_below HC9.out (below_drew (Below.refl _ _)))
                  have HDd := Aside0.mk (Kd.C_below HC8.out (below_drew (Below.refl _ _)))
                  have HFd := Aside0.mk HF.out.drew
                  clear HF
                  clear HC8 HC9
                  have HALL := (⟨fx_g HFd.out, fx_x HFd.out HLT.out rfl HXE.out, fx_s HFd.out HP0.out rfl HX0.out, fx_s HFd.out HP1.out rfl HX1.out, fx_ca HCd.out HU.out HYA.out, fx_ca HDd.out HV.out HYB.out, HCd, HDd, HFd⟩ : _ ∧ _ ∧ _ ∧ _ ∧ _ ∧ _ ∧ _ ∧ _ ∧ _)
                  simp only [List.append_eq, List.cons_append, List.nil_append]
                  go_region_held3 (fun w' => (w'.cell? ⟨B, 0, none⟩ = some (.int .i64 r) ∧ w'.cell? ⟨B, 1, none⟩ = some (.int .i64 c) ∧ w'.cell? ⟨B, 2, none⟩ = some (.string s)) ∧ (w'.cell? (ax.add (i * 5)) = some (.int .i64 (p : Int)) ∧ w'.cell? ⟨(ax.add (i * 5)).block, (ax.add (i * 5)).off + 1, none⟩ = some (.int .i64 (p2 : Int)) ∧ w'.cell? ⟨(ax.add (i * 5)).block, (ax.add (i * 5)).off + 2, none⟩ = some (.int .i64 (u : Int)) ∧ w'.cell? ⟨(ax.add (i * 5)).block, (ax.add (i * 5)).off + 3, none⟩ = some (.int .i64 (v : Int)) ∧ w'.cell? ⟨(ax.add (i * 5)).block, (ax.add (i * 5)).off + 4, none⟩ = some (.int .i64 y)) ∧ (w'.cell? (ad.add (p * 4)) = some (.int .i64 n0) ∧ w'.cell? ⟨(ad.add (p * 4)).block, (ad.add (p * 4)).off + 1, none⟩ = some (.bool d0) ∧ w'.cell? ⟨(ad.add (p * 4)).block, (ad.add (p * 4)).off + 2, none⟩ = some (.int .i64 a0) ∧ w'.cell? ⟨(ad.add (p * 4)).block, (ad.add (p * 4)).off + 3, none⟩ = some (.int .i64 b0)) ∧ (w'.cell? (ad.add (p2 * 4)) = some (.int .i64 n1) ∧ w'.cell? ⟨(ad.add (p2 * 4)).block, (ad.add (p2 * 4)).off + 1, none⟩ = some (.bool d1) ∧ w'.cell? ⟨(ad.add (p2 * 4)).block, (ad.add (p2 * 4)).off + 2, none⟩ = some (.int .i64 a1) ∧ w'.cell? ⟨(ad.add (p2 * 4)).block, (ad.add (p2 * 4)).off + 3, none⟩ = some (.int .i64 b1)) ∧ (w'.cell? ⟨bka, oa + u, none⟩ = some (.int .i64 y)) ∧ (w'.cell? ⟨bkb, ob + v, none⟩ = some (.int .i64 y)) ∧ (Aside0 (Kd.C (Kd.int .i64) w' (some ⟨bka, oa, none⟩) a.length a)) ∧ (Aside0 (Kd.C (Kd.int .i64) w' (some ⟨bkb, ob, none⟩) b.length b)) ∧ Aside0 (FxW w B r c s (some ad) sl (some ax) xs w')) (first | assumption | (go_split_ands; exact ⟨fx_g (‹Aside0 (FxW _ _ _ _ _ _ _ _ _ _)›.out.below hb9), fx_x (‹Aside0 (FxW _ _ _ _ _ _ _ _ _ _)›.out.below hb9) HLT.out rfl HXE.out, fx_s (‹Aside0 (FxW _ _ _ _ _ _ _ _ _ _)›.out.below hb9) HP0.out rfl HX0.out, fx_s (‹Aside0 (FxW _ _ _ _ _ _ _ _ _ _)›.out.below hb9) HP1.out rfl HX1.out, fx_ca (Kd.C_below ‹Aside0 (Kd.C _ _ _ a.length a)›.out hb9) HU.out HYA.out, fx_ca (Kd.C_below ‹Aside0 (Kd.C _ _ _ b.length b)›.out hb9) HV.out HYB.out, ⟨Kd.C_below ‹Aside0 (Kd.C _ _ _ a.length a)›.out hb9⟩, ⟨Kd.C_below ‹Aside0 (Kd.C _ _ _ b.length b)›.out hb9⟩, ⟨‹Aside0 (FxW _ _ _ _ _ _ _ _ _ _)›.out.below hb9⟩⟩) | exact HALL) (first | (go_at_call 35; refine (KT.out _).mono ?_; rintro e wa ⟨rfl, hb9⟩))
                  all_goals (go_wp2_with fail; go_meet; (case rel => (go_split_ands; exact ⟨by simp, ‹Aside0 (FxW _ _ _ _ _ _ _ _ _ _)›⟩)))
                case rest =>
                  obtain ⟨rfl, HF2⟩ := hcut
                  clear HF HC8 HC9
                  have HF := HF2
                  clear HF2
                  go_upto_region 13 with fail
                  go_cut [150] (fun v150 w' => v150 = .bool false ∧ Aside0 (FxW w B r c s (some ad) sl (some ax) xs w'))
                  case first => as_aux_lemma =>
                    have HFd := Aside0.mk HF.out.drew
                    clear HF
                    have HALL := (⟨fx_g HFd.out, fx_x HFd.out HLT.out rfl HXE.out, HFd⟩ : _ ∧ _ ∧ _)
                    go_region_held3 (fun w' => (w'.cell? ⟨B, 0, none⟩ = some (.int .i64 r) ∧ w'.cell? ⟨B, 1, none⟩ = some (.int .i64 c) ∧ w'.cell? ⟨B, 2, none⟩ = some (.string s)) ∧ (w'.cell? (ax.add (i * 5)) = some (.int .i64 (p : Int)) ∧ w'.cell? ⟨(ax.add (i * 5)).block, (ax.add (i * 5)).off + 1, none⟩ = some (.int .i64 (p2 : Int)) ∧ w'.cell? ⟨(ax.add (i * 5)).block, (ax.add (i * 5)).off + 2, none⟩ = some (.int .i64 (u : Int)) ∧ w'.cell? ⟨(ax.add (i * 5)).block, (ax.add (i * 5)).off + 3, none⟩ = some (.int .i64 (v : Int)) ∧ w'.cell? ⟨(ax.add (i * 5)).block, (ax.add (i * 5)).off + 4, none⟩ = some (.int .i64 y)) ∧ Aside0 (FxW w B r c s (some ad) sl (some ax) xs w')) (first | assumption | (go_split_ands; exact ⟨fx_g (‹Aside0 (FxW _ _ _ _ _ _ _ _ _ _)›.out.below hb9), fx_x (‹Aside0 (FxW _ _ _ _ _ _ _ _ _ _)›.out.below hb9) HLT.out rfl HXE.out, ⟨(‹Aside0 (FxW _ _ _ _ _ _ _ _ _ _)›.out.below hb9)⟩⟩) | exact HALL) (first | (go_at_call 37; with_reducible refine (KCA.out _).mono ?_; rintro e wa ⟨v_, rfl, hr_, hb9⟩; obtain ⟨A_, c_, rfl⟩ := Kd.R_slice hr_; have HCA := Aside0.mk (Kd.R_reads' hr_).2.2; have HCAL := Aside0.mk (Kd.R_reads' hr_).2.1; clear hr_) | (go_at_call 36; with_reducible refine (KN1.out _ _ _ HCA.out HCAL.out).mono ?_; rintro e wa ⟨rfl, nd9, hdr⟩; have hb9 := fx_drewN hdr; clear hdr) | (go_at_call 37; with_reducible refine (KCB.out _).mono ?_; rintro e wa ⟨v_, rfl, hr_, hb9⟩; obtain ⟨A_, c_, rfl⟩ := Kd.R_slice hr_; have HCB := Aside0.mk (Kd.R_reads' hr_).2.2; have HCBL := Aside0.mk (Kd.R_reads' hr_).2.1; clear hr_) | (go_at_call 36; with_reducible refine (KN2.out _ _ _ HCB.out HCBL.out).mono ?_; rintro e wa ⟨rfl, nd9, hdr⟩; have hb9 := fx_drewN hdr; clear hdr))
                    all_goals (go_wp2_with fail; go_meet; (case rel => (go_split_ands; exact ⟨by simp, ‹Aside0 (FxW _ _ _ _ _ _ _ _ _ _)›⟩)))
                  case rest =>
                    obtain ⟨rfl, HF2⟩ := hcut
                    go_wp2
                    go_roundg (xs.length - (i + 1))
                    case measure => have := hk.out; omega
                    case rel => exact ⟨i + 1, by simp, ⟨by have := HLT.out; omega⟩, ⟨Nat.le_refl _⟩, HE, HF2⟩
          · rw [if_neg hc] at heq'
            cases heq'
        · have cb0 : decide ((i : Int) < (xs.length : Int)) = false := by simp; omega
          have cb1 : decide (i < xs.length) = false := decide_eq_false hlt
          clear heq hi hk hlt
          have c0 := (blk_cell HF.out.bk 0).trans rfl
          have c1 := (blk_cell HF.out.bk 1).trans rfl
          have c2 := (blk_cell HF.out.bk 2).trans rfl
          go_wp2_with fail
          go_at_call 38
          refine (KW.out _).mono ?_
          rintro e w5 ⟨rfl, hb9⟩
          have HG := Aside0.mk (HF.out.below hb9)
          clear HF c0 c1 c2 hb9
          have HF := HG
          clear HG
          go_wp2
          go_loopg [11, 12] sl.length (fun kq v11 v12 w' => ∃ (j : Nat) (sm : Int), v11 = .int .i64 sm ∧ v12 = .int .i64 (j : Int) ∧ Aside0 (j ≤ sl.length) ∧ Aside0 (sl.length - j ≤ kq) ∧ Aside0 (suGo k r c s (sl.drop j) j sm = some (2 * (xs.length : Int))) ∧ Aside0 (FxW w B r c s A sl AX xs w'))
          case atStart => exact ⟨0, 0, rfl, rfl, ⟨Nat.zero_le _⟩, ⟨by omega⟩, HG2, HF⟩
          case round =>
            clear HG2 HF
            obtain ⟨j, sm, rfl, rfl, hj, hk, heq, HF⟩ := hrel
            have hls := HL1.out
            by_cases hlt : j < sl.length
            · have cb0 : decide ((j : Int) < (sl.length : Int)) = true := by simp; exact hlt
              have cb1 : decide (j < sl.length) = true := decide_eq_true hlt
              have heq' := heq.out
              rw [List.drop_eq_getElem_cons hlt, suGo_cons] at heq'
              have hxe : rd_T57 sl (j : Int) = sl[j] := by
                unfold rd_T57
                simp [hlt]
              generalize sl[j] = x at heq' hxe
              obtain ⟨u, hu, hz_⟩ := Option.bind_eq_some_iff.mp heq'
              clear heq'; have heq' := hz_; clear hz_
              obtain ⟨n0, d0, a0, b0⟩ := x
              simp only at heq'
              by_cases hc : (0 ≤ sm ∧ sm ≤ 1000000) ∧ (0 ≤ b0 ∧ b0 ≤ 1000) ∧ (-1 ≤ u ∧ u ≤ 1000)
              · rw [if_pos hc] at heq'
                have HE := Aside0.mk heq'
                clear heq heq'
                have HXE := Aside0.mk hxe
                have HLT := Aside0.mk hlt
                have KJ := Aside0.mk (fun W => impl_UncheckedIn.calls k r c s (j : Int) u W hu)
                obtain ⟨ad, eA, _⟩ := at_T57 HF.out.hs (j : Int) (by omega) (by omega)
                cases eA
                have wp1 : IntKind.i64.wrap (sm + b0) = sm + b0 := IntWalk.i64_in _ (by omega)
                have wp2 : IntKind.i64.wrap (sm + b0 - u) = sm + b0 - u := IntWalk.i64_in _ (by omega)
                have p1 : (0 ≤ (j : Int)) = True := eq_true (by omega)
                have q1 : ((j : Int) < (sl.length : Int)) = True := eq_true (by omega)
                clear hxe hu hc
                go_upto_region 20 with fail
                have HFd := Aside0.mk HF.out.drew
                clear HF
                have HALL := (⟨fx_g HFd.out, fx_s HFd.out HLT.out rfl HXE.out, HFd⟩ : _ ∧ _ ∧ _)
                go_region_held3 (fun w' => (w'.cell? ⟨B, 0, none⟩ = some (.int .i64 r) ∧ w'.cell? ⟨B, 1, none⟩ = some (.int .i64 c) ∧ w'.cell? ⟨B, 2, none⟩ = some (.string s)) ∧ (w'.cell? (ad.add (j * 4)) = some (.int .i64 n0) ∧ w'.cell? ⟨(ad.add (j * 4)).block, (ad.add (j * 4)).off + 1, none⟩ = some (.bool d0) ∧ w'.cell? ⟨(ad.add (j * 4)).block, (ad.add (j * 4)).off + 2, none⟩ = some (.int .i64 a0) ∧ w'.cell? ⟨(ad.add (j * 4)).block, (ad.add (j * 4)).off + 3, none⟩ = some (.int .i64 b0)) ∧ Aside0 (FxW w B r c s (some ad) sl AX xs w')) (first | assumption | (go_split_ands; exact ⟨fx_g (‹Aside0 (FxW _ _ _ _ _ _ _ _ _ _)›.out.below hb9), fx_s (‹Aside0 (FxW _ _ _ _ _ _ _ _ _ _)›.out.below hb9) HLT.out rfl HXE.out, ⟨‹Aside0 (FxW _ _ _ _ _ _ _ _ _ _)›.out.below hb9⟩⟩) | exact HALL) (first | (go_at_call 39; refine (KJ.out _).mono ?_; rintro e wa ⟨rfl, hb9⟩))
                go_split_ands
                have HF2 := ‹Aside0 (FxW _ _ _ _ _ _ _ _ _ _)›
                go_wp2
                go_roundg (sl.length - (j + 1))
                case measure => have := hk.out; have := HLT.out; omega
                case rel => exact ⟨j + 1, _, rfl, by simp, ⟨by have := HLT.out; omega⟩, ⟨Nat.le_refl _⟩, HE, HF2⟩
              · rw [if_neg hc] at heq'
                cases heq'
            · have cb0 : decide ((j : Int) < (sl.length : Int)) = false := by simp; omega
              have cb1 : decide (j < sl.length) = false := decide_eq_false hlt
              have heq' := heq.out
              rw [List.drop_eq_nil_of_le (by omega)] at heq'
              obtain rfl := Option.some.inj (show some sm = some (2 * (xs.length : Int)) from heq')
              have hwh := HWH.out
              have hlx := HL2.out
              have c0 := (blk_cell HF.out.bk 0).trans rfl
              have c1 := (blk_cell HF.out.bk 1).trans rfl
              have c2 := (blk_cell HF.out.bk 2).trans rfl
              have wp1 : IntKind.i64.wrap (2 * (xs.length : Int)) = 2 * (xs.length : Int) := IntWalk.i64_in _ (by omega)
              have y1 : decide ((xs.length : Int) ≤ wh) = true := decide_eq_true hwh
              clear heq heq' hj hk hlt
              go_wp2_with fail
              go_at_call 39
              refine (KU.out _).mono ?_
              rintro e w6 ⟨rfl, hb9⟩
              have HG := Aside0.mk (HF.out.below hb9)
              clear HF c0 c1 c2 hb9
              go_wp2
              go_ret
              exact ⟨by simp, HG.out.bl⟩
    · rw [if_neg hcc] at h
      cases h
/-- THE ONE PURE STATEMENT of laws_FnCrossings. -/
def laws_FnCrossings.Pure : Prop := ∀ (l0 : List Int), l0.length ≤ maxLen → l0.length * 1 ≤ 140737488351232 → (∀ x ∈ l0, (Lit.int .u8 x).wf = true) → ∃ k, laws_FnCrossings.f k l0 = some true
theorem laws_FnCrossings.walk (P : laws_FnCrossings.Pure) (a0 : Option Addr) (len0 cap0 : Nat) (z0 : List Int) (w : World) (w0 : (a0 = none ∧ len0 = 0 ∧ cap0 = 0 ∧ z0 = []) ∨ ∃ x, a0 = some x ∧ len0 ≤ cap0 ∧ cap0 ≤ maxLen ∧ z0.length = cap0 ∧ (∀ i, i < z0.length → w.cell? (x.add i) = some (.int .u8 (z0.getD i 0))) ∧ ∀ n ∈ z0, (Lit.int .u8 n).wf = true) (y0 : len0 * 1 ≤ 140737488351232) :
    Calls Try.prog 5 #[.slice a0 len0 cap0] w fun e w' => e = .returned (.bool true) ∧ Below w.heap.size w w' := by
  obtain ⟨l0, rfl, hr0, hm0, hw0, hc0⟩ := ReadsInt.ofRowC w0
  obtain ⟨k, h⟩ := P l0 hm0 y0 hw0
  refine (laws_FnCrossings.calls k _ _ l0 true w (Kd.C_of_reads (d := (0 : Int)) (h1 := fun _ => rfl) hr0) hc0 h).mono ?_
  rintro e w' ⟨rfl, hd⟩
  exact ⟨rfl, hd⟩


end Go.Proofs.Ytodcckiphdnjeab.QFnCrossings
