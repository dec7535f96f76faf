-- Written by a changed copy of the kit's printer (wip/mp.py of this repo), for this claim; Lean checks it.
import Derived.Test.YtodcckiphdnjeabQFnFormsx0
import Derived.Test.YtodcckiphdnjeabQFnFormsx1
import Derived.Test.YtodcckiphdnjeabQFnFormsx2
import Derived.Test.YtodcckiphdnjeabQFnFormsx4
import Derived.Test.YtodcckiphdnjeabQFnFormsx10
namespace Go.Proofs.Ytodcckiphdnjeab.QFnForms
open Go.RowKit Go.Proofs.YtodcckiphdnjeabW.PrintWords Go.Proofs.YtodcckiphdnjeabW.PrintLast Go.Proofs.YtodcckiphdnjeabW.PrintMore
attribute [local go_sem] max2_int min2_int max_two min_two max_three min_three max_four min_four   -- for this text's walks alone
set_option linter.unusedVariables false
set_option linter.unusedSimpArgs false

attribute [local go_sem high] eqA48
/-! ### impl_TurnGrid: function 46 -/
def impl_TurnGrid.f (k : Nat) (a0_0 : Int) (a0_1 : Int) (a0_2 : ByteArray) : Option (Int × Int × ByteArray) := (impl_IsGrid.f k a0_0 a0_1 a0_2).bind fun t295 => (if t295 = true then ((impl_Backwards.f a0_2).bind fun t296 => (some (a0_0, a0_1, t296))) else (some (0, 0, (⟨#[]⟩ : ByteArray))))
theorem impl_TurnGrid.mono : ∀ a0 a1 a2 k, LeO (impl_TurnGrid.f k a0 a1 a2) (impl_TurnGrid.f (k + 1) a0 a1 a2) := by
  intro a0 a1 a2 k
  unfold impl_TurnGrid.f
  repeat' first
    | (with_reducible exact impl_IsGrid.mono _ _ _ _)
    | (with_reducible exact LeO.refl _)
    | (with_reducible exact LeO.none _)
    | (with_reducible refine LeO.ite ?_ ?_)
    | (with_reducible refine LeO.bind ?_ (fun _ => ?_))
    | exact impl_IsGrid.mono _ _ _ _
    | exact LeO.none _
    | refine LeO.ite ?_ ?_
    | refine LeO.bind ?_ (fun _ => ?_)
set_option maxHeartbeats 8000000 in
set_option maxRecDepth 100000 in
theorem impl_TurnGrid.calls (k : Nat) (a0_0 : Int) (a0_1 : Int) (a0_2 : ByteArray) (r1 : Int) (r2 : Int) (r3 : ByteArray) (w : World) (h : impl_TurnGrid.f k a0_0 a0_1 a0_2 = some (r1, r2, r3)) :
   Calls Try.prog 46 #[.agg #[.int .i64 a0_0, .int .i64 a0_1, .string a0_2]] w fun e w' => e = .returned (.agg #[.int .i64 r1, .int .i64 r2, .string r3]) ∧ Below w.heap.size w w' := by
  have hu48 := Try.underlying48
  have HB := Aside0.mk (Below.refl w.heap.size w)
  have H : ((impl_IsGrid.f k a0_0 a0_1 a0_2).bind fun t295 => (if t295 = true then ((impl_Backwards.f a0_2).bind fun t296 => (some (a0_0, a0_1, t296))) else (some (0, 0, (⟨#[]⟩ : ByteArray))))) = some (r1, r2, r3) := h
  clear h
  replace H := Option.bind_eq_some_iff.mp H
  obtain ⟨t295, A20, H⟩ := H
  replace H : (if t295 = true then ((impl_Backwards.f a0_2).bind fun t296 => (some (a0_0, a0_1, t296))) else (some (0, 0, (⟨#[]⟩ : ByteArray)))) = some (r1, r2, r3) := H
  have A2 := Aside0.mk A20
  clear A20
  by_cases c3 : t295 = true
  ·subst c3
   have H1 : ((impl_Backwards.f a0_2).bind fun t296 => (some (a0_0, a0_1, t296))) = some (r1, r2, r3) := by rw [if_pos rfl] at H; exact H
   clear H
   have H := H1
   clear H1
   replace H := Option.bind_eq_some_iff.mp H
   obtain ⟨t296, A40, H⟩ := H
   replace H : (some (a0_0, a0_1, t296)) = some (r1, r2, r3) := H
   have A4 := Aside0.mk A40
   clear A40
   simp only [Option.some.injEq, Prod.mk.injEq] at H
   obtain ⟨rfl, rfl, rfl⟩ := H
   go_enter Try.func46, Try.ntmps46
   go_wp2_with (first | ((with_reducible refine gate_dst (N := 1) rfl ?_); refine box_event ?hg (N := 1) ?hd (cs := #[.int .i64 a0_0, .int .i64 a0_1, .string a0_2]) (t := 48) ?hr ?_; (case hd => rfl); (case hg => rfl); (case hr => first | (go_simp; done) | (go_simp; rfl)); intro gb293 hg w5 hbox hb; have n0_ := Aside0.mk (below_step (by repeat (first | (with_reducible first | exact HB.out | apply below_alloc | apply pw_below_drewN | apply below_drew1) | exact HB.out)) hb); have n1_ := Aside0.mk (hbox); have n2_ := Aside0.mk ((by rw [hg]; exact (below_size (by repeat (first | (with_reducible first | exact HB.out | apply below_alloc | apply pw_below_drewN | apply below_drew1) | exact HB.out))) : w.heap.size ≤ gb293)); have n3_ := Aside0.mk ((by rw [hg]; exact (below_size (by repeat (first | (with_reducible first | exact HB.out | apply below_alloc | apply pw_below_drewN | apply below_drew1) | exact HB.out))) : w.heap.size ≤ gb293)); clear HB; have HB := n0_; have BK293 := n1_; have GW293 := n2_; have GE293 := n3_; clear n0_ n1_ n2_ n3_; clear hb hbox hg) | ((with_reducible refine gate_dst (N := 2) rfl ?_); refine box_event ?hg (N := 2) ?hd (cs := #[.int .i64 0, .int .i64 0, .string (⟨#[]⟩ : ByteArray)]) (t := 48) ?hr ?_; (case hd => rfl); (case hg => rfl); (case hr => first | (go_simp; done) | (go_simp; rfl)); intro gb294 hg w6 hbox hb; have n0_ := Aside0.mk (blk_below (g := gb293) (o := .cells #[.int .i64 a0_0, .int .i64 a0_1, .string a0_2] 48 (0, 0)) (by (with_reducible repeat (first | refine blk_drewN ?_ _ | refine blk_drew ?_ | refine blk_alloc ?_ _)); exact BK293.out) hb); have n1_ := Aside0.mk (below_step (by repeat (first | (with_reducible first | exact HB.out | apply below_alloc | apply pw_below_drewN | apply below_drew1 | refine below_set ?_ GE293.out) | exact HB.out)) hb); have n2_ := Aside0.mk (hbox); have n3_ := Aside0.mk ((by rw [hg]; exact (below_size (by repeat (first | (with_reducible first | exact HB.out | apply below_alloc | apply pw_below_drewN | apply below_drew1 | refine below_set ?_ GE293.out) | exact HB.out))) : w.heap.size ≤ gb294)); have n4_ := Aside0.mk ((by rw [hg]; exact (below_size (by repeat (first | (with_reducible first | exact HB.out | apply below_alloc | apply pw_below_drewN | apply below_drew1 | refine below_set ?_ GE293.out) | exact HB.out))) : w.heap.size ≤ gb294)); have n5_ := Aside0.mk ((by rw [hg]; exact Nat.ne_of_lt (blk_lt (g := gb293) (o := .cells #[.int .i64 a0_0, .int .i64 a0_1, .string a0_2] 48 (0, 0)) (by (with_reducible repeat (first | refine blk_drewN ?_ _ | refine blk_drew ?_ | refine blk_alloc ?_ _)); exact BK293.out)) : gb293 ≠ gb294)); have n6_ := Aside0.mk ((by rw [hg]; exact Nat.ne_of_gt (blk_lt (g := gb293) (o := .cells #[.int .i64 a0_0, .int .i64 a0_1, .string a0_2] 48 (0, 0)) (by (with_reducible repeat (first | refine blk_drewN ?_ _ | refine blk_drew ?_ | refine blk_alloc ?_ _)); exact BK293.out)) : gb294 ≠ gb293)); clear BK293; clear HB; have BK293 := n0_; have HB := n1_; have BK294 := n2_; have GW294 := n3_; have GE294 := n4_; have NB293_294 := n5_; have NB294_293 := n6_; clear n0_ n1_ n2_ n3_ n4_ n5_ n6_; clear hb hbox hg; have hnb7 := NB293_294.out; have hnc7 := NB294_293.out; have hcz8_0 : w6.cell? ⟨gb293, 0, none⟩ = some (.int .i64 a0_0) := (blk_cell BK293.out 0).trans rfl; have hcz8_1 : w6.cell? ⟨gb293, 1, none⟩ = some (.int .i64 a0_1) := (blk_cell BK293.out 1).trans rfl; have hcz8_2 : w6.cell? ⟨gb293, 2, none⟩ = some (.string a0_2) := (blk_cell BK293.out 2).trans rfl; have hfz8_0 := blk_frozen BK293.out 0; have hfz8_1 := blk_frozen BK293.out 1; have hfz8_2 := blk_frozen BK293.out 2) | ((with_reducible refine gate_callee (f := 45) rfl ?_); refine goesL_ (some 4) rfl rfl Try.func45 (by kernel_rfl) rfl #[.agg #[.int .i64 a0_0, .int .i64 a0_1, .string a0_2]] rfl (by (try simp only [List.map_toArray, List.map_cons, List.map_nil]); first | done | rfl | (simp only [List.length_drop, List.length_take]; rfl)) ?_; (with_reducible refine (impl_IsGrid.calls k a0_0 a0_1 a0_2 true _ A2.out).mono ?_); rintro e w9 ⟨rfl, hb⟩; refine ⟨_, rfl, ?_⟩; have n0_ := Aside0.mk (blk_below (g := gb293) (o := .cells #[.int .i64 a0_0, .int .i64 a0_1, .string a0_2] 48 (0, 0)) (by (with_reducible repeat (first | refine blk_drewN ?_ _ | refine blk_drew ?_ | refine blk_alloc ?_ _)); exact BK293.out) hb); have n1_ := Aside0.mk (blk_below (g := gb294) (o := .cells #[.int .i64 0, .int .i64 0, .string (⟨#[]⟩ : ByteArray)] 48 (0, 0)) (by (with_reducible repeat (first | refine blk_drewN ?_ _ | refine blk_drew ?_ | refine blk_alloc ?_ _)); exact BK294.out) hb); have n2_ := Aside0.mk (below_step (by repeat (first | (with_reducible first | exact HB.out | apply below_alloc | apply pw_below_drewN | apply below_drew1 | refine below_set ?_ GE293.out | refine below_set ?_ GE294.out) | exact HB.out)) hb); clear BK293; clear BK294; clear HB; have BK293 := n0_; have BK294 := n1_; have HB := n2_; clear n0_ n1_ n2_; (try clear hb); (try clear hb2); (try clear hk); (try clear hi); have hcz10_0 : w9.cell? ⟨gb293, 0, none⟩ = some (.int .i64 a0_0) := (blk_cell BK293.out 0).trans rfl; have hcz10_1 : w9.cell? ⟨gb293, 1, none⟩ = some (.int .i64 a0_1) := (blk_cell BK293.out 1).trans rfl; have hcz10_2 : w9.cell? ⟨gb293, 2, none⟩ = some (.string a0_2) := (blk_cell BK293.out 2).trans rfl; have hfz10_0 := blk_frozen BK293.out 0; have hfz10_1 := blk_frozen BK293.out 1; have hfz10_2 := blk_frozen BK293.out 2) | ((with_reducible refine gate_callee (f := 13) rfl ?_); refine goesL_ (some 9) rfl rfl Try.func13 (by kernel_rfl) rfl #[.string a0_2] rfl (by (try simp only [List.map_toArray, List.map_cons, List.map_nil]); first | done | rfl | (simp only [List.length_drop, List.length_take]; rfl)) ?_; (with_reducible refine (impl_Backwards.calls a0_2 t296 _ A4.out).mono ?_); rintro e w11 ⟨rfl, hb⟩; refine ⟨_, rfl, ?_⟩; have n0_ := Aside0.mk (blk_below (g := gb293) (o := .cells #[.int .i64 a0_0, .int .i64 a0_1, .string a0_2] 48 (0, 0)) (by (with_reducible repeat (first | refine blk_drewN ?_ _ | refine blk_drew ?_ | refine blk_alloc ?_ _)); exact BK293.out) hb); have n1_ := Aside0.mk (blk_below (g := gb294) (o := .cells #[.int .i64 0, .int .i64 0, .string (⟨#[]⟩ : ByteArray)] 48 (0, 0)) (by (with_reducible repeat (first | refine blk_drewN ?_ _ | refine blk_drew ?_ | refine blk_alloc ?_ _)); exact BK294.out) hb); have n2_ := Aside0.mk (below_step (by repeat (first | (with_reducible first | exact HB.out | apply below_alloc | apply pw_below_drewN | apply below_drew1 | refine below_set ?_ GE293.out | refine below_set ?_ GE294.out) | exact HB.out)) hb); clear BK293; clear BK294; clear HB; have BK293 := n0_; have BK294 := n1_; have HB := n2_; clear n0_ n1_ n2_; (try clear hb); (try clear hb2); (try clear hk); (try clear hi); have hcz12_0 : w11.cell? ⟨gb293, 0, none⟩ = some (.int .i64 a0_0) := (blk_cell BK293.out 0).trans rfl; have hcz12_1 : w11.cell? ⟨gb293, 1, none⟩ = some (.int .i64 a0_1) := (blk_cell BK293.out 1).trans rfl; have hcz12_2 : w11.cell? ⟨gb293, 2, none⟩ = some (.string a0_2) := (blk_cell BK293.out 2).trans rfl; have hfz12_0 := blk_frozen BK293.out 0; have hfz12_1 := blk_frozen BK293.out 1; have hfz12_2 := blk_frozen BK293.out 2; have hcz13_0 : w11.cell? ⟨gb294, 0, none⟩ = some (.int .i64 0) := (blk_cell BK294.out 0).trans rfl; have hcz13_1 : w11.cell? ⟨gb294, 1, none⟩ = some (.int .i64 0) := (blk_cell BK294.out 1).trans rfl; have hcz13_2 : w11.cell? ⟨gb294, 2, none⟩ = some (.string (⟨#[]⟩ : ByteArray)) := (blk_cell BK294.out 2).trans rfl; have hfz13_0 := blk_frozen BK294.out 0; have hfz13_1 := blk_frozen BK294.out 1; have hfz13_2 := blk_frozen BK294.out 2))
   refine bodyPost_ret (results_cell_row rfl _ _ gb294 48 #[.int .i64 a0_0, .int .i64 a0_1, .string t296] (0, 0) _ rfl (by (with_reducible repeat (first | refine blk_drewN ?_ _ | refine blk_drew ?_ | refine blk_alloc ?_ _)); refine blk_put (cs := #[.int .i64 a0_0, .int .i64 a0_1, .string (⟨#[]⟩ : ByteArray)]) ?_ 2 _ rfl; (with_reducible repeat (first | refine blk_drewN ?_ _ | refine blk_drew ?_ | refine blk_alloc ?_ _)); refine blk_put (cs := #[.int .i64 a0_0, .int .i64 0, .string (⟨#[]⟩ : ByteArray)]) ?_ 1 _ rfl; (with_reducible repeat (first | refine blk_drewN ?_ _ | refine blk_drew ?_ | refine blk_alloc ?_ _)); refine blk_put (cs := #[.int .i64 0, .int .i64 0, .string (⟨#[]⟩ : ByteArray)]) ?_ 0 _ rfl; (with_reducible repeat (first | refine blk_drewN ?_ _ | refine blk_drew ?_ | refine blk_alloc ?_ _)); refine blk_far ?_ NB294_293.out _; (with_reducible repeat (first | refine blk_drewN ?_ _ | refine blk_drew ?_ | refine blk_alloc ?_ _)); exact BK294.out) Try.underlying48 rfl (by kernel_rfl)) rfl ?_
   exact ⟨by first | rfl | (simp [errW_none, errW_some] <;> rfl) | (simp [*, errW_none, errW_some] <;> rfl), by repeat (first | (with_reducible first | exact HB.out | apply below_alloc | apply pw_below_drewN | apply below_drew1 | refine below_set ?_ GE293.out | refine below_set ?_ GE294.out) | exact HB.out)⟩
  ·replace c3 := Bool.eq_false_iff.mpr c3
   subst c3
   have H1 : (some (0, 0, (⟨#[]⟩ : ByteArray))) = some (r1, r2, r3) := by rw [if_neg (show ¬ (false = true) by decide)] at H; exact H
   clear H
   have H := H1
   clear H1
   simp only [Option.some.injEq, Prod.mk.injEq] at H
   obtain ⟨rfl, rfl, rfl⟩ := H
   go_enter Try.func46, Try.ntmps46
   go_wp2_with (first | ((with_reducible refine gate_dst (N := 1) rfl ?_); refine box_event ?hg (N := 1) ?hd (cs := #[.int .i64 a0_0, .int .i64 a0_1, .string a0_2]) (t := 48) ?hr ?_; (case hd => rfl); (case hg => rfl); (case hr => first | (go_simp; done) | (go_simp; rfl)); intro gb293 hg w14 hbox hb; have n0_ := Aside0.mk (below_step (by repeat (first | (with_reducible first | exact HB.out | apply below_alloc | apply pw_below_drewN | apply below_drew1) | exact HB.out)) hb); have n1_ := Aside0.mk (hbox); have n2_ := Aside0.mk ((by rw [hg]; exact (below_size (by repeat (first | (with_reducible first | exact HB.out | apply below_alloc | apply pw_below_drewN | apply below_drew1) | exact HB.out))) : w.heap.size ≤ gb293)); have n3_ := Aside0.mk ((by rw [hg]; exact (below_size (by repeat (first | (with_reducible first | exact HB.out | apply below_alloc | apply pw_below_drewN | apply below_drew1) | exact HB.out))) : w.heap.size ≤ gb293)); clear HB; have HB := n0_; have BK293 := n1_; have GW293 := n2_; have GE293 := n3_; clear n0_ n1_ n2_ n3_; clear hb hbox hg) | ((with_reducible refine gate_dst (N := 2) rfl ?_); refine box_event ?hg (N := 2) ?hd (cs := #[.int .i64 0, .int .i64 0, .string (⟨#[]⟩ : ByteArray)]) (t := 48) ?hr ?_; (case hd => rfl); (case hg => rfl); (case hr => first | (go_simp; done) | (go_simp; rfl)); intro gb294 hg w15 hbox hb; have n0_ := Aside0.mk (blk_below (g := gb293) (o := .cells #[.int .i64 a0_0, .int .i64 a0_1, .string a0_2] 48 (0, 0)) (by (with_reducible repeat (first | refine blk_drewN ?_ _ | refine blk_drew ?_ | refine blk_alloc ?_ _)); exact BK293.out) hb); have n1_ := Aside0.mk (below_step (by repeat (first | (with_reducible first | exact HB.out | apply below_alloc | apply pw_below_drewN | apply below_drew1 | refine below_set ?_ GE293.out) | exact HB.out)) hb); have n2_ := Aside0.mk (hbox); have n3_ := Aside0.mk ((by rw [hg]; exact (below_size (by repeat (first | (with_reducible first | exact HB.out | apply below_alloc | apply pw_below_drewN | apply below_drew1 | refine below_set ?_ GE293.out) | exact HB.out))) : w.heap.size ≤ gb294)); have n4_ := Aside0.mk ((by rw [hg]; exact (below_size (by repeat (first | (with_reducible first | exact HB.out | apply below_alloc | apply pw_below_drewN | apply below_drew1 | refine below_set ?_ GE293.out) | exact HB.out))) : w.heap.size ≤ gb294)); have n5_ := Aside0.mk ((by rw [hg]; exact Nat.ne_of_lt (blk_lt (g := gb293) (o := .cells #[.int .i64 a0_0, .int .i64 a0_1, .string a0_2] 48 (0, 0)) (by (with_reducible repeat (first | refine blk_drewN ?_ _ | refine blk_drew ?_ | refine blk_alloc ?_ _)); exact BK293.out)) : gb293 ≠ gb294)); have n6_ := Aside0.mk ((by rw [hg]; exact Nat.ne_of_gt (blk_lt (g := gb293) (o := .cells #[.int .i64 a0_0, .int .i64 a0_1, .string a0_2] 48 (0, 0)) (by (with_reducible repeat (first | refine blk_drewN ?_ _ | refine blk_drew ?_ | refine blk_alloc ?_ _)); exact BK293.out)) : gb294 ≠ gb293)); clear BK293; clear HB; have BK293 := n0_; have HB := n1_; have BK294 := n2_; have GW294 := n3_; have GE294 := n4_; have NB293_294 := n5_; have NB294_293 := n6_; clear n0_ n1_ n2_ n3_ n4_ n5_ n6_; clear hb hbox hg; have hnb16 := NB293_294.out; have hnc16 := NB294_293.out; have hcz17_0 : w15.cell? ⟨gb293, 0, none⟩ = some (.int .i64 a0_0) := (blk_cell BK293.out 0).trans rfl; have hcz17_1 : w15.cell? ⟨gb293, 1, none⟩ = some (.int .i64 a0_1) := (blk_cell BK293.out 1).trans rfl; have hcz17_2 : w15.cell? ⟨gb293, 2, none⟩ = some (.string a0_2) := (blk_cell BK293.out 2).trans rfl; have hfz17_0 := blk_frozen BK293.out 0; have hfz17_1 := blk_frozen BK293.out 1; have hfz17_2 := blk_frozen BK293.out 2) | ((with_reducible refine gate_callee (f := 45) rfl ?_); refine goesL_ (some 4) rfl rfl Try.func45 (by kernel_rfl) rfl #[.agg #[.int .i64 a0_0, .int .i64 a0_1, .string a0_2]] rfl (by (try simp only [List.map_toArray, List.map_cons, List.map_nil]); first | done | rfl | (simp only [List.length_drop, List.length_take]; rfl)) ?_; (with_reducible refine (impl_IsGrid.calls k a0_0 a0_1 a0_2 false _ A2.out).mono ?_); rintro e w18 ⟨rfl, hb⟩; refine ⟨_, rfl, ?_⟩; have n0_ := Aside0.mk (blk_below (g := gb293) (o := .cells #[.int .i64 a0_0, .int .i64 a0_1, .string a0_2] 48 (0, 0)) (by (with_reducible repeat (first | refine blk_drewN ?_ _ | refine blk_drew ?_ | refine blk_alloc ?_ _)); exact BK293.out) hb); have n1_ := Aside0.mk (blk_below (g := gb294) (o := .cells #[.int .i64 0, .int .i64 0, .string (⟨#[]⟩ : ByteArray)] 48 (0, 0)) (by (with_reducible repeat (first | refine blk_drewN ?_ _ | refine blk_drew ?_ | refine blk_alloc ?_ _)); exact BK294.out) hb); have n2_ := Aside0.mk (below_step (by repeat (first | (with_reducible first | exact HB.out | apply below_alloc | apply pw_below_drewN | apply below_drew1 | refine below_set ?_ GE293.out | refine below_set ?_ GE294.out) | exact HB.out)) hb); clear BK293; clear BK294; clear HB; have BK293 := n0_; have BK294 := n1_; have HB := n2_; clear n0_ n1_ n2_; (try clear hb); (try clear hb2); (try clear hk); (try clear hi); have hcz19_0 : w18.cell? ⟨gb294, 0, none⟩ = some (.int .i64 0) := (blk_cell BK294.out 0).trans rfl; have hcz19_1 : w18.cell? ⟨gb294, 1, none⟩ = some (.int .i64 0) := (blk_cell BK294.out 1).trans rfl; have hcz19_2 : w18.cell? ⟨gb294, 2, none⟩ = some (.string (⟨#[]⟩ : ByteArray)) := (blk_cell BK294.out 2).trans rfl; have hfz19_0 := blk_frozen BK294.out 0; have hfz19_1 := blk_frozen BK294.out 1; have hfz19_2 := blk_frozen BK294.out 2))
   refine bodyPost_ret (results_cell_row rfl _ _ gb294 48 #[.int .i64 0, .int .i64 0, .string (⟨#[]⟩ : ByteArray)] (0, 0) _ rfl (by (with_reducible repeat (first | refine blk_drewN ?_ _ | refine blk_drew ?_ | refine blk_alloc ?_ _)); refine blk_put (cs := #[.int .i64 0, .int .i64 0, .string (⟨#[]⟩ : ByteArray)]) ?_ 2 _ rfl; (with_reducible repeat (first | refine blk_drewN ?_ _ | refine blk_drew ?_ | refine blk_alloc ?_ _)); refine blk_put (cs := #[.int .i64 0, .int .i64 0, .string (⟨#[]⟩ : ByteArray)]) ?_ 1 _ rfl; (with_reducible repeat (first | refine blk_drewN ?_ _ | refine blk_drew ?_ | refine blk_alloc ?_ _)); refine blk_put (cs := #[.int .i64 0, .int .i64 0, .string (⟨#[]⟩ : ByteArray)]) ?_ 0 _ rfl; (with_reducible repeat (first | refine blk_drewN ?_ _ | refine blk_drew ?_ | refine blk_alloc ?_ _)); exact BK294.out) Try.underlying48 rfl (by kernel_rfl)) rfl ?_
   exact ⟨by first | rfl | (simp [errW_none, errW_some] <;> rfl) | (simp [*, errW_none, errW_some] <;> rfl), by repeat (first | (with_reducible first | exact HB.out | apply below_alloc | apply pw_below_drewN | apply below_drew1 | refine below_set ?_ GE293.out | refine below_set ?_ GE294.out) | exact HB.out)⟩

/-! ### impl_IsSymmetric: function 48 -/
def impl_IsSymmetric.f (k : Nat) (a0_0 : Int) (a0_1 : Int) (a0_2 : ByteArray) : Option (Bool) := (impl_IsGrid.f k a0_0 a0_1 a0_2).bind fun t298 => (if t298 = true then ((impl_TurnGrid.f k a0_0 a0_1 a0_2).bind fun bt299 => (some (a0_0 == bt299.1 && (a0_1 == bt299.2.1 && (a0_2.toList == bt299.2.2.toList))))) else (some false))
theorem impl_IsSymmetric.mono : ∀ a0 a1 a2 k, LeO (impl_IsSymmetric.f k a0 a1 a2) (impl_IsSymmetric.f (k + 1) a0 a1 a2) := by
  intro a0 a1 a2 k
  unfold impl_IsSymmetric.f
  repeat' first
    | (with_reducible exact impl_IsGrid.mono _ _ _ _)
    | (with_reducible exact impl_TurnGrid.mono _ _ _ _)
    | (with_reducible exact LeO.refl _)
    | (with_reducible exact LeO.none _)
    | (with_reducible refine LeO.ite ?_ ?_)
    | (with_reducible refine LeO.bind ?_ (fun _ => ?_))
    | exact impl_IsGrid.mono _ _ _ _
    | exact impl_TurnGrid.mono _ _ _ _
    | exact LeO.none _
    | refine LeO.ite ?_ ?_
    | refine LeO.bind ?_ (fun _ => ?_)
def impl_IsSymmetric.T1 : Bool × List (List Nat × List Nat) := (true, [([], []), ([0], [0]), ([1, 1], [1]), ([2], [2]), ([2], [2]), ([4, 2, 2], [2, 4]), ([3, 5, 2], [2, 3, 5]), ([2, 6], [2, 6]), ([7, 5, 0, 1, 2, 3, 4, 5, 6, 7], [7])])
def impl_IsSymmetric.B1 : List Nat := [0, 1, 3, 7, 7, 23, 63, 127, 255]
theorem impl_IsSymmetric.tab1 : rtab .any (opsOf Try.f48 1) = impl_IsSymmetric.T1 := by kernel_rfl
theorem impl_IsSymmetric.bits1 : waitsOk impl_IsSymmetric.T1.2 impl_IsSymmetric.B1 = true := by kernel_rfl
set_option maxHeartbeats 8000000 in
set_option maxRecDepth 100000 in
theorem impl_IsSymmetric.calls (k : Nat) (a0_0 : Int) (a0_1 : Int) (a0_2 : ByteArray) (r : Bool) (w : World) (h : impl_IsSymmetric.f k a0_0 a0_1 a0_2 = some r) :
   Calls Try.prog 48 #[.agg #[.int .i64 a0_0, .int .i64 a0_1, .string a0_2]] w fun e w' => e = .returned (.bool r) ∧ Below w.heap.size w w' := by
  have hu48 := Try.underlying48
  have HB := Aside0.mk (Below.refl w.heap.size w)
  have H : ((impl_IsGrid.f k a0_0 a0_1 a0_2).bind fun t298 => (if t298 = true then ((impl_TurnGrid.f k a0_0 a0_1 a0_2).bind fun bt299 => (some (a0_0 == bt299.1 && (a0_1 == bt299.2.1 && (a0_2.toList == bt299.2.2.toList))))) else (some false))) = some r := h
  clear h
  replace H := Option.bind_eq_some_iff.mp H
  obtain ⟨t298, A20, H⟩ := H
  replace H : (if t298 = true then ((impl_TurnGrid.f k a0_0 a0_1 a0_2).bind fun bt299 => (some (a0_0 == bt299.1 && (a0_1 == bt299.2.1 && (a0_2.toList == bt299.2.2.toList))))) else (some false)) = some r := H
  have A2 := Aside0.mk A20
  clear A20
  by_cases c3 : t298 = true
  ·subst c3
   have H1 : ((impl_TurnGrid.f k a0_0 a0_1 a0_2).bind fun bt299 => (some (a0_0 == bt299.1 && (a0_1 == bt299.2.1 && (a0_2.toList == bt299.2.2.toList))))) = some r := by rw [if_pos rfl] at H; exact H
   clear H
   have H := H1
   clear H1
   replace H := Option.bind_eq_some_iff.mp H
   obtain ⟨⟨t299, t300, t301⟩, A40, H⟩ := H
   replace H : (some (a0_0 == t299 && (a0_1 == t300 && (a0_2.toList == t301.toList)))) = some r := H
   have A4 := Aside0.mk A40
   clear A40
   obtain rfl := Option.some.inj H
   go_enter Try.func48, Try.ntmps48
   try go_wp2_with (first | ((with_reducible refine gate_dst (N := 1) rfl ?_); refine box_event ?hg (N := 1) ?hd (cs := #[.int .i64 a0_0, .int .i64 a0_1, .string a0_2]) (t := 48) ?hr ?_; (case hd => rfl); (case hg => rfl); (case hr => first | (go_simp; done) | (go_simp; rfl)); intro gb297 hg w5 hbox hb; have n0_ := Aside0.mk (below_step (by repeat (first | (with_reducible first | exact HB.out | apply below_alloc | apply pw_below_drewN | apply below_drew1) | exact HB.out)) hb); have n1_ := Aside0.mk (hbox); have n2_ := Aside0.mk ((by rw [hg]; exact (below_size (by repeat (first | (with_reducible first | exact HB.out | apply below_alloc | apply pw_below_drewN | apply below_drew1) | exact HB.out))) : w.heap.size ≤ gb297)); have n3_ := Aside0.mk ((by rw [hg]; exact (below_size (by repeat (first | (with_reducible first | exact HB.out | apply below_alloc | apply pw_below_drewN | apply below_drew1) | exact HB.out))) : w.heap.size ≤ gb297)); clear HB; have HB := n0_; have BK297 := n1_; have GW297 := n2_; have GE297 := n3_; clear n0_ n1_ n2_ n3_; clear hb hbox hg))
   have n0_ := Aside0.mk (blk_drew BK297.out)
   have n1_ := Aside0.mk (below_drew1 HB.out)
   clear BK297
   clear HB
   have BK297 := n0_
   have HB := n1_
   clear n0_ n1_
   refine start_ (n := 9) (S := fun w' => w'.cell? ⟨gb297, 0, none⟩ = some (.int .i64 a0_0) ∧ w'.cell? ⟨gb297, 1, none⟩ = some (.int .i64 a0_1) ∧ w'.cell? ⟨gb297, 2, none⟩ = some (.string a0_2)) (ds := []) #[false, false, false, false, false, false, false, false, false] (by kernel_rfl) rfl rfl ⟨(blk_cell BK297.out 0).trans rfl, (blk_cell BK297.out 1).trans rfl, (blk_cell BK297.out 2).trans rfl⟩ (fun hHeld => ?_); refine with_tabW impl_IsSymmetric.tab1 impl_IsSymmetric.bits1 (fun HT_ HW_ => ?_)
   generalize w5.drew = w6 at BK297 HB hHeld ⊢
   refine take_ (i := 0) (N := some 3) (v := ?_) (a' := ?_) #[true, false, false, false, false, false, false, false, false] rfl rfl (take_ofW HT_.out HW_.out (by kernel_rfl)) (fun _ _ _ h => h) (Or.inl ⟨by rfl, ?_⟩) hHeld ?_ ?_
   rotate_left
   ·rintro w' ⟨s0, s1, s2⟩
    go_simp
    with_reducible rfl
   rotate_left
   ·simp only [Act.put, List.setIfInBounds_toArray, List.set_cons_zero, List.set_cons_succ, i64_w, i32_w]
    rfl
   refine one_ (i := 1) (N := some 4) #[true, true, false, false, false, false, false, false, false] rfl rfl (one_of HT_.out (by kernel_rfl)) (by decide) (fun K hK => ?_)
   refine goes_ Try.func45 (by kernel_rfl) rfl #[.agg #[.int .i64 a0_0, .int .i64 a0_1, .string a0_2]] (by rfl) rfl rfl (by (try simp only [List.map_toArray, List.map_cons, List.map_nil]); first | done | rfl | (simp only [List.length_drop, List.length_take]; rfl)) ?_
   with_reducible refine (impl_IsGrid.calls k a0_0 a0_1 a0_2 true _ A2.out).mono ?_
   rintro e w7 ⟨rfl, hb⟩
   refine ⟨_, rfl, ?_⟩
   have n0_ := Aside0.mk (blk_below (g := gb297) (o := .cells #[.int .i64 a0_0, .int .i64 a0_1, .string a0_2] 48 (0, 0)) (by (with_reducible repeat (first | refine blk_drewN ?_ _ | refine blk_drew ?_ | refine blk_alloc ?_ _)); exact BK297.out) hb)
   have n1_ := Aside0.mk (below_step (by repeat (first | (with_reducible first | exact HB.out | apply below_alloc | apply pw_below_drewN | apply below_drew1 | refine below_set ?_ GE297.out) | exact HB.out)) hb)
   clear BK297
   clear HB
   have BK297 := n0_
   have HB := n1_
   clear n0_ n1_
   (try clear hb)
   (try clear hb2)
   (try clear hk)
   (try clear hi)
   refine hK.out _ _ ⟨(blk_cell BK297.out 0).trans rfl, (blk_cell BK297.out 1).trans rfl, (blk_cell BK297.out 2).trans rfl⟩ (fun hHeld => ?_)
   clear hK K
   refine norm_ (a' := ?_) ?_ ?_
   rotate_left
   ·show Act.put _ (some 4) _ = _
    simp only [Act.put, List.setIfInBounds_toArray, List.set_cons_zero, List.set_cons_succ, i64_w, i32_w]
    rfl
   refine pure_ (i := 2) (N := some 5) (v := ?_) (a' := ?_) #[true, true, true, false, false, false, false, false, false] rfl rfl (any_of HT_.out (by kernel_rfl)) (fun _ _ _ h => h) (Or.inl ⟨by rfl, ?_⟩) ?_ ?_
   rotate_left
   ·intro w'
    go_simp
    with_reducible rfl
   rotate_left
   ·simp only [Act.put, List.setIfInBounds_toArray, List.set_cons_zero, List.set_cons_succ, i64_w, i32_w]
    rfl
   refine take_ (i := 3) (N := some 6) (v := ?_) (a' := ?_) #[true, true, true, true, false, false, false, false, false] rfl rfl (take_ofW HT_.out HW_.out (by kernel_rfl)) (fun _ _ _ h => h) (Or.inl ⟨by rfl, ?_⟩) hHeld ?_ ?_
   rotate_left
   ·rintro w' ⟨s0, s1, s2⟩
    go_simp
    with_reducible rfl
   rotate_left
   ·simp only [Act.put, List.setIfInBounds_toArray, List.set_cons_zero, List.set_cons_succ, i64_w, i32_w]
    rfl
   refine take_ (i := 4) (N := some 7) (v := ?_) (a' := ?_) #[true, true, true, true, true, false, false, false, false] rfl rfl (take_ofW HT_.out HW_.out (by kernel_rfl)) (fun _ _ _ h => h) (Or.inl ⟨by rfl, ?_⟩) hHeld ?_ ?_
   rotate_left
   ·rintro w' ⟨s0, s1, s2⟩
    go_simp
    with_reducible rfl
   rotate_left
   ·simp only [Act.put, List.setIfInBounds_toArray, List.set_cons_zero, List.set_cons_succ, i64_w, i32_w]
    rfl
   refine one_ (i := 5) (N := some 8) #[true, true, true, true, true, true, false, false, false] rfl rfl (one_of HT_.out (by kernel_rfl)) (by decide) (fun K hK => ?_)
   refine goes_ Try.func46 (by kernel_rfl) rfl #[.agg #[.int .i64 a0_0, .int .i64 a0_1, .string a0_2]] (by rfl) rfl rfl (by (try simp only [List.map_toArray, List.map_cons, List.map_nil]); first | done | rfl | (simp only [List.length_drop, List.length_take]; rfl)) ?_
   with_reducible refine (impl_TurnGrid.calls k a0_0 a0_1 a0_2 t299 t300 t301 _ A4.out).mono ?_
   rintro e w8 ⟨rfl, hb⟩
   refine ⟨_, rfl, ?_⟩
   have n0_ := Aside0.mk (blk_below (g := gb297) (o := .cells #[.int .i64 a0_0, .int .i64 a0_1, .string a0_2] 48 (0, 0)) (by (with_reducible repeat (first | refine blk_drewN ?_ _ | refine blk_drew ?_ | refine blk_alloc ?_ _)); exact BK297.out) hb)
   have n1_ := Aside0.mk (below_step (by repeat (first | (with_reducible first | exact HB.out | apply below_alloc | apply pw_below_drewN | apply below_drew1 | refine below_set ?_ GE297.out) | exact HB.out)) hb)
   clear BK297
   clear HB
   have BK297 := n0_
   have HB := n1_
   clear n0_ n1_
   (try clear hb)
   (try clear hb2)
   (try clear hk)
   (try clear hi)
   refine hK.out _ _ ⟨(blk_cell BK297.out 0).trans rfl, (blk_cell BK297.out 1).trans rfl, (blk_cell BK297.out 2).trans rfl⟩ (fun hHeld => ?_)
   clear hK K
   refine norm_ (a' := ?_) ?_ ?_
   rotate_left
   ·show Act.put _ (some 8) _ = _
    simp only [Act.put, List.setIfInBounds_toArray, List.set_cons_zero, List.set_cons_succ, i64_w, i32_w]
    rfl
   refine pure_ (i := 6) (N := some 9) (v := ?_) (a' := ?_) #[true, true, true, true, true, true, true, false, false] rfl rfl (any_of HT_.out (by kernel_rfl)) (fun _ _ _ h => h) (Or.inl ⟨by rfl, ?_⟩) ?_ ?_
   rotate_left
   ·intro w'
    go_simp
    with_reducible rfl
   rotate_left
   ·simp only [Act.put, List.setIfInBounds_toArray, List.set_cons_zero, List.set_cons_succ, i64_w, i32_w]
    rfl
   refine pure_ (i := 7) (N := some 10) (v := ?_) (a' := ?_) #[true, true, true, true, true, true, true, true, false] rfl rfl (any_of HT_.out (by kernel_rfl)) (fun _ _ _ h => h) (Or.inl ⟨by rfl, ?_⟩) ?_ ?_
   rotate_left
   ·intro w'
    go_simp
    with_reducible rfl
   rotate_left
   ·simp only [Act.put, List.setIfInBounds_toArray, List.set_cons_zero, List.set_cons_succ, i64_w, i32_w]
    rfl
   refine pure_ (i := 8) (N := some 2) (v := ?_) (a' := ?_) #[true, true, true, true, true, true, true, true, true] rfl rfl (any_of HT_.out (by kernel_rfl)) (fun _ _ _ h => h) (Or.inl ⟨by rfl, ?_⟩) ?_ ?_
   rotate_left
   ·intro w'
    go_simp
    with_reducible rfl
   rotate_left
   ·simp only [Act.put, List.setIfInBounds_toArray, List.set_cons_zero, List.set_cons_succ, i64_w, i32_w]
    rfl
   refine done_ (done_of HT_.out (by kernel_rfl)) ?_
   try go_wp2
   go_ret
   exact ⟨by first | rfl | (simp [errW_none, errW_some] <;> rfl) | (simp [*, errW_none, errW_some] <;> rfl), by repeat (first | (with_reducible first | exact HB.out | apply below_alloc | apply pw_below_drewN | apply below_drew1 | refine below_set ?_ GE297.out) | exact HB.out)⟩
  ·replace c3 := Bool.eq_false_iff.mpr c3
   subst c3
   have H1 : (some false) = some r := by rw [if_neg (show ¬ (false = true) by decide)] at H; exact H
   clear H
   have H := H1
   clear H1
   obtain rfl := Option.some.inj H
   go_enter Try.func48, Try.ntmps48
   try go_wp2_with (first | ((with_reducible refine gate_dst (N := 1) rfl ?_); refine box_event ?hg (N := 1) ?hd (cs := #[.int .i64 a0_0, .int .i64 a0_1, .string a0_2]) (t := 48) ?hr ?_; (case hd => rfl); (case hg => rfl); (case hr => first | (go_simp; done) | (go_simp; rfl)); intro gb297 hg w9 hbox hb; have n0_ := Aside0.mk (below_step (by repeat (first | (with_reducible first | exact HB.out | apply below_alloc | apply pw_below_drewN | apply below_drew1) | exact HB.out)) hb); have n1_ := Aside0.mk (hbox); have n2_ := Aside0.mk ((by rw [hg]; exact (below_size (by repeat (first | (with_reducible first | exact HB.out | apply below_alloc | apply pw_below_drewN | apply below_drew1) | exact HB.out))) : w.heap.size ≤ gb297)); have n3_ := Aside0.mk ((by rw [hg]; exact (below_size (by repeat (first | (with_reducible first | exact HB.out | apply below_alloc | apply pw_below_drewN | apply below_drew1) | exact HB.out))) : w.heap.size ≤ gb297)); clear HB; have HB := n0_; have BK297 := n1_; have GW297 := n2_; have GE297 := n3_; clear n0_ n1_ n2_ n3_; clear hb hbox hg))
   have n0_ := Aside0.mk (blk_drew BK297.out)
   have n1_ := Aside0.mk (below_drew1 HB.out)
   clear BK297
   clear HB
   have BK297 := n0_
   have HB := n1_
   clear n0_ n1_
   refine start_ (n := 9) (S := fun w' => w'.cell? ⟨gb297, 0, none⟩ = some (.int .i64 a0_0) ∧ w'.cell? ⟨gb297, 1, none⟩ = some (.int .i64 a0_1) ∧ w'.cell? ⟨gb297, 2, none⟩ = some (.string a0_2)) (ds := []) #[false, false, false, false, false, false, false, false, false] (by kernel_rfl) rfl rfl ⟨(blk_cell BK297.out 0).trans rfl, (blk_cell BK297.out 1).trans rfl, (blk_cell BK297.out 2).trans rfl⟩ (fun hHeld => ?_); refine with_tabW impl_IsSymmetric.tab1 impl_IsSymmetric.bits1 (fun HT_ HW_ => ?_)
   generalize w9.drew = w10 at BK297 HB hHeld ⊢
   refine take_ (i := 0) (N := some 3) (v := ?_) (a' := ?_) #[true, false, false, false, false, false, false, false, false] rfl rfl (take_ofW HT_.out HW_.out (by kernel_rfl)) (fun _ _ _ h => h) (Or.inl ⟨by rfl, ?_⟩) hHeld ?_ ?_
   rotate_left
   ·rintro w' ⟨s0, s1, s2⟩
    go_simp
    with_reducible rfl
   rotate_left
   ·simp only [Act.put, List.setIfInBounds_toArray, List.set_cons_zero, List.set_cons_succ, i64_w, i32_w]
    rfl
   refine one_ (i := 1) (N := some 4) #[true, true, false, false, false, false, false, false, false] rfl rfl (one_of HT_.out (by kernel_rfl)) (by decide) (fun K hK => ?_)
   refine goes_ Try.func45 (by kernel_rfl) rfl #[.agg #[.int .i64 a0_0, .int .i64 a0_1, .string a0_2]] (by rfl) rfl rfl (by (try simp only [List.map_toArray, List.map_cons, List.map_nil]); first | done | rfl | (simp only [List.length_drop, List.length_take]; rfl)) ?_
   with_reducible refine (impl_IsGrid.calls k a0_0 a0_1 a0_2 false _ A2.out).mono ?_
   rintro e w11 ⟨rfl, hb⟩
   refine ⟨_, rfl, ?_⟩
   have n0_ := Aside0.mk (blk_below (g := gb297) (o := .cells #[.int .i64 a0_0, .int .i64 a0_1, .string a0_2] 48 (0, 0)) (by (with_reducible repeat (first | refine blk_drewN ?_ _ | refine blk_drew ?_ | refine blk_alloc ?_ _)); exact BK297.out) hb)
   have n1_ := Aside0.mk (below_step (by repeat (first | (with_reducible first | exact HB.out | apply below_alloc | apply pw_below_drewN | apply below_drew1 | refine below_set ?_ GE297.out) | exact HB.out)) hb)
   clear BK297
   clear HB
   have BK297 := n0_
   have HB := n1_
   clear n0_ n1_
   (try clear hb)
   (try clear hb2)
   (try clear hk)
   (try clear hi)
   refine hK.out _ _ ⟨(blk_cell BK297.out 0).trans rfl, (blk_cell BK297.out 1).trans rfl, (blk_cell BK297.out 2).trans rfl⟩ (fun hHeld => ?_)
   clear hK K
   refine norm_ (a' := ?_) ?_ ?_
   rotate_left
   ·show Act.put _ (some 4) _ = _
    simp only [Act.put, List.setIfInBounds_toArray, List.set_cons_zero, List.set_cons_succ, i64_w, i32_w]
    rfl
   refine pure_ (i := 2) (N := some 5) (v := ?_) (a' := ?_) #[true, true, true, false, false, false, false, false, false] rfl rfl (any_of HT_.out (by kernel_rfl)) (fun _ _ _ h => h) (Or.inl ⟨by rfl, ?_⟩) ?_ ?_
   rotate_left
   ·intro w'
    go_simp
    with_reducible rfl
   rotate_left
   ·simp only [Act.put, List.setIfInBounds_toArray, List.set_cons_zero, List.set_cons_succ, i64_w, i32_w]
    rfl
   refine pure_ (i := 3) (N := some 6) (v := undef) (a' := ?_) #[true, true, true, true, false, false, false, false, false] rfl rfl (any_of HT_.out (by kernel_rfl)) (fun _ _ _ h => h) (Or.inr ⟨by rfl, rfl⟩) ?_ ?_
   rotate_left
   ·simp only [Act.put, List.setIfInBounds_toArray, List.set_cons_zero, List.set_cons_succ, i64_w, i32_w]
    rfl
   refine pure_ (i := 4) (N := some 7) (v := undef) (a' := ?_) #[true, true, true, true, true, false, false, false, false] rfl rfl (any_of HT_.out (by kernel_rfl)) (fun _ _ _ h => h) (Or.inr ⟨by rfl, rfl⟩) ?_ ?_
   rotate_left
   ·simp only [Act.put, List.setIfInBounds_toArray, List.set_cons_zero, List.set_cons_succ, i64_w, i32_w]
    rfl
   refine pure_ (i := 5) (N := some 8) (v := undef) (a' := ?_) #[true, true, true, true, true, true, false, false, false] rfl rfl (any_of HT_.out (by kernel_rfl)) (fun _ _ _ h => h) (Or.inr ⟨by rfl, rfl⟩) ?_ ?_
   rotate_left
   ·simp only [Act.put, List.setIfInBounds_toArray, List.set_cons_zero, List.set_cons_succ, i64_w, i32_w]
    rfl
   refine pure_ (i := 6) (N := some 9) (v := undef) (a' := ?_) #[true, true, true, true, true, true, true, false, false] rfl rfl (any_of HT_.out (by kernel_rfl)) (fun _ _ _ h => h) (Or.inr ⟨by rfl, rfl⟩) ?_ ?_
   rotate_left
   ·simp only [Act.put, List.setIfInBounds_toArray, List.set_cons_zero, List.set_cons_succ, i64_w, i32_w]
    rfl
   refine pure_ (i := 7) (N := some 10) (v := ?_) (a' := ?_) #[true, true, true, true, true, true, true, true, false] rfl rfl (any_of HT_.out (by kernel_rfl)) (fun _ _ _ h => h) (Or.inl ⟨by rfl, ?_⟩) ?_ ?_
   rotate_left
   ·intro w'
    go_simp
    with_reducible rfl
   rotate_left
   ·simp only [Act.put, List.setIfInBounds_toArray, List.set_cons_zero, List.set_cons_succ, i64_w, i32_w]
    rfl
   refine pure_ (i := 8) (N := some 2) (v := ?_) (a' := ?_) #[true, true, true, true, true, true, true, true, true] rfl rfl (any_of HT_.out (by kernel_rfl)) (fun _ _ _ h => h) (Or.inl ⟨by rfl, ?_⟩) ?_ ?_
   rotate_left
   ·intro w'
    go_simp
    with_reducible rfl
   rotate_left
   ·simp only [Act.put, List.setIfInBounds_toArray, List.set_cons_zero, List.set_cons_succ, i64_w, i32_w]
    rfl
   refine done_ (done_of HT_.out (by kernel_rfl)) ?_
   try go_wp2
   go_ret
   exact ⟨by first | rfl | (simp [errW_none, errW_some] <;> rfl) | (simp [*, errW_none, errW_some] <;> rfl), by repeat (first | (with_reducible first | exact HB.out | apply below_alloc | apply pw_below_drewN | apply below_drew1 | refine below_set ?_ GE297.out) | exact HB.out)⟩

/-! ### impl_isLetter: function 59 -/
def impl_isLetter.f (a0 : Int) : Option (Bool) := if a0 ≥ 97 then (some (decide (a0 ≤ 122))) else (some false)
set_option maxHeartbeats 8000000 in
set_option maxRecDepth 100000 in
theorem impl_isLetter.calls (a0 : Int) (r : Bool) (w : World) (h : impl_isLetter.f a0 = some r) :
   Calls Try.prog 59 #[.int .u8 a0] w fun e w' => e = .returned (.bool r) ∧ Drawn0 w w' := by
  have H : (if a0 ≥ 97 then (some (decide (a0 ≤ 122))) else (some false)) = some r := h
  clear h
  by_cases c2 : a0 ≥ 97
  ·rw [if_pos c2] at H
   have c2b0 : decide (97 ≤ a0) = true := decide_eq_true c2
   clear c2
   obtain rfl := Option.some.inj H
   go_enter Try.func59, Try.ntmps59
   go_wp2
   go_ret
   exact ⟨by first | rfl | (simp; done) | (simp [*]; done), by repeat (first | exact Drawn0.refl _ | apply Drawn0.step)⟩
  ·rw [if_neg c2] at H
   have c2b0 : decide (97 ≤ a0) = false := decide_eq_false c2
   clear c2
   obtain rfl := Option.some.inj H
   go_enter Try.func59, Try.ntmps59
   go_wp2
   go_ret
   exact ⟨by first | rfl | (simp; done) | (simp [*]; done), by repeat (first | exact Drawn0.refl _ | apply Drawn0.step)⟩

/-! ### impl_alone: function 81 (given) -/
def aloneL (c : Int) : Bool := decide (97 ≤ c ∧ c ≤ 122)
theorem aloneL_eq (c : Int) : impl_isLetter.f c = some (aloneL c) := by
  unfold impl_isLetter.f aloneL
  by_cases h : c ≥ 97
  · rw [if_pos h]
    congr 1
    simp
    omega
  · rw [if_neg h]
    congr 1
    simp
    omega
/-- Is this cell white, in no slot and without a letter? -/
def aloneAt (ks : List Int) (s fill : ByteArray) (i : Nat) : Bool := decide (bt s i = 46) && (decide ((i : Int) ∉ ks) && !aloneL (bt fill i))
def aloneKeys (ks : List Int) : DataW Unit := Go.Maps.setOf (.lit (.int .i64 1)) (ks.map fun x => Lit.int .i64 x)
theorem aloneKeys_snoc (ks : List Int) (x : Int) : aloneKeys (ks ++ [x]) = (aloneKeys ks).put (.int .i64 x) (.lit (.int .i64 1)) := by
  unfold aloneKeys
  rw [List.map_append, List.map_cons, List.map_nil, Go.Maps.setOf_snoc]
theorem aloneKeys_fold (x : Int) (z : DataW Unit) : ∀ (ks : List Int) (m : DataW Unit), Go.Maps.IsMap m → ((ks.map fun x => Lit.int .i64 x).foldl (fun m x => m.put x (.lit (.int .i64 1))) m).atKey (.int .i64 x) z = if x ∈ ks then .lit (.int .i64 1) else m.atKey (.int .i64 x) z
  | [], m, _ => by simp
  | y :: ks, m, hm => by
    rw [List.map_cons, List.foldl_cons, aloneKeys_fold x z ks _ (hm.put _ _)]
    by_cases hx : x ∈ ks
    · rw [if_pos hx, if_pos (by simp [hx])]
    · rw [if_neg hx]
      by_cases hy : x = y
      · subst hy
        rw [if_pos (by simp), Go.Maps.atKey_put_same hm (by simp [WideAt.IsKeyLit])]
      · rw [if_neg (by simp [hx, hy]), Go.Maps.atKey_put_other (by simpa using hy)]
theorem aloneKeys_at (ks : List Int) (x : Int) : (aloneKeys ks).atKey (.int .i64 x) (.lit (.int .i64 0)) = .lit (.int .i64 (if x ∈ ks then 1 else 0)) := by
  unfold aloneKeys Go.Maps.setOf
  rw [aloneKeys_fold x _ ks _ ⟨[], rfl⟩]
  split <;> rfl
theorem aloneLaw : Go.Maps.Keyed Try.prog 3 := Go.Maps.int_keyed Try.underlying3
theorem aloneZero (w : World) : (zeroValue 3).run Try.prog w = .ok (.int .i64 0) w := by kernel_rfl
theorem aloneWf {x : Int} (h : 0 ≤ x ∧ x ≤ 1000000) : (Lit.int .i64 x).wf = true := WalkArith.wf_i64 ⟨by omega, by omega⟩
abbrev aloneOk (L : List (List Int)) (s fill : ByteArray) : Prop := (L.length ≤ 1000 ∧ ∀ l ∈ L, l.length ≤ 1000 ∧ ∀ x ∈ l, 0 ≤ x ∧ x ≤ 1000000) ∧ s.size ≤ fill.size ∧ fill.size ≤ 1000000
def impl_alone.f (k : Nat) (a0_0 a0_1 : Int) (a0_2 a1 : ByteArray) : Option Bool := (impl_layout.f k a0_0 a0_1 a0_2).bind fun L => if aloneOk L a0_2 a1 then some ((List.range' 0 a0_2.size).any (aloneAt L.flatten a0_2 a1)) else none
theorem impl_alone.mono : ∀ a0 a1 a2 a3 k, LeO (impl_alone.f k a0 a1 a2 a3) (impl_alone.f (k + 1) a0 a1 a2 a3) := by
  intro a0 a1 a2 a3 k
  unfold impl_alone.f
  exact LeO.bind (impl_layout.mono _ _ _ _) (fun _ => LeO.refl _)
theorem alone_take {L : List (List Int)} {i : Nat} (h : i < L.length) : (L.take (i + 1)).flatten = (L.take i).flatten ++ L[i] := by
  rw [List.take_succ_eq_append_getElem h, List.flatten_append]
  simp
theorem alone_flat_le {L : List (List Int)} (h : ∀ l ∈ L, l.length ≤ 1000) : L.flatten.length ≤ 1000 * L.length := by
  induction L with
  | nil => simp
  | cons a L ih =>
    have := ih (fun l hl => h l (by simp [hl]))
    have := h a (by simp)
    simp only [List.flatten_cons, List.length_append, List.length_cons]
    omega
theorem alone_box_cell {w w1 : World} {cs : Array Value} {t : TypeId} (hb : Below (w.alloc (.cells cs t)).heap.size (w.alloc (.cells cs t)) w1) (j : Nat) (v : Value) (h : cs[j]? = some v) : w1.cell? ⟨w.heap.size, j, none⟩ = some v := by
  have h1 : (⟨w.heap.size, j, none⟩ : Addr).block < (w.alloc (.cells cs t)).heap.size := by simp [World.alloc, -World.alloc_eq]
  rw [hb.cell h1]
  simp [World.cell?, World.alloc, -World.alloc_eq, h]
theorem alone_rest (ks : List Int) (s fill : ByteArray) {i : Nat} (h : i < s.size) : (List.range' i (s.size - i)).any (aloneAt ks s fill) = (aloneAt ks s fill i || (List.range' (i + 1) (s.size - (i + 1))).any (aloneAt ks s fill)) := by
  rw [show s.size - i = (s.size - (i + 1)) + 1 by omega, List.range'_succ, List.any_cons]
/-- What the loops keep: the grid's text, the rows, the map. -/
structure AlW (wb : World) (B G : Nat) (s : ByteArray) (vL : Value) (L : List (List Int)) (ks : List Int) (w : World) : Prop where
  g2 : w.cell? ⟨G, 2, none⟩ = some (.string s)
  gb : G ≠ B
  eB : B = wb.heap.size
  sl : Kd.S (Kd.slice 3 (Kd.int .i64)) 54 w B (fun k_ => k_ ≠ B) vL L
  mp : w.ownsMap Try.prog 3 (plainElem Try.prog 3) B ks.length (aloneKeys ks)
  hb : Below wb.heap.size wb w
theorem AlW.drewN {wb : World} {B G : Nat} {s : ByteArray} {vL : Value} {L : List (List Int)} {ks : List Int} {w : World} (h : AlW wb B G s vL L ks w) (n : Nat) : AlW wb B G s vL L ks (w.drewN n) :=
  ⟨h.g2, h.gb, h.eB, Kd.S_drewN h.sl n, h.mp, pw_below_drewN h.hb n⟩
theorem AlW.put {wb : World} {B G : Nat} {s : ByteArray} {vL : Value} {L : List (List Int)} {ks : List Int} {w w' : World} (h : AlW wb B G s vL L ks w) (x : Int) (hm : w'.ownsMap Try.prog 3 (plainElem Try.prog 3) B (ks.length + 1) ((aloneKeys ks).put (.int .i64 x) (.lit (.int .i64 1)))) (hg : w.grownBy w' (some B)) : AlW wb B G s vL L (ks ++ [x]) w' :=
  ⟨cell_grown hg h.g2 (fun e => by injection e with e; exact h.gb e), h.gb, h.eB, Kd.S_grown h.sl hg (fun k_ hk e => by injection e with e; exact hk e), by rw [aloneKeys_snoc, List.length_append]; exact hm, pw_below_grown h.hb _ h.hb.size hg (fun k_ e => by injection e with e; have := h.eB; omega)⟩
set_option maxHeartbeats 4000000 in
set_option maxRecDepth 100000 in
theorem impl_alone.calls (k : Nat) (a0_0 a0_1 : Int) (a0_2 a1 : ByteArray) (r : Bool) (w : World) (h : impl_alone.f k a0_0 a0_1 a0_2 a1 = some r) :
    Calls Try.prog 81 #[.agg #[.int .i64 a0_0, .int .i64 a0_1, .string a0_2], .string a1] w fun e w' => e = .returned (.bool r) ∧ Below w.heap.size w w' := by
  unfold impl_alone.f at h
  obtain ⟨L, hL, h⟩ := Option.bind_eq_some_iff.mp h
  by_cases hok : aloneOk L a0_2 a1
  · rw [if_pos hok] at h
    injection h with h
    obtain ⟨⟨hl0, hrow⟩, hsz, hfl⟩ := hok
    have kl := fun W => impl_layout.calls k a0_0 a0_1 a0_2 L W hL
    have hmm := @run_makeMap Try.prog
    have HR := Aside0.mk hrow
    have HRES := Aside0.mk h
    have HFL := Aside0.mk (Nat.le_trans (alone_flat_le (fun l hl => (hrow l hl).1)) (Nat.mul_le_mul_left 1000 hl0))
    clear hL hrow h
    go_enter Try.func81, Try.ntmps81
    go_wp2_with fail
    go_at_call 74
    refine (kl _).mono ?_
    rintro e w1 ⟨v0, rfl, hS, hb1⟩
    have hsz : ((w.alloc (.cells #[.int .i64 a0_0, .int .i64 a0_1, .string a0_2] 48)).alloc (.map #[] 0)).heap.size = (w.alloc (.cells #[.int .i64 a0_0, .int .i64 a0_1, .string a0_2] 48)).heap.size + 1 := by simp [World.alloc, -World.alloc_eq]
    have hwb : (w.alloc (.cells #[.int .i64 a0_0, .int .i64 a0_1, .string a0_2] 48)).heap.size = w.heap.size + 1 := by simp [World.alloc, -World.alloc_eq]
    rw [hwb] at hsz
    have HA0 : AlW (w.alloc (.cells #[.int .i64 a0_0, .int .i64 a0_1, .string a0_2] 48)) (w.heap.size + 1) w.heap.size a0_2 v0 L [] w1 :=
      ⟨alone_box_cell (below_step (below_alloc (Below.refl _ _) _) hb1) 2 _ rfl, by omega, hwb.symm, Kd.S_lower (Kd.S_mono (Kd.S_bound hS) (fun k_ hk e => by have h2 := hk.2.1; rw [hsz] at h2; omega)) (by rw [hsz]; omega),
        by rw [← hwb]; exact (World.ownsMap_made (H := Unit) (w.alloc (.cells #[.int .i64 a0_0, .int .i64 a0_1, .string a0_2] 48)) Try.prog 3 (plainElem Try.prog 3)).kept (grown_of_below hb1 none) (by simp), below_step (below_alloc (Below.refl _ _) _) hb1⟩
    have HA := Aside0.mk HA0
    obtain ⟨A13, c13, rfl⟩ := Kd.S_slice hS
    have HBW := Aside0.mk (below_alloc (Below.refl w.heap.size w) (.cells #[.int .i64 a0_0, .int .i64 a0_1, .string a0_2] 48))
    have HWS := Aside0.mk (show w.heap.size ≤ (w.alloc (.cells #[.int .i64 a0_0, .int .i64 a0_1, .string a0_2] 48)).heap.size from by simp)
    clear kl hmm hb1 hS HA0 hsz hwb
    generalize (w.alloc (.cells #[.int .i64 a0_0, .int .i64 a0_1, .string a0_2] 48)) = wb at HA HBW HWS ⊢
    have hL0 := hl0
    go_wp2
    go_loopg [15] L.length (fun kq v15 w' => ∃ (i : Nat), v15 = .int .i64 (i : Int) ∧ Aside0 (i ≤ L.length) ∧ Aside0 (L.length - i ≤ kq) ∧ Aside0 (AlW wb (w.heap.size + 1) w.heap.size a0_2 (.slice A13 L.length c13) L (L.take i).flatten w'))
    case atStart => exact ⟨0, rfl, ⟨Nat.zero_le _⟩, ⟨by omega⟩, HA⟩
    case round =>
      clear HA
      obtain ⟨i, rfl, hi, hk, HA⟩ := hrel
      obtain ⟨wo, rfl⟩ : ∃ wo : World, wo = wr := ⟨_, rfl⟩
      by_cases hlt : i < L.length
      · have cb0 : decide ((i : Int) < (L.length : Int)) = true := by simp; exact hlt
        obtain ⟨g, co, eg, hg1, hg2, _⟩ := Kd.S_form HA.out.sl (by omega)
        injection eg with ea _ ec
        subst ea ec
        obtain ⟨c, hcl, ⟨v, rfl, hR⟩, hcc⟩ := Kd.S_get HA.out.sl [] (i : Int) (by omega) (by omega)
        have hxr := hcc 0 v rfl
        rw [show (Kd.slice 3 (Kd.int .i64)).sz = 1 from rfl, Int.toNat_natCast, Nat.mul_one, Nat.add_zero, add_plain] at hxr
        have hli : L.getD i [] = L[i] := by rw [List.getD_eq_getElem?_getD, List.getElem?_eq_getElem hlt]; rfl
        rw [Int.toNat_natCast, hli] at hR
        have hnext := alone_take hlt
        obtain ⟨hrl, hrx⟩ := HR.out _ (List.getElem_mem hlt)
        have hkl : (L.take i).flatten.length + L[i].length ≤ 1000000 := by
          have h1 := HFL.out
          have h2 : (L.take i).flatten.length + L[i].length ≤ L.flatten.length := by
            rw [← List.length_append, ← hnext]
            conv => rhs; rw [← List.take_append_drop (i + 1) L, List.flatten_append, List.length_append]
            omega
          omega
        generalize L[i] = row at hR hnext hrl hrx hkl
        obtain ⟨Ai, ci, ei⟩ := Kd.R_slice hR
        subst ei
        have HRW := Aside0.mk (Kd.R_mono (ok' := fun k_ => k_ ≠ w.heap.size + 1) hR (fun k_ hk => hk.1))
        have HN := Aside0.mk hnext
        have HX := Aside0.mk hrx
        have HKL := Aside0.mk hkl
        have p1 : (0 ≤ (i : Int)) = True := eq_true (by omega)
        have q1 : ((i : Int) < (L.length : Int)) = True := eq_true (by omega)
        clear hcl hcc hR hli hnext hrx hkl hg1 hg2
        go_wp2
        go_loopg [21] row.length (fun kq v21 w'' => ∃ (j : Nat), v21 = .int .i64 (j : Int) ∧ Aside0 (j ≤ row.length) ∧ Aside0 (row.length - j ≤ kq) ∧ Aside0 (AlW wb (w.heap.size + 1) w.heap.size a0_2 (.slice (some ⟨g, 0, none⟩) L.length c13) L ((L.take i).flatten ++ row.take j) w'') ∧ Aside0 (Kd.R (Kd.int .i64) 3 w'' (w.heap.size + 1) (fun k_ => k_ ≠ w.heap.size + 1) (.slice Ai row.length ci) row))
        case atStart => exact ⟨0, rfl, ⟨Nat.zero_le _⟩, ⟨by omega⟩, ⟨by rw [List.take_zero, List.append_nil]; exact HA.out⟩, HRW⟩
        case round =>
          clear HA HRW hxr
          obtain ⟨j, rfl, hj, hkj, HA, HRW⟩ := hrel
          by_cases hjl : j < row.length
          · have cb1 : decide ((j : Int) < (row.length : Int)) = true := by simp; exact hjl
            obtain ⟨ad, e1, hx⟩ := Kd.at_int (Kd.R_reads' HRW.out).2.2 (j : Int) (by omega) (by omega)
            cases e1
            have hrd : rd row (j : Int) = row[j] := by unfold rd; simp [hjl]
            rw [hrd] at hx
            simp only [Int.toNat_natCast] at hx
            have hxj := HX.out _ (List.getElem_mem hjl)
            have htk := List.take_succ_eq_append_getElem hjl
            generalize row[j] = x at hx hxj htk
            have hkey : keyOf Try.prog 3 (.int .i64 x) = some (.int .i64 x) := Maps.keyOf_int_mk Try.underlying3 (aloneWf hxj)
            have HT := Aside0.mk htk
            have hown := HA.out.mp
            have hn : ((L.take i).flatten ++ row.take j).length < maxLen := by
              have := HKL.out
              rw [List.length_append]
              have := List.length_take_le j row
              unfold maxLen
              omega
            have p2 : (0 ≤ (j : Int)) = True := eq_true (by omega)
            have q2 : ((j : Int) < (row.length : Int)) = True := eq_true (by omega)
            clear hrd hxj htk
            go_wp2_with (at_mapUpdate; go_loud (refine wpList_mapUpdate_own _ rfl _ _ _ 106 rfl 3 3 aloneLaw Try.underlying106 _ (w.heap.size + 1) _ _ rfl hown hn _ _ _ rfl rfl hkey _ [] (plainElem_int Try.underlying3 (by decide)) ?_; intro w1 hown1 hgrow1))
            have HA2 := Aside0.mk (HA.out.put x hown1 hgrow1)
            have HRW2 := Aside0.mk (Kd.R_grown HRW.out hgrow1 (fun k_ hk e => by injection e with e; exact hk e))
            clear hown hown1 hgrow1 hn hkey hx
            go_roundg (row.length - (j + 1))
            case measure => have := hkj.out; omega
            case rel => exact ⟨j + 1, by simp, ⟨by omega⟩, ⟨Nat.le_refl _⟩, ⟨by rw [HT.out, ← List.append_assoc]; exact HA2.out⟩, HRW2⟩
          · have cb1 : decide ((j : Int) < (row.length : Int)) = false := by simp; omega
            have HA2 := Aside0.mk (show AlW wb (w.heap.size + 1) w.heap.size a0_2 (.slice (some ⟨g, 0, none⟩) L.length c13) L (L.take (i + 1)).flatten wr from by rw [HN.out]; have h := HA.out; rw [List.take_of_length_le (l := row) (by omega)] at h; exact h)
            go_wp2
            go_roundg (L.length - (i + 1))
            case measure => have := hk.out; omega
            case rel => exact ⟨i + 1, by simp, ⟨by omega⟩, ⟨Nat.le_refl _⟩, HA2⟩
      · have cb0 : decide ((i : Int) < (L.length : Int)) = false := by simp; omega
        have HA1 := Aside0.mk (show AlW wb (w.heap.size + 1) w.heap.size a0_2 (.slice A13 L.length c13) L L.flatten wo from by have h := HA.out; rw [List.take_of_length_le (by omega)] at h; exact h)
        clear HA
        have g2 := HA1.out.g2
        go_wp2
        clear g2
        go_loopg [32] a0_2.size (fun kq v32 w' => ∃ (i : Nat), v32 = .int .i64 (i : Int) ∧ Aside0 (i ≤ a0_2.size) ∧ Aside0 (a0_2.size - i ≤ kq) ∧ Aside0 ((List.range' i (a0_2.size - i)).any (aloneAt L.flatten a0_2 a1) = r) ∧ Aside0 (AlW wb (w.heap.size + 1) w.heap.size a0_2 (.slice A13 L.length c13) L L.flatten w'))
        case atStart => exact ⟨0, rfl, ⟨Nat.zero_le _⟩, ⟨by omega⟩, ⟨by rw [Nat.sub_zero]; exact HRES.out⟩, HA1⟩
        case round =>
          clear HA1 HRES
          obtain ⟨q, rfl, hq, hkq, heq, HA⟩ := hrel
          by_cases hlq : q < a0_2.size
          · have cb1 : decide ((q : Int) < (a0_2.size : Int)) = true := by simp; exact hlq
            have heq' := heq.out
            rw [alone_rest _ _ _ hlq] at heq'
            unfold aloneAt at heq'
            have hx8 := bt_at a0_2 (q : Int)
            simp only [Int.toNat_natCast] at hx8
            replace hx8 := hx8 hlq
            have p1 : (0 ≤ (q : Int)) = True := eq_true (by omega)
            have q1 : ((q : Int) < (a0_2.size : Int)) = True := eq_true (by omega)
            have q2 : ((q : Int) < (a1.size : Int)) = True := eq_true (by omega)
            have g2 := HA.out.g2
            by_cases hw : bt a0_2 (q : Int) = 46
            · have zb : (bt a0_2 (q : Int) == 46) = true := beq_iff_eq.mpr hw
              rw [decide_eq_true hw, Bool.true_and] at heq'
              obtain ⟨c, hrun, hat, _⟩ := HA.out.mp.lookup_int aloneLaw Try.underlying106 Try.underlying3 (aloneZero _) (key := .int .i64 (q : Int)) (Maps.keyOf_int_mk Try.underlying3 (aloneWf ⟨by omega, by omega⟩))
              rw [aloneKeys_at] at hat
              by_cases hm : (q : Int) ∈ L.flatten
              · rw [if_pos hm] at hat
                obtain rfl : (1 : Int) = c := by injection hat with hat; injection hat
                rw [decide_eq_false (by simpa using hm), Bool.false_and, Bool.false_or] at heq'
                have HE := Aside0.mk heq'
                rw [← hx8] at zb
                clear heq heq' hw hm hat hx8
                go_wp2
                go_roundg (a0_2.size - (q + 1))
                case measure => have := hkq.out; omega
                case rel => exact ⟨q + 1, by simp, ⟨by omega⟩, ⟨Nat.le_refl _⟩, HE, HA⟩
              · rw [if_neg hm] at hat
                obtain rfl : (0 : Int) = c := by injection hat with hat; injection hat
                rw [decide_eq_true hm, Bool.true_and] at heq'
                have kl := fun W => impl_isLetter.calls (bt a1 (q : Int)) (aloneL (bt a1 (q : Int))) W (aloneL_eq _)
                have hy8 := bt_at a1 (q : Int)
                simp only [Int.toNat_natCast] at hy8
                replace hy8 := hy8 (by omega)
                rw [← hx8] at zb
                have KL := Aside0.mk kl
                have HE := Aside0.mk heq'
                clear heq heq' hw hm hat hx8 kl
                go_wp2_with fail
                go_at_call 59
                have kl := KL.out
                refine (kl _).mono ?_
                rintro e w2 ⟨rfl, nd, rfl⟩
                clear kl KL hy8
                have hE := HE.out
                cases hal : aloneL (bt a1 (q : Int)) with
                | true =>
                  rw [hal, Bool.not_true, Bool.false_or] at hE
                  have HE := Aside0.mk hE
                  clear hE hal
                  go_wp2
                  go_roundg (a0_2.size - (q + 1))
                  case measure => have := hkq.out; omega
                  case rel => exact ⟨q + 1, by simp, ⟨by omega⟩, ⟨Nat.le_refl _⟩, HE, ⟨HA.out.drewN _⟩⟩
                | false =>
                  rw [hal, Bool.not_false, Bool.true_or] at hE
                  have HE := Aside0.mk hE
                  clear hE hal
                  go_wp2
                  go_ret
                  exact ⟨by rw [← HE.out] <;> rfl, below_step (w := w) HBW.out (pw_below_drewN HA.out.hb nd)⟩
            · have zb : (bt a0_2 (q : Int) == 46) = false := beq_eq_false_iff_ne.mpr hw
              rw [decide_eq_false hw, Bool.false_and, Bool.false_or] at heq'
              have HE := Aside0.mk heq'
              rw [← hx8] at zb
              clear heq heq' hw hx8
              go_wp2
              go_roundg (a0_2.size - (q + 1))
              case measure => have := hkq.out; omega
              case rel => exact ⟨q + 1, by simp, ⟨by omega⟩, ⟨Nat.le_refl _⟩, HE, HA⟩
          · have cb1 : decide ((q : Int) < (a0_2.size : Int)) = false := by simp; omega
            have heq' := heq.out
            rw [show a0_2.size - q = 0 by omega] at heq'
            have HE := Aside0.mk (show false = r from heq')
            have g2 := HA.out.g2
            clear heq heq'
            go_wp2
            go_ret
            exact ⟨by rw [← HE.out] <;> rfl, below_step (w := w) HBW.out HA.out.hb⟩
  · rw [if_neg hok] at h
    cases h


end Go.Proofs.Ytodcckiphdnjeab.QFnForms
