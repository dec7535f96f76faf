-- Written by a changed copy of the kit's printer (wip/mp.py of this repo), for this claim; Lean checks it.
import Derived.Test.YtodcckiphdnjeabQFnPlaysx0
import Derived.Test.YtodcckiphdnjeabQFnPlaysx3
namespace Go.Proofs.Ytodcckiphdnjeab.QFnPlays
@[simp] theorem bne_nil_4 (l : List UInt8) : (l != ([] : List UInt8)) = !l.isEmpty := by cases l <;> rfl
open Go.RowKit Go.Proofs.YtodcckiphdnjeabW.PrintWords Go.Proofs.YtodcckiphdnjeabW.PrintLast Go.Proofs.YtodcckiphdnjeabW.PrintMore
attribute [local go_sem] max2_int min2_int max_two min_two max_three min_three max_four min_four   -- for this text's walks alone
set_option linter.unusedVariables false
set_option linter.unusedSimpArgs false

theorem z4_0 {p : Prop} (h : p := by (with_reducible repeat (first | refine blk_drewN ?_ _ | refine blk_drew ?_ | refine blk_alloc ?_ _)); refine blk_put (cs := #[.int .i64 ((rd_T31 l0 a1).f0), .string ((rd_T31 l0 a1).f1), .int .i64 ((rd_T31 l0 a1).f2), .int .i64 0]) ?_ 3 _ rfl; (with_reducible repeat (first | refine blk_drewN ?_ _ | refine blk_drew ?_ | refine blk_alloc ?_ _)); refine blk_put (cs := #[.int .i64 ((rd_T31 l0 a1).f0), .string ((rd_T31 l0 a1).f1), .int .i64 0, .int .i64 0]) ?_ 2 _ rfl; (with_reducible repeat (first | refine blk_drewN ?_ _ | refine blk_drew ?_ | refine blk_alloc ?_ _)); refine blk_put (cs := #[.int .i64 ((rd_T31 l0 a1).f0), .string (⟨#[]⟩ : ByteArray), .int .i64 0, .int .i64 0]) ?_ 1 _ rfl; (with_reducible repeat (first | refine blk_drewN ?_ _ | refine blk_drew ?_ | refine blk_alloc ?_ _)); refine blk_put (cs := #[.int .i64 0, .string (⟨#[]⟩ : ByteArray), .int .i64 0, .int .i64 0]) ?_ 0 _ rfl; (with_reducible repeat (first | refine blk_drewN ?_ _ | refine blk_drew ?_ | refine blk_alloc ?_ _)); exact BK223.out) : p := h
theorem z4_1 {p : Prop} (h : p := by repeat (first | (with_reducible first | exact HB.out | apply below_alloc | apply pw_below_drewN | apply below_drew1 | refine below_set ?_ GE223.out) | exact HB.out)) : p := h
theorem z4_2 {p : Prop} (h : p := by repeat (first | (with_reducible first | exact HB.out | apply below_alloc | apply pw_below_drewN | apply below_drew1) | exact HB.out)) : p := h
theorem z4_3 {p : Prop} (h : p := by first | rfl | (simp [errW_none, errW_some] <;> rfl) | (simp [*, errW_none, errW_some] <;> rfl)) : p := h
theorem z4_4 {p : Prop} (h : p := by first | rfl | (simp; done) | (simp [*]; done)) : p := h
/-! ### spec_l15Ok: function 57 -/
mutual
def spec_l15Ok.j0 : Nat → List (S31) → Int → Bool → Int → ByteArray → Int → Int → Option (Bool)
  | 0, _, _, _, _, _, _, _ => none
  | k + 1, x0, x1, x33, x224000, x224001, x224002, x224003 => if x33 = true then (some false) else (if x224000 = 4 then (spec_l15Ok.j1 k x0 x1 true x224000 x224001 x224002 x224003) else (spec_l15Ok.j1 k x0 x1 (x224000 == 5) x224000 x224001 x224002 x224003))
def spec_l15Ok.j1 : Nat → List (S31) → Int → Bool → Int → ByteArray → Int → Int → Option (Bool)
  | 0, _, _, _, _, _, _, _ => none
  | k + 1, x0, x1, x6, x224000, x224001, x224002, x224003 => if x224000 = 1 then (if x224002 = 0 then (some (x224003 == 0)) else (some false)) else ((spec_l1In.f x224002 0 (wrap64 (x1 - 1))).bind fun t226 => (if t226 = true then (if x6 = true then ((spec_l1In.f x224003 0 (wrap64 (x1 - 1))).bind fun t227 => (if t227 = true then (some true) else (some false))) else (if x224003 = 0 then (if x224000 = 2 then (some true) else (if 0 ≤ x224002 then (if x224002 < (x0.length : Int) then (some (((rd_T31 x0 x224002).f0) == 1)) else (none)) else (none))) else (some false))) else (some false)))
end
def spec_l15Ok.f (k : Nat) (l0 : List (S31)) (a1 : Int) : Option (Bool) := if 0 ≤ a1 then (if a1 < (l0.length : Int) then ((spec_l1In.f ((rd_T31 l0 a1).f0) 1 9).bind fun t224 => (if t224 = true then ((spec_IsWord.f k ((rd_T31 l0 a1).f1)).bind fun t225 => (if ((rd_T31 l0 a1).f0) = 1 then (if t225 = true then (spec_l15Ok.j0 k l0 a1 false ((rd_T31 l0 a1).f0) ((rd_T31 l0 a1).f1) ((rd_T31 l0 a1).f2) ((rd_T31 l0 a1).f3)) else (spec_l15Ok.j0 k l0 a1 true ((rd_T31 l0 a1).f0) ((rd_T31 l0 a1).f1) ((rd_T31 l0 a1).f2) ((rd_T31 l0 a1).f3))) else (if t225 = true then (spec_l15Ok.j0 k l0 a1 true ((rd_T31 l0 a1).f0) ((rd_T31 l0 a1).f1) ((rd_T31 l0 a1).f2) ((rd_T31 l0 a1).f3)) else (spec_l15Ok.j0 k l0 a1 (((rd_T31 l0 a1).f1).toList != ([] : List UInt8)) ((rd_T31 l0 a1).f0) ((rd_T31 l0 a1).f1) ((rd_T31 l0 a1).f2) ((rd_T31 l0 a1).f3))))) else (spec_l15Ok.j0 k l0 a1 true ((rd_T31 l0 a1).f0) ((rd_T31 l0 a1).f1) ((rd_T31 l0 a1).f2) ((rd_T31 l0 a1).f3)))) else (none)) else (none)
theorem spec_l15Ok.mono_l : ∀ k, (∀ y0 y1 y2 y3 y4 y5 y6, LeO (spec_l15Ok.j0 k y0 y1 y2 y3 y4 y5 y6) (spec_l15Ok.j0 (k + 1) y0 y1 y2 y3 y4 y5 y6)) ∧ (∀ y0 y1 y2 y3 y4 y5 y6, LeO (spec_l15Ok.j1 k y0 y1 y2 y3 y4 y5 y6) (spec_l15Ok.j1 (k + 1) y0 y1 y2 y3 y4 y5 y6))
  | 0 => ⟨fun _ _ _ _ _ _ _ r h => by simp [spec_l15Ok.j0] at h, fun _ _ _ _ _ _ _ r h => by simp [spec_l15Ok.j1] at h⟩
  | k + 1 => by
   obtain ⟨ih0, ih1⟩ := spec_l15Ok.mono_l k
   refine ⟨?_, ?_⟩
   ·intro y0 y1 y2 y3 y4 y5 y6
    unfold spec_l15Ok.j0
    repeat' first
    | (with_reducible exact ih0 _ _ _ _ _ _ _)
    | (with_reducible exact ih1 _ _ _ _ _ _ _)
    | (with_reducible exact spec_IsWord.mono _ _)
    | (with_reducible exact LeO.refl _)
    | (with_reducible exact LeO.none _)
    | (with_reducible refine LeO.ite ?_ ?_)
    | (with_reducible refine LeO.bind ?_ (fun _ => ?_))
    | exact ih0 _ _ _ _ _ _ _
    | exact ih1 _ _ _ _ _ _ _
    | exact spec_IsWord.mono _ _
    | exact LeO.none _
    | refine LeO.ite ?_ ?_
    | refine LeO.bind ?_ (fun _ => ?_)
   ·intro y0 y1 y2 y3 y4 y5 y6
    unfold spec_l15Ok.j1
    repeat' first
    | (with_reducible exact ih0 _ _ _ _ _ _ _)
    | (with_reducible exact ih1 _ _ _ _ _ _ _)
    | (with_reducible exact spec_IsWord.mono _ _)
    | (with_reducible exact LeO.refl _)
    | (with_reducible exact LeO.none _)
    | (with_reducible refine LeO.ite ?_ ?_)
    | (with_reducible refine LeO.bind ?_ (fun _ => ?_))
    | exact ih0 _ _ _ _ _ _ _
    | exact ih1 _ _ _ _ _ _ _
    | exact spec_IsWord.mono _ _
    | exact LeO.none _
    | refine LeO.ite ?_ ?_
    | refine LeO.bind ?_ (fun _ => ?_)
theorem spec_l15Ok.mono : ∀ a0 a1 k, LeO (spec_l15Ok.f k a0 a1) (spec_l15Ok.f (k + 1) a0 a1) := by
  intro a0 a1 k
  obtain ⟨ih0, ih1⟩ := spec_l15Ok.mono_l k
  unfold spec_l15Ok.f
  repeat' first
    | (with_reducible exact ih0 _ _ _ _ _ _ _)
    | (with_reducible exact ih1 _ _ _ _ _ _ _)
    | (with_reducible exact spec_IsWord.mono _ _)
    | (with_reducible exact LeO.refl _)
    | (with_reducible exact LeO.none _)
    | (with_reducible refine LeO.ite ?_ ?_)
    | (with_reducible refine LeO.bind ?_ (fun _ => ?_))
    | exact ih0 _ _ _ _ _ _ _
    | exact ih1 _ _ _ _ _ _ _
    | exact spec_IsWord.mono _ _
    | exact LeO.none _
    | refine LeO.ite ?_ ?_
    | refine LeO.bind ?_ (fun _ => ?_)
set_option maxHeartbeats 8000000 in
set_option maxRecDepth 100000 in
theorem spec_l15Ok.calls (k : Nat) (A0 : Option Addr) (c0 : Nat) (l0 : List (S31)) (a1 : Int) (r : Bool) (w : World) (hr0 : Kd.C k31 w A0 l0.length l0) (hc0 : l0.length ≤ c0) (h : spec_l15Ok.f k l0 a1 = some r) :
   Calls Try.prog 57 #[.slice A0 l0.length c0, .int .i64 a1] w fun e w' => e = .returned (.bool r) ∧ Below w.heap.size w w' := by
  have hu31 := Try.underlying31
  have HR0 := Aside0.mk hr0
  have HC0 := Aside0.mk hc0
  clear hr0 hc0
  have HB := Aside0.mk (Below.refl w.heap.size w)
  have H : (if 0 ≤ a1 then (if a1 < (l0.length : Int) then ((spec_l1In.f ((rd_T31 l0 a1).f0) 1 9).bind fun t224 => (if t224 = true then ((spec_IsWord.f k ((rd_T31 l0 a1).f1)).bind fun t225 => (if ((rd_T31 l0 a1).f0) = 1 then (if t225 = true then (spec_l15Ok.j0 k l0 a1 false ((rd_T31 l0 a1).f0) ((rd_T31 l0 a1).f1) ((rd_T31 l0 a1).f2) ((rd_T31 l0 a1).f3)) else (spec_l15Ok.j0 k l0 a1 true ((rd_T31 l0 a1).f0) ((rd_T31 l0 a1).f1) ((rd_T31 l0 a1).f2) ((rd_T31 l0 a1).f3))) else (if t225 = true then (spec_l15Ok.j0 k l0 a1 true ((rd_T31 l0 a1).f0) ((rd_T31 l0 a1).f1) ((rd_T31 l0 a1).f2) ((rd_T31 l0 a1).f3)) else (spec_l15Ok.j0 k l0 a1 (((rd_T31 l0 a1).f1).toList != ([] : List UInt8)) ((rd_T31 l0 a1).f0) ((rd_T31 l0 a1).f1) ((rd_T31 l0 a1).f2) ((rd_T31 l0 a1).f3))))) else (spec_l15Ok.j0 k l0 a1 true ((rd_T31 l0 a1).f0) ((rd_T31 l0 a1).f1) ((rd_T31 l0 a1).f2) ((rd_T31 l0 a1).f3)))) else (none)) else (none)) = some r := h
  clear h
  by_cases c3 : 0 ≤ a1
  ·rw [if_pos c3] at H
   have c3b0 : decide (0 ≤ a1) = true := decide_eq_true c3
   clear c3
   by_cases c4 : a1 < (l0.length : Int)
   ·rw [if_pos c4] at H
    have c4b0 : decide (a1 < (l0.length : Int)) = true := decide_eq_true c4
    clear c4
    have HC5 := Aside0.mk H
    clear H
    have p222 : 0 ≤ (a1 : Int) := of_decide_eq_true (by first | (with_reducible assumption) | assumption)
    have q222 : a1 < (l0.length : Int) := of_decide_eq_true (by first | (with_reducible assumption) | assumption)
    obtain ⟨ad222, e222, hx222_0, hx222_1, hx222_2, hx222_3⟩ := at_T31 HR0.out a1 p222 q222
    cases e222
    replace p222 := eq_true p222
    replace q222 := eq_true q222
    go_enter Try.func57, Try.ntmps57
    go_upto_region 2 with (first | ((with_reducible refine gate_dst (N := 5) rfl ?_); refine box_event ?hg (N := 5) ?hd (cs := #[.int .i64 0, .string (⟨#[]⟩ : ByteArray), .int .i64 0, .int .i64 0]) (t := 31) ?hr ?_; (case hd => rfl); (case hg => rfl); (case hr => first | (go_simp; done) | (go_simp; rfl)); intro gb223 hg w6 hbox hb; have n0_ := Aside0.mk (below_step z4_2 hb); have n1_ := Aside0.mk (hbox); have n2_ := Aside0.mk ((by rw [hg]; exact (below_size z4_2) : w.heap.size ≤ gb223)); have n3_ := Aside0.mk ((by rw [hg]; exact (below_size z4_2) : w.heap.size ≤ gb223)); clear HB; have HB := n0_; have BK223 := n1_; have GW223 := n2_; have GE223 := n3_; clear n0_ n1_ n2_ n3_; clear hb hbox hg; have hcz7_0 : w6.cell? ⟨gb223, 0, none⟩ = some (.int .i64 0) := (blk_cell BK223.out 0).trans rfl; have hcz7_1 : w6.cell? ⟨gb223, 1, none⟩ = some (.string (⟨#[]⟩ : ByteArray)) := (blk_cell BK223.out 1).trans rfl; have hcz7_2 : w6.cell? ⟨gb223, 2, none⟩ = some (.int .i64 0) := (blk_cell BK223.out 2).trans rfl; have hcz7_3 : w6.cell? ⟨gb223, 3, none⟩ = some (.int .i64 0) := (blk_cell BK223.out 3).trans rfl; have hfz7_0 := blk_frozen BK223.out 0; have hfz7_1 := blk_frozen BK223.out 1; have hfz7_2 := blk_frozen BK223.out 2; have hfz7_3 := blk_frozen BK223.out 3))
    repeat (go_quiet (first | ((with_reducible refine gate_dst (N := 5) rfl ?_); refine box_event ?hg (N := 5) ?hd (cs := #[.int .i64 0, .string (⟨#[]⟩ : ByteArray), .int .i64 0, .int .i64 0]) (t := 31) ?hr ?_; (case hd => rfl); (case hg => rfl); (case hr => first | (go_simp; done) | (go_simp; rfl)); intro gb223 hg w6 hbox hb; have n0_ := Aside0.mk (below_step z4_2 hb); have n1_ := Aside0.mk (hbox); have n2_ := Aside0.mk ((by rw [hg]; exact (below_size z4_2) : w.heap.size ≤ gb223)); have n3_ := Aside0.mk ((by rw [hg]; exact (below_size z4_2) : w.heap.size ≤ gb223)); clear HB; have HB := n0_; have BK223 := n1_; have GW223 := n2_; have GE223 := n3_; clear n0_ n1_ n2_ n3_; clear hb hbox hg; have hcz7_0 : w6.cell? ⟨gb223, 0, none⟩ = some (.int .i64 0) := (blk_cell BK223.out 0).trans rfl; have hcz7_1 : w6.cell? ⟨gb223, 1, none⟩ = some (.string (⟨#[]⟩ : ByteArray)) := (blk_cell BK223.out 1).trans rfl; have hcz7_2 : w6.cell? ⟨gb223, 2, none⟩ = some (.int .i64 0) := (blk_cell BK223.out 2).trans rfl; have hcz7_3 : w6.cell? ⟨gb223, 3, none⟩ = some (.int .i64 0) := (blk_cell BK223.out 3).trans rfl; have hfz7_0 := blk_frozen BK223.out 0; have hfz7_1 := blk_frozen BK223.out 1; have hfz7_2 := blk_frozen BK223.out 2; have hfz7_3 := blk_frozen BK223.out 3)); go_upto_region 2 with (first | ((with_reducible refine gate_dst (N := 5) rfl ?_); refine box_event ?hg (N := 5) ?hd (cs := #[.int .i64 0, .string (⟨#[]⟩ : ByteArray), .int .i64 0, .int .i64 0]) (t := 31) ?hr ?_; (case hd => rfl); (case hg => rfl); (case hr => first | (go_simp; done) | (go_simp; rfl)); intro gb223 hg w6 hbox hb; have n0_ := Aside0.mk (below_step z4_2 hb); have n1_ := Aside0.mk (hbox); have n2_ := Aside0.mk ((by rw [hg]; exact (below_size z4_2) : w.heap.size ≤ gb223)); have n3_ := Aside0.mk ((by rw [hg]; exact (below_size z4_2) : w.heap.size ≤ gb223)); clear HB; have HB := n0_; have BK223 := n1_; have GW223 := n2_; have GE223 := n3_; clear n0_ n1_ n2_ n3_; clear hb hbox hg; have hcz7_0 : w6.cell? ⟨gb223, 0, none⟩ = some (.int .i64 0) := (blk_cell BK223.out 0).trans rfl; have hcz7_1 : w6.cell? ⟨gb223, 1, none⟩ = some (.string (⟨#[]⟩ : ByteArray)) := (blk_cell BK223.out 1).trans rfl; have hcz7_2 : w6.cell? ⟨gb223, 2, none⟩ = some (.int .i64 0) := (blk_cell BK223.out 2).trans rfl; have hcz7_3 : w6.cell? ⟨gb223, 3, none⟩ = some (.int .i64 0) := (blk_cell BK223.out 3).trans rfl; have hfz7_0 := blk_frozen BK223.out 0; have hfz7_1 := blk_frozen BK223.out 1; have hfz7_2 := blk_frozen BK223.out 2; have hfz7_3 := blk_frozen BK223.out 3)))
    (try simp only [Act.put, List.setIfInBounds_toArray, List.set_cons_zero, List.set_cons_succ])
    go_cut [33] (fun v33 wc => ∃ (kq : Nat) (x33_4 : Bool), v33 = .bool x33_4 ∧ Aside0 (spec_l15Ok.j0 kq l0 a1 x33_4 ((rd_T31 l0 a1).f0) ((rd_T31 l0 a1).f1) ((rd_T31 l0 a1).f2) ((rd_T31 l0 a1).f3) = some r) ∧ Aside0 (kq ≤ k) ∧ Aside0 (wc.heap[gb223]? = some (.cells #[.int .i64 ((rd_T31 l0 a1).f0), .string ((rd_T31 l0 a1).f1), .int .i64 ((rd_T31 l0 a1).f2), .int .i64 ((rd_T31 l0 a1).f3)] 31 (0, 0))) ∧ Aside0 (Below w.heap.size w wc))
    case first =>
     have H := HC5.out
     clear HC5
     replace H := Option.bind_eq_some_iff.mp H
     obtain ⟨t224, A80, H⟩ := H
     replace H : (if t224 = true then ((spec_IsWord.f k ((rd_T31 l0 a1).f1)).bind fun t225 => (if ((rd_T31 l0 a1).f0) = 1 then (if t225 = true then (spec_l15Ok.j0 k l0 a1 false ((rd_T31 l0 a1).f0) ((rd_T31 l0 a1).f1) ((rd_T31 l0 a1).f2) ((rd_T31 l0 a1).f3)) else (spec_l15Ok.j0 k l0 a1 true ((rd_T31 l0 a1).f0) ((rd_T31 l0 a1).f1) ((rd_T31 l0 a1).f2) ((rd_T31 l0 a1).f3))) else (if t225 = true then (spec_l15Ok.j0 k l0 a1 true ((rd_T31 l0 a1).f0) ((rd_T31 l0 a1).f1) ((rd_T31 l0 a1).f2) ((rd_T31 l0 a1).f3)) else (spec_l15Ok.j0 k l0 a1 (((rd_T31 l0 a1).f1).toList != ([] : List UInt8)) ((rd_T31 l0 a1).f0) ((rd_T31 l0 a1).f1) ((rd_T31 l0 a1).f2) ((rd_T31 l0 a1).f3))))) else (spec_l15Ok.j0 k l0 a1 true ((rd_T31 l0 a1).f0) ((rd_T31 l0 a1).f1) ((rd_T31 l0 a1).f2) ((rd_T31 l0 a1).f3))) = some r := H
     have A8 := Aside0.mk A80
     clear A80
     by_cases c9 : t224 = true
     ·subst c9
      have H1 : ((spec_IsWord.f k ((rd_T31 l0 a1).f1)).bind fun t225 => (if ((rd_T31 l0 a1).f0) = 1 then (if t225 = true then (spec_l15Ok.j0 k l0 a1 false ((rd_T31 l0 a1).f0) ((rd_T31 l0 a1).f1) ((rd_T31 l0 a1).f2) ((rd_T31 l0 a1).f3)) else (spec_l15Ok.j0 k l0 a1 true ((rd_T31 l0 a1).f0) ((rd_T31 l0 a1).f1) ((rd_T31 l0 a1).f2) ((rd_T31 l0 a1).f3))) else (if t225 = true then (spec_l15Ok.j0 k l0 a1 true ((rd_T31 l0 a1).f0) ((rd_T31 l0 a1).f1) ((rd_T31 l0 a1).f2) ((rd_T31 l0 a1).f3)) else (spec_l15Ok.j0 k l0 a1 (((rd_T31 l0 a1).f1).toList != ([] : List UInt8)) ((rd_T31 l0 a1).f0) ((rd_T31 l0 a1).f1) ((rd_T31 l0 a1).f2) ((rd_T31 l0 a1).f3))))) = some r := by rw [if_pos rfl] at H; exact H
      clear H
      have H := H1
      clear H1
      replace H := Option.bind_eq_some_iff.mp H
      obtain ⟨t225, A100, H⟩ := H
      replace H : (if ((rd_T31 l0 a1).f0) = 1 then (if t225 = true then (spec_l15Ok.j0 k l0 a1 false ((rd_T31 l0 a1).f0) ((rd_T31 l0 a1).f1) ((rd_T31 l0 a1).f2) ((rd_T31 l0 a1).f3)) else (spec_l15Ok.j0 k l0 a1 true ((rd_T31 l0 a1).f0) ((rd_T31 l0 a1).f1) ((rd_T31 l0 a1).f2) ((rd_T31 l0 a1).f3))) else (if t225 = true then (spec_l15Ok.j0 k l0 a1 true ((rd_T31 l0 a1).f0) ((rd_T31 l0 a1).f1) ((rd_T31 l0 a1).f2) ((rd_T31 l0 a1).f3)) else (spec_l15Ok.j0 k l0 a1 (((rd_T31 l0 a1).f1).toList != ([] : List UInt8)) ((rd_T31 l0 a1).f0) ((rd_T31 l0 a1).f1) ((rd_T31 l0 a1).f2) ((rd_T31 l0 a1).f3)))) = some r := H
      have A10 := Aside0.mk A100
      clear A100
      by_cases c11 : ((rd_T31 l0 a1).f0) = 1
      ·rw [if_pos c11] at H
       have c11b0 : (((rd_T31 l0 a1).f0) == 1) = true := beq_iff_eq.mpr c11
       have c11b1 : (((rd_T31 l0 a1).f0) != 1) = false := bne_eq_false_iff_eq.mpr c11
       clear c11
       (first | rw [c11b0] | (simp only [i64_w, i32_w]; rw [c11b0]) | skip)
       by_cases c12 : t225 = true
       ·subst c12
        have H1 : (spec_l15Ok.j0 k l0 a1 false ((rd_T31 l0 a1).f0) ((rd_T31 l0 a1).f1) ((rd_T31 l0 a1).f2) ((rd_T31 l0 a1).f3)) = some r := by rw [if_pos rfl] at H; exact H
        clear H
        have H := H1
        clear H1
        have H' := Aside0.mk H
        clear H
        have hcz13_0 : w6.cell? ⟨gb223, 0, none⟩ = some (.int .i64 0) := (blk_cell BK223.out 0).trans rfl
        have hcz13_1 : w6.cell? ⟨gb223, 1, none⟩ = some (.string (⟨#[]⟩ : ByteArray)) := (blk_cell BK223.out 1).trans rfl
        have hcz13_2 : w6.cell? ⟨gb223, 2, none⟩ = some (.int .i64 0) := (blk_cell BK223.out 2).trans rfl
        have hcz13_3 : w6.cell? ⟨gb223, 3, none⟩ = some (.int .i64 0) := (blk_cell BK223.out 3).trans rfl
        have hfz13_0 := blk_frozen BK223.out 0
        have hfz13_1 := blk_frozen BK223.out 1
        have hfz13_2 := blk_frozen BK223.out 2
        have hfz13_3 := blk_frozen BK223.out 3
        go_wp2_with (first | (go_at_call 58; (with_reducible refine (spec_l1In.calls ((rd_T31 l0 a1).f0) 1 9 true _ A8.out).mono ?_); rintro e w' ⟨rfl, ⟨nd, rfl⟩⟩; (try first | exact ⟨rfl, _, World.drewN_drewN _ _ _⟩ | exact ⟨rfl, _, Eq.trans (World.drewN_drewN _ _ _) (congrArg (World.drewN _) (Nat.add_assoc _ _ _))⟩)) | (go_at_call 24; (with_reducible refine (spec_IsWord.calls k ((rd_T31 l0 a1).f1) true _ A10.out).mono ?_); rintro e w' ⟨rfl, ⟨nd, rfl⟩⟩; (try first | exact ⟨rfl, _, World.drewN_drewN _ _ _⟩ | exact ⟨rfl, _, Eq.trans (World.drewN_drewN _ _ _) (congrArg (World.drewN _) (Nat.add_assoc _ _ _))⟩)))
        repeat (go_quiet (first | (go_at_call 58; (with_reducible refine (spec_l1In.calls ((rd_T31 l0 a1).f0) 1 9 true _ A8.out).mono ?_); rintro e w' ⟨rfl, ⟨nd, rfl⟩⟩; (try first | exact ⟨rfl, _, World.drewN_drewN _ _ _⟩ | exact ⟨rfl, _, Eq.trans (World.drewN_drewN _ _ _) (congrArg (World.drewN _) (Nat.add_assoc _ _ _))⟩)) | (go_at_call 24; (with_reducible refine (spec_IsWord.calls k ((rd_T31 l0 a1).f1) true _ A10.out).mono ?_); rintro e w' ⟨rfl, ⟨nd, rfl⟩⟩; (try first | exact ⟨rfl, _, World.drewN_drewN _ _ _⟩ | exact ⟨rfl, _, Eq.trans (World.drewN_drewN _ _ _) (congrArg (World.drewN _) (Nat.add_assoc _ _ _))⟩))); try go_wp2_with (first | (go_at_call 58; (with_reducible refine (spec_l1In.calls ((rd_T31 l0 a1).f0) 1 9 true _ A8.out).mono ?_); rintro e w' ⟨rfl, ⟨nd, rfl⟩⟩; (try first | exact ⟨rfl, _, World.drewN_drewN _ _ _⟩ | exact ⟨rfl, _, Eq.trans (World.drewN_drewN _ _ _) (congrArg (World.drewN _) (Nat.add_assoc _ _ _))⟩)) | (go_at_call 24; (with_reducible refine (spec_IsWord.calls k ((rd_T31 l0 a1).f1) true _ A10.out).mono ?_); rintro e w' ⟨rfl, ⟨nd, rfl⟩⟩; (try first | exact ⟨rfl, _, World.drewN_drewN _ _ _⟩ | exact ⟨rfl, _, Eq.trans (World.drewN_drewN _ _ _) (congrArg (World.drewN _) (Nat.add_assoc _ _ _))⟩))))
        go_meet
        case rel => exact ⟨_, (false), z4_4, H', ⟨by first | omega | exact Nat.le_refl _⟩, ⟨z4_0⟩, ⟨z4_1⟩⟩
       ·replace c12 := Bool.eq_false_iff.mpr c12
        subst c12
        have H1 : (spec_l15Ok.j0 k l0 a1 true ((rd_T31 l0 a1).f0) ((rd_T31 l0 a1).f1) ((rd_T31 l0 a1).f2) ((rd_T31 l0 a1).f3)) = some r := by rw [if_neg (show ¬ (false = true) by decide)] at H; exact H
        clear H
        have H := H1
        clear H1
        have H' := Aside0.mk H
        clear H
        have hcz14_0 : w6.cell? ⟨gb223, 0, none⟩ = some (.int .i64 0) := (blk_cell BK223.out 0).trans rfl
        have hcz14_1 : w6.cell? ⟨gb223, 1, none⟩ = some (.string (⟨#[]⟩ : ByteArray)) := (blk_cell BK223.out 1).trans rfl
        have hcz14_2 : w6.cell? ⟨gb223, 2, none⟩ = some (.int .i64 0) := (blk_cell BK223.out 2).trans rfl
        have hcz14_3 : w6.cell? ⟨gb223, 3, none⟩ = some (.int .i64 0) := (blk_cell BK223.out 3).trans rfl
        have hfz14_0 := blk_frozen BK223.out 0
        have hfz14_1 := blk_frozen BK223.out 1
        have hfz14_2 := blk_frozen BK223.out 2
        have hfz14_3 := blk_frozen BK223.out 3
        go_wp2_with (first | (go_at_call 58; (with_reducible refine (spec_l1In.calls ((rd_T31 l0 a1).f0) 1 9 true _ A8.out).mono ?_); rintro e w' ⟨rfl, ⟨nd, rfl⟩⟩; (try first | exact ⟨rfl, _, World.drewN_drewN _ _ _⟩ | exact ⟨rfl, _, Eq.trans (World.drewN_drewN _ _ _) (congrArg (World.drewN _) (Nat.add_assoc _ _ _))⟩)) | (go_at_call 24; (with_reducible refine (spec_IsWord.calls k ((rd_T31 l0 a1).f1) false _ A10.out).mono ?_); rintro e w' ⟨rfl, ⟨nd, rfl⟩⟩; (try first | exact ⟨rfl, _, World.drewN_drewN _ _ _⟩ | exact ⟨rfl, _, Eq.trans (World.drewN_drewN _ _ _) (congrArg (World.drewN _) (Nat.add_assoc _ _ _))⟩)))
        repeat (go_quiet (first | (go_at_call 58; (with_reducible refine (spec_l1In.calls ((rd_T31 l0 a1).f0) 1 9 true _ A8.out).mono ?_); rintro e w' ⟨rfl, ⟨nd, rfl⟩⟩; (try first | exact ⟨rfl, _, World.drewN_drewN _ _ _⟩ | exact ⟨rfl, _, Eq.trans (World.drewN_drewN _ _ _) (congrArg (World.drewN _) (Nat.add_assoc _ _ _))⟩)) | (go_at_call 24; (with_reducible refine (spec_IsWord.calls k ((rd_T31 l0 a1).f1) false _ A10.out).mono ?_); rintro e w' ⟨rfl, ⟨nd, rfl⟩⟩; (try first | exact ⟨rfl, _, World.drewN_drewN _ _ _⟩ | exact ⟨rfl, _, Eq.trans (World.drewN_drewN _ _ _) (congrArg (World.drewN _) (Nat.add_assoc _ _ _))⟩))); try go_wp2_with (first | (go_at_call 58; (with_reducible refine (spec_l1In.calls ((rd_T31 l0 a1).f0) 1 9 true _ A8.out).mono ?_); rintro e w' ⟨rfl, ⟨nd, rfl⟩⟩; (try first | exact ⟨rfl, _, World.drewN_drewN _ _ _⟩ | exact ⟨rfl, _, Eq.trans (World.drewN_drewN _ _ _) (congrArg (World.drewN _) (Nat.add_assoc _ _ _))⟩)) | (go_at_call 24; (with_reducible refine (spec_IsWord.calls k ((rd_T31 l0 a1).f1) false _ A10.out).mono ?_); rintro e w' ⟨rfl, ⟨nd, rfl⟩⟩; (try first | exact ⟨rfl, _, World.drewN_drewN _ _ _⟩ | exact ⟨rfl, _, Eq.trans (World.drewN_drewN _ _ _) (congrArg (World.drewN _) (Nat.add_assoc _ _ _))⟩))))
        go_meet
        case rel => exact ⟨_, (true), z4_4, H', ⟨by first | omega | exact Nat.le_refl _⟩, ⟨z4_0⟩, ⟨z4_1⟩⟩
      ·rw [if_neg c11] at H
       have c11b0 : (((rd_T31 l0 a1).f0) == 1) = false := beq_eq_false_iff_ne.mpr c11
       have c11b1 : (((rd_T31 l0 a1).f0) != 1) = true := bne_iff_ne.mpr c11
       (first | rw [c11b0] | (simp only [i64_w, i32_w]; rw [c11b0]) | skip)
       by_cases c15 : t225 = true
       ·subst c15
        have H1 : (spec_l15Ok.j0 k l0 a1 true ((rd_T31 l0 a1).f0) ((rd_T31 l0 a1).f1) ((rd_T31 l0 a1).f2) ((rd_T31 l0 a1).f3)) = some r := by rw [if_pos rfl] at H; exact H
        clear H
        have H := H1
        clear H1
        have H' := Aside0.mk H
        clear H
        have hcz16_0 : w6.cell? ⟨gb223, 0, none⟩ = some (.int .i64 0) := (blk_cell BK223.out 0).trans rfl
        have hcz16_1 : w6.cell? ⟨gb223, 1, none⟩ = some (.string (⟨#[]⟩ : ByteArray)) := (blk_cell BK223.out 1).trans rfl
        have hcz16_2 : w6.cell? ⟨gb223, 2, none⟩ = some (.int .i64 0) := (blk_cell BK223.out 2).trans rfl
        have hcz16_3 : w6.cell? ⟨gb223, 3, none⟩ = some (.int .i64 0) := (blk_cell BK223.out 3).trans rfl
        have hfz16_0 := blk_frozen BK223.out 0
        have hfz16_1 := blk_frozen BK223.out 1
        have hfz16_2 := blk_frozen BK223.out 2
        have hfz16_3 := blk_frozen BK223.out 3
        go_wp2_with (first | (go_at_call 58; (with_reducible refine (spec_l1In.calls ((rd_T31 l0 a1).f0) 1 9 true _ A8.out).mono ?_); rintro e w' ⟨rfl, ⟨nd, rfl⟩⟩; (try first | exact ⟨rfl, _, World.drewN_drewN _ _ _⟩ | exact ⟨rfl, _, Eq.trans (World.drewN_drewN _ _ _) (congrArg (World.drewN _) (Nat.add_assoc _ _ _))⟩)) | (go_at_call 24; (with_reducible refine (spec_IsWord.calls k ((rd_T31 l0 a1).f1) true _ A10.out).mono ?_); rintro e w' ⟨rfl, ⟨nd, rfl⟩⟩; (try first | exact ⟨rfl, _, World.drewN_drewN _ _ _⟩ | exact ⟨rfl, _, Eq.trans (World.drewN_drewN _ _ _) (congrArg (World.drewN _) (Nat.add_assoc _ _ _))⟩)))
        repeat (go_quiet (first | (go_at_call 58; (with_reducible refine (spec_l1In.calls ((rd_T31 l0 a1).f0) 1 9 true _ A8.out).mono ?_); rintro e w' ⟨rfl, ⟨nd, rfl⟩⟩; (try first | exact ⟨rfl, _, World.drewN_drewN _ _ _⟩ | exact ⟨rfl, _, Eq.trans (World.drewN_drewN _ _ _) (congrArg (World.drewN _) (Nat.add_assoc _ _ _))⟩)) | (go_at_call 24; (with_reducible refine (spec_IsWord.calls k ((rd_T31 l0 a1).f1) true _ A10.out).mono ?_); rintro e w' ⟨rfl, ⟨nd, rfl⟩⟩; (try first | exact ⟨rfl, _, World.drewN_drewN _ _ _⟩ | exact ⟨rfl, _, Eq.trans (World.drewN_drewN _ _ _) (congrArg (World.drewN _) (Nat.add_assoc _ _ _))⟩))); try go_wp2_with (first | (go_at_call 58; (with_reducible refine (spec_l1In.calls ((rd_T31 l0 a1).f0) 1 9 true _ A8.out).mono ?_); rintro e w' ⟨rfl, ⟨nd, rfl⟩⟩; (try first | exact ⟨rfl, _, World.drewN_drewN _ _ _⟩ | exact ⟨rfl, _, Eq.trans (World.drewN_drewN _ _ _) (congrArg (World.drewN _) (Nat.add_assoc _ _ _))⟩)) | (go_at_call 24; (with_reducible refine (spec_IsWord.calls k ((rd_T31 l0 a1).f1) true _ A10.out).mono ?_); rintro e w' ⟨rfl, ⟨nd, rfl⟩⟩; (try first | exact ⟨rfl, _, World.drewN_drewN _ _ _⟩ | exact ⟨rfl, _, Eq.trans (World.drewN_drewN _ _ _) (congrArg (World.drewN _) (Nat.add_assoc _ _ _))⟩))))
        go_meet
        case rel => exact ⟨_, (true), z4_4, H', ⟨by first | omega | exact Nat.le_refl _⟩, ⟨z4_0⟩, ⟨z4_1⟩⟩
       ·replace c15 := Bool.eq_false_iff.mpr c15
        subst c15
        have H1 : (spec_l15Ok.j0 k l0 a1 (((rd_T31 l0 a1).f1).toList != ([] : List UInt8)) ((rd_T31 l0 a1).f0) ((rd_T31 l0 a1).f1) ((rd_T31 l0 a1).f2) ((rd_T31 l0 a1).f3)) = some r := by rw [if_neg (show ¬ (false = true) by decide)] at H; exact H
        clear H
        have H := H1
        clear H1
        have H' := Aside0.mk H
        clear H
        have hcz17_0 : w6.cell? ⟨gb223, 0, none⟩ = some (.int .i64 0) := (blk_cell BK223.out 0).trans rfl
        have hcz17_1 : w6.cell? ⟨gb223, 1, none⟩ = some (.string (⟨#[]⟩ : ByteArray)) := (blk_cell BK223.out 1).trans rfl
        have hcz17_2 : w6.cell? ⟨gb223, 2, none⟩ = some (.int .i64 0) := (blk_cell BK223.out 2).trans rfl
        have hcz17_3 : w6.cell? ⟨gb223, 3, none⟩ = some (.int .i64 0) := (blk_cell BK223.out 3).trans rfl
        have hfz17_0 := blk_frozen BK223.out 0
        have hfz17_1 := blk_frozen BK223.out 1
        have hfz17_2 := blk_frozen BK223.out 2
        have hfz17_3 := blk_frozen BK223.out 3
        go_wp2_with (first | (go_at_call 58; (with_reducible refine (spec_l1In.calls ((rd_T31 l0 a1).f0) 1 9 true _ A8.out).mono ?_); rintro e w' ⟨rfl, ⟨nd, rfl⟩⟩; (try first | exact ⟨rfl, _, World.drewN_drewN _ _ _⟩ | exact ⟨rfl, _, Eq.trans (World.drewN_drewN _ _ _) (congrArg (World.drewN _) (Nat.add_assoc _ _ _))⟩)) | (go_at_call 24; (with_reducible refine (spec_IsWord.calls k ((rd_T31 l0 a1).f1) false _ A10.out).mono ?_); rintro e w' ⟨rfl, ⟨nd, rfl⟩⟩; (try first | exact ⟨rfl, _, World.drewN_drewN _ _ _⟩ | exact ⟨rfl, _, Eq.trans (World.drewN_drewN _ _ _) (congrArg (World.drewN _) (Nat.add_assoc _ _ _))⟩)))
        repeat (go_quiet (first | (go_at_call 58; (with_reducible refine (spec_l1In.calls ((rd_T31 l0 a1).f0) 1 9 true _ A8.out).mono ?_); rintro e w' ⟨rfl, ⟨nd, rfl⟩⟩; (try first | exact ⟨rfl, _, World.drewN_drewN _ _ _⟩ | exact ⟨rfl, _, Eq.trans (World.drewN_drewN _ _ _) (congrArg (World.drewN _) (Nat.add_assoc _ _ _))⟩)) | (go_at_call 24; (with_reducible refine (spec_IsWord.calls k ((rd_T31 l0 a1).f1) false _ A10.out).mono ?_); rintro e w' ⟨rfl, ⟨nd, rfl⟩⟩; (try first | exact ⟨rfl, _, World.drewN_drewN _ _ _⟩ | exact ⟨rfl, _, Eq.trans (World.drewN_drewN _ _ _) (congrArg (World.drewN _) (Nat.add_assoc _ _ _))⟩))); try go_wp2_with (first | (go_at_call 58; (with_reducible refine (spec_l1In.calls ((rd_T31 l0 a1).f0) 1 9 true _ A8.out).mono ?_); rintro e w' ⟨rfl, ⟨nd, rfl⟩⟩; (try first | exact ⟨rfl, _, World.drewN_drewN _ _ _⟩ | exact ⟨rfl, _, Eq.trans (World.drewN_drewN _ _ _) (congrArg (World.drewN _) (Nat.add_assoc _ _ _))⟩)) | (go_at_call 24; (with_reducible refine (spec_IsWord.calls k ((rd_T31 l0 a1).f1) false _ A10.out).mono ?_); rintro e w' ⟨rfl, ⟨nd, rfl⟩⟩; (try first | exact ⟨rfl, _, World.drewN_drewN _ _ _⟩ | exact ⟨rfl, _, Eq.trans (World.drewN_drewN _ _ _) (congrArg (World.drewN _) (Nat.add_assoc _ _ _))⟩))))
        go_meet
        case rel => exact ⟨_, ((((rd_T31 l0 a1).f1).toList != ([] : List UInt8))), z4_4, H', ⟨by first | omega | exact Nat.le_refl _⟩, ⟨z4_0⟩, ⟨z4_1⟩⟩
     ·replace c9 := Bool.eq_false_iff.mpr c9
      subst c9
      have H1 : (spec_l15Ok.j0 k l0 a1 true ((rd_T31 l0 a1).f0) ((rd_T31 l0 a1).f1) ((rd_T31 l0 a1).f2) ((rd_T31 l0 a1).f3)) = some r := by rw [if_neg (show ¬ (false = true) by decide)] at H; exact H
      clear H
      have H := H1
      clear H1
      have H' := Aside0.mk H
      clear H
      have hcz18_0 : w6.cell? ⟨gb223, 0, none⟩ = some (.int .i64 0) := (blk_cell BK223.out 0).trans rfl
      have hcz18_1 : w6.cell? ⟨gb223, 1, none⟩ = some (.string (⟨#[]⟩ : ByteArray)) := (blk_cell BK223.out 1).trans rfl
      have hcz18_2 : w6.cell? ⟨gb223, 2, none⟩ = some (.int .i64 0) := (blk_cell BK223.out 2).trans rfl
      have hcz18_3 : w6.cell? ⟨gb223, 3, none⟩ = some (.int .i64 0) := (blk_cell BK223.out 3).trans rfl
      have hfz18_0 := blk_frozen BK223.out 0
      have hfz18_1 := blk_frozen BK223.out 1
      have hfz18_2 := blk_frozen BK223.out 2
      have hfz18_3 := blk_frozen BK223.out 3
      go_wp2_with (first | (go_at_call 58; (with_reducible refine (spec_l1In.calls ((rd_T31 l0 a1).f0) 1 9 false _ A8.out).mono ?_); rintro e w' ⟨rfl, ⟨nd, rfl⟩⟩; (try first | exact ⟨rfl, _, World.drewN_drewN _ _ _⟩ | exact ⟨rfl, _, Eq.trans (World.drewN_drewN _ _ _) (congrArg (World.drewN _) (Nat.add_assoc _ _ _))⟩)))
      repeat (go_quiet (first | (go_at_call 58; (with_reducible refine (spec_l1In.calls ((rd_T31 l0 a1).f0) 1 9 false _ A8.out).mono ?_); rintro e w' ⟨rfl, ⟨nd, rfl⟩⟩; (try first | exact ⟨rfl, _, World.drewN_drewN _ _ _⟩ | exact ⟨rfl, _, Eq.trans (World.drewN_drewN _ _ _) (congrArg (World.drewN _) (Nat.add_assoc _ _ _))⟩))); try go_wp2_with (first | (go_at_call 58; (with_reducible refine (spec_l1In.calls ((rd_T31 l0 a1).f0) 1 9 false _ A8.out).mono ?_); rintro e w' ⟨rfl, ⟨nd, rfl⟩⟩; (try first | exact ⟨rfl, _, World.drewN_drewN _ _ _⟩ | exact ⟨rfl, _, Eq.trans (World.drewN_drewN _ _ _) (congrArg (World.drewN _) (Nat.add_assoc _ _ _))⟩))))
      go_meet
      case rel => exact ⟨_, (true), z4_4, H', ⟨by first | omega | exact Nat.le_refl _⟩, ⟨z4_0⟩, ⟨z4_1⟩⟩
    case rest =>
     clear HC5
     try clear c1
     try clear p2
     try clear q2
     try clear hx2
     try clear c3
     try clear c3b0
     try clear c4
     try clear c4b0
     try clear c5
     try clear c9
     try clear c11
     try clear c11b0
     try clear c11b1
     try clear c12
     try clear c15
     try clear hcz13_0
     try clear hcz13_1
     try clear hcz13_2
     try clear hcz13_3
     try clear hcz14_0
     try clear hcz14_1
     try clear hcz14_2
     try clear hcz14_3
     try clear hcz16_0
     try clear hcz16_1
     try clear hcz16_2
     try clear hcz16_3
     try clear hcz17_0
     try clear hcz17_1
     try clear hcz17_2
     try clear hcz17_3
     try clear hcz18_0
     try clear hcz18_1
     try clear hcz18_2
     try clear hcz18_3
     try clear hcz7_0
     try clear hcz7_1
     try clear hcz7_2
     try clear hcz7_3
     try clear hfz13_0
     try clear hfz13_1
     try clear hfz13_2
     try clear hfz13_3
     try clear hfz14_0
     try clear hfz14_1
     try clear hfz14_2
     try clear hfz14_3
     try clear hfz16_0
     try clear hfz16_1
     try clear hfz16_2
     try clear hfz16_3
     try clear hfz17_0
     try clear hfz17_1
     try clear hfz17_2
     try clear hfz17_3
     try clear hfz18_0
     try clear hfz18_1
     try clear hfz18_2
     try clear hfz18_3
     try clear hfz7_0
     try clear hfz7_1
     try clear hfz7_2
     try clear hfz7_3
     try clear hx222_0
     try clear hx222_1
     try clear hx222_2
     try clear hx222_3
     try clear p222
     try clear q222
     obtain ⟨kq, x33_4, rfl, HA, HJ4, BK223, HB⟩ := hcut
     cases kq with
     | zero => exact absurd HA.out (by simp [spec_l15Ok.j0])
     | succ kj4 =>
      have H := HA.out
      clear HA
      simp only [spec_l15Ok.j0] at H
      by_cases c19 : x33_4 = true
      ·subst c19
       have H1 : (some false) = some r := by rw [if_pos rfl] at H; exact H
       clear H
       have H := H1
       clear H1
       obtain rfl := Option.some.inj H
       go_wp2
       repeat (go_quiet (fail); try go_wp2)
       go_ret
       exact ⟨z4_3, z4_1⟩
      ·replace c19 := Bool.eq_false_iff.mpr c19
       subst c19
       have H1 : (if ((rd_T31 l0 a1).f0) = 4 then (spec_l15Ok.j1 kj4 l0 a1 true ((rd_T31 l0 a1).f0) ((rd_T31 l0 a1).f1) ((rd_T31 l0 a1).f2) ((rd_T31 l0 a1).f3)) else (spec_l15Ok.j1 kj4 l0 a1 (((rd_T31 l0 a1).f0) == 5) ((rd_T31 l0 a1).f0) ((rd_T31 l0 a1).f1) ((rd_T31 l0 a1).f2) ((rd_T31 l0 a1).f3))) = some r := by rw [if_neg (show ¬ (false = true) by decide)] at H; exact H
       clear H
       have H := H1
       clear H1
       have HC20 := Aside0.mk H
       clear H
       go_upto_region 4 with (fail)
       repeat (go_quiet (fail); go_upto_region 4 with (fail))
       go_cut [6] (fun v6 wc => ∃ (kq : Nat) (x6_19 : Bool), v6 = .bool x6_19 ∧ Aside0 (spec_l15Ok.j1 kq l0 a1 x6_19 ((rd_T31 l0 a1).f0) ((rd_T31 l0 a1).f1) ((rd_T31 l0 a1).f2) ((rd_T31 l0 a1).f3) = some r) ∧ Aside0 (kq ≤ kj4) ∧ Aside0 (wc.heap[gb223]? = some (.cells #[.int .i64 ((rd_T31 l0 a1).f0), .string ((rd_T31 l0 a1).f1), .int .i64 ((rd_T31 l0 a1).f2), .int .i64 ((rd_T31 l0 a1).f3)] 31 (0, 0))) ∧ Aside0 (Below w.heap.size w wc))
       case first =>
        have H := HC20.out
        clear HC20
        by_cases c21 : ((rd_T31 l0 a1).f0) = 4
        ·rw [if_pos c21] at H
         have c21b0 : (((rd_T31 l0 a1).f0) == 4) = true := beq_iff_eq.mpr c21
         have c21b1 : (((rd_T31 l0 a1).f0) != 4) = false := bne_eq_false_iff_eq.mpr c21
         clear c21
         (first | rw [c21b0] | (simp only [i64_w, i32_w]; rw [c21b0]) | skip)
         have H' := Aside0.mk H
         clear H
         have hcz22_0 : wc.cell? ⟨gb223, 0, none⟩ = some (.int .i64 ((rd_T31 l0 a1).f0)) := (blk_cell BK223.out 0).trans rfl
         have hcz22_1 : wc.cell? ⟨gb223, 1, none⟩ = some (.string ((rd_T31 l0 a1).f1)) := (blk_cell BK223.out 1).trans rfl
         have hcz22_2 : wc.cell? ⟨gb223, 2, none⟩ = some (.int .i64 ((rd_T31 l0 a1).f2)) := (blk_cell BK223.out 2).trans rfl
         have hcz22_3 : wc.cell? ⟨gb223, 3, none⟩ = some (.int .i64 ((rd_T31 l0 a1).f3)) := (blk_cell BK223.out 3).trans rfl
         have hfz22_0 := blk_frozen BK223.out 0
         have hfz22_1 := blk_frozen BK223.out 1
         have hfz22_2 := blk_frozen BK223.out 2
         have hfz22_3 := blk_frozen BK223.out 3
         go_wp2
         repeat (go_quiet (fail); try go_wp2)
         go_meet
         case rel => exact ⟨_, (true), z4_4, H', ⟨by have := HJ4.out; first | omega | exact Nat.le_refl _⟩, ⟨by (with_reducible repeat (first | refine blk_drewN ?_ _ | refine blk_drew ?_ | refine blk_alloc ?_ _)); exact BK223.out⟩, ⟨z4_1⟩⟩
        ·rw [if_neg c21] at H
         have c21b0 : (((rd_T31 l0 a1).f0) == 4) = false := beq_eq_false_iff_ne.mpr c21
         have c21b1 : (((rd_T31 l0 a1).f0) != 4) = true := bne_iff_ne.mpr c21
         (first | rw [c21b0] | (simp only [i64_w, i32_w]; rw [c21b0]) | skip)
         have H' := Aside0.mk H
         clear H
         have hcz23_0 : wc.cell? ⟨gb223, 0, none⟩ = some (.int .i64 ((rd_T31 l0 a1).f0)) := (blk_cell BK223.out 0).trans rfl
         have hcz23_1 : wc.cell? ⟨gb223, 1, none⟩ = some (.string ((rd_T31 l0 a1).f1)) := (blk_cell BK223.out 1).trans rfl
         have hcz23_2 : wc.cell? ⟨gb223, 2, none⟩ = some (.int .i64 ((rd_T31 l0 a1).f2)) := (blk_cell BK223.out 2).trans rfl
         have hcz23_3 : wc.cell? ⟨gb223, 3, none⟩ = some (.int .i64 ((rd_T31 l0 a1).f3)) := (blk_cell BK223.out 3).trans rfl
         have hfz23_0 := blk_frozen BK223.out 0
         have hfz23_1 := blk_frozen BK223.out 1
         have hfz23_2 := blk_frozen BK223.out 2
         have hfz23_3 := blk_frozen BK223.out 3
         go_wp2
         repeat (go_quiet (fail); try go_wp2)
         go_meet
         case rel => exact ⟨_, ((((rd_T31 l0 a1).f0) == 5)), z4_4, H', ⟨by have := HJ4.out; first | omega | exact Nat.le_refl _⟩, ⟨by (with_reducible repeat (first | refine blk_drewN ?_ _ | refine blk_drew ?_ | refine blk_alloc ?_ _)); exact BK223.out⟩, ⟨z4_1⟩⟩
       case rest =>
        clear HC20
        try clear c1
        try clear c2
        try clear p2
        try clear q2
        try clear hx2
        try clear c3
        try clear c3b0
        try clear c4
        try clear c4b0
        try clear c5
        try clear c9
        try clear c11
        try clear c11b0
        try clear c11b1
        try clear c12
        try clear c15
        try clear c19
        try clear c21
        try clear c21b0
        try clear c21b1
        try clear p22
        try clear q22
        try clear hx22
        try clear hcz13_0
        try clear hcz13_1
        try clear hcz13_2
        try clear hcz13_3
        try clear hcz14_0
        try clear hcz14_1
        try clear hcz14_2
        try clear hcz14_3
        try clear hcz16_0
        try clear hcz16_1
        try clear hcz16_2
        try clear hcz16_3
        try clear hcz17_0
        try clear hcz17_1
        try clear hcz17_2
        try clear hcz17_3
        try clear hcz18_0
        try clear hcz18_1
        try clear hcz18_2
        try clear hcz18_3
        try clear hcz22_0
        try clear hcz22_1
        try clear hcz22_2
        try clear hcz22_3
        try clear hcz23_0
        try clear hcz23_1
        try clear hcz23_2
        try clear hcz23_3
        try clear hcz7_0
        try clear hcz7_1
        try clear hcz7_2
        try clear hcz7_3
        try clear hfz13_0
        try clear hfz13_1
        try clear hfz13_2
        try clear hfz13_3
        try clear hfz14_0
        try clear hfz14_1
        try clear hfz14_2
        try clear hfz14_3
        try clear hfz16_0
        try clear hfz16_1
        try clear hfz16_2
        try clear hfz16_3
        try clear hfz17_0
        try clear hfz17_1
        try clear hfz17_2
        try clear hfz17_3
        try clear hfz18_0
        try clear hfz18_1
        try clear hfz18_2
        try clear hfz18_3
        try clear hfz22_0
        try clear hfz22_1
        try clear hfz22_2
        try clear hfz22_3
        try clear hfz23_0
        try clear hfz23_1
        try clear hfz23_2
        try clear hfz23_3
        try clear hfz7_0
        try clear hfz7_1
        try clear hfz7_2
        try clear hfz7_3
        try clear hx222_0
        try clear hx222_1
        try clear hx222_2
        try clear hx222_3
        try clear p2
        try clear p222
        try clear q2
        try clear q222
        obtain ⟨kq, x6_19, rfl, HA, HJ19, BK223, HB⟩ := hcut
        cases kq with
        | zero => exact absurd HA.out (by simp [spec_l15Ok.j1])
        | succ kj19 =>
         have H := HA.out
         clear HA
         simp only [spec_l15Ok.j1] at H
         by_cases c24 : ((rd_T31 l0 a1).f0) = 1
         ·rw [if_pos c24] at H
          have c24b0 : (((rd_T31 l0 a1).f0) == 1) = true := beq_iff_eq.mpr c24
          have c24b1 : (((rd_T31 l0 a1).f0) != 1) = false := bne_eq_false_iff_eq.mpr c24
          clear c24
          by_cases c25 : ((rd_T31 l0 a1).f2) = 0
          ·rw [if_pos c25] at H
           have c25b0 : (((rd_T31 l0 a1).f2) == 0) = true := beq_iff_eq.mpr c25
           have c25b1 : (((rd_T31 l0 a1).f2) != 0) = false := bne_eq_false_iff_eq.mpr c25
           clear c25
           obtain rfl := Option.some.inj H
           have hcz26_0 : wc.cell? ⟨gb223, 0, none⟩ = some (.int .i64 ((rd_T31 l0 a1).f0)) := (blk_cell BK223.out 0).trans rfl
           have hcz26_1 : wc.cell? ⟨gb223, 1, none⟩ = some (.string ((rd_T31 l0 a1).f1)) := (blk_cell BK223.out 1).trans rfl
           have hcz26_2 : wc.cell? ⟨gb223, 2, none⟩ = some (.int .i64 ((rd_T31 l0 a1).f2)) := (blk_cell BK223.out 2).trans rfl
           have hcz26_3 : wc.cell? ⟨gb223, 3, none⟩ = some (.int .i64 ((rd_T31 l0 a1).f3)) := (blk_cell BK223.out 3).trans rfl
           have hfz26_0 := blk_frozen BK223.out 0
           have hfz26_1 := blk_frozen BK223.out 1
           have hfz26_2 := blk_frozen BK223.out 2
           have hfz26_3 := blk_frozen BK223.out 3
           go_wp2
           repeat (go_quiet (fail); try go_wp2)
           go_ret
           exact ⟨z4_3, z4_1⟩
          ·rw [if_neg c25] at H
           have c25b0 : (((rd_T31 l0 a1).f2) == 0) = false := beq_eq_false_iff_ne.mpr c25
           have c25b1 : (((rd_T31 l0 a1).f2) != 0) = true := bne_iff_ne.mpr c25
           obtain rfl := Option.some.inj H
           have hcz27_0 : wc.cell? ⟨gb223, 0, none⟩ = some (.int .i64 ((rd_T31 l0 a1).f0)) := (blk_cell BK223.out 0).trans rfl
           have hcz27_1 : wc.cell? ⟨gb223, 1, none⟩ = some (.string ((rd_T31 l0 a1).f1)) := (blk_cell BK223.out 1).trans rfl
           have hcz27_2 : wc.cell? ⟨gb223, 2, none⟩ = some (.int .i64 ((rd_T31 l0 a1).f2)) := (blk_cell BK223.out 2).trans rfl
           have hcz27_3 : wc.cell? ⟨gb223, 3, none⟩ = some (.int .i64 ((rd_T31 l0 a1).f3)) := (blk_cell BK223.out 3).trans rfl
           have hfz27_0 := blk_frozen BK223.out 0
           have hfz27_1 := blk_frozen BK223.out 1
           have hfz27_2 := blk_frozen BK223.out 2
           have hfz27_3 := blk_frozen BK223.out 3
           go_wp2
           repeat (go_quiet (fail); try go_wp2)
           go_ret
           exact ⟨z4_3, z4_1⟩
         ·rw [if_neg c24] at H
          have c24b0 : (((rd_T31 l0 a1).f0) == 1) = false := beq_eq_false_iff_ne.mpr c24
          have c24b1 : (((rd_T31 l0 a1).f0) != 1) = true := bne_iff_ne.mpr c24
          replace H := Option.bind_eq_some_iff.mp H
          obtain ⟨t226, A280, H⟩ := H
          replace H : (if t226 = true then (if x6_19 = true then ((spec_l1In.f ((rd_T31 l0 a1).f3) 0 (wrap64 (a1 - 1))).bind fun t227 => (if t227 = true then (some true) else (some false))) else (if ((rd_T31 l0 a1).f3) = 0 then (if ((rd_T31 l0 a1).f0) = 2 then (some true) else (if 0 ≤ ((rd_T31 l0 a1).f2) then (if ((rd_T31 l0 a1).f2) < (l0.length : Int) then (some (((rd_T31 l0 ((rd_T31 l0 a1).f2)).f0) == 1)) else (none)) else (none))) else (some false))) else (some false)) = some r := H
          have A28 := Aside0.mk A280
          clear A280
          by_cases c29 : t226 = true
          ·subst c29
           have H1 : (if x6_19 = true then ((spec_l1In.f ((rd_T31 l0 a1).f3) 0 (wrap64 (a1 - 1))).bind fun t227 => (if t227 = true then (some true) else (some false))) else (if ((rd_T31 l0 a1).f3) = 0 then (if ((rd_T31 l0 a1).f0) = 2 then (some true) else (if 0 ≤ ((rd_T31 l0 a1).f2) then (if ((rd_T31 l0 a1).f2) < (l0.length : Int) then (some (((rd_T31 l0 ((rd_T31 l0 a1).f2)).f0) == 1)) else (none)) else (none))) else (some false))) = some r := by rw [if_pos rfl] at H; exact H
           clear H
           have H := H1
           clear H1
           by_cases c30 : x6_19 = true
           ·subst c30
            have H1 : ((spec_l1In.f ((rd_T31 l0 a1).f3) 0 (wrap64 (a1 - 1))).bind fun t227 => (if t227 = true then (some true) else (some false))) = some r := by rw [if_pos rfl] at H; exact H
            clear H
            have H := H1
            clear H1
            replace H := Option.bind_eq_some_iff.mp H
            obtain ⟨t227, A310, H⟩ := H
            replace H : (if t227 = true then (some true) else (some false)) = some r := H
            have A31 := Aside0.mk A310
            clear A310
            by_cases c32 : t227 = true
            ·subst c32
             have H1 : (some true) = some r := by rw [if_pos rfl] at H; exact H
             clear H
             have H := H1
             clear H1
             obtain rfl := Option.some.inj H
             have hcz33_0 : wc.cell? ⟨gb223, 0, none⟩ = some (.int .i64 ((rd_T31 l0 a1).f0)) := (blk_cell BK223.out 0).trans rfl
             have hcz33_1 : wc.cell? ⟨gb223, 1, none⟩ = some (.string ((rd_T31 l0 a1).f1)) := (blk_cell BK223.out 1).trans rfl
             have hcz33_2 : wc.cell? ⟨gb223, 2, none⟩ = some (.int .i64 ((rd_T31 l0 a1).f2)) := (blk_cell BK223.out 2).trans rfl
             have hcz33_3 : wc.cell? ⟨gb223, 3, none⟩ = some (.int .i64 ((rd_T31 l0 a1).f3)) := (blk_cell BK223.out 3).trans rfl
             have hfz33_0 := blk_frozen BK223.out 0
             have hfz33_1 := blk_frozen BK223.out 1
             have hfz33_2 := blk_frozen BK223.out 2
             have hfz33_3 := blk_frozen BK223.out 3
             go_wp2_with (first | (go_at_call 58; (with_reducible refine (spec_l1In.calls ((rd_T31 l0 a1).f2) 0 (wrap64 (a1 - 1)) true _ A28.out).mono ?_); rintro e w' ⟨rfl, ⟨nd, rfl⟩⟩; (try first | exact ⟨rfl, _, World.drewN_drewN _ _ _⟩ | exact ⟨rfl, _, Eq.trans (World.drewN_drewN _ _ _) (congrArg (World.drewN _) (Nat.add_assoc _ _ _))⟩)) | (go_at_call 58; (with_reducible refine (spec_l1In.calls ((rd_T31 l0 a1).f3) 0 (wrap64 (a1 - 1)) true _ A31.out).mono ?_); rintro e w' ⟨rfl, ⟨nd, rfl⟩⟩; (try first | exact ⟨rfl, _, World.drewN_drewN _ _ _⟩ | exact ⟨rfl, _, Eq.trans (World.drewN_drewN _ _ _) (congrArg (World.drewN _) (Nat.add_assoc _ _ _))⟩)))
             repeat (go_quiet (first | (go_at_call 58; (with_reducible refine (spec_l1In.calls ((rd_T31 l0 a1).f2) 0 (wrap64 (a1 - 1)) true _ A28.out).mono ?_); rintro e w' ⟨rfl, ⟨nd, rfl⟩⟩; (try first | exact ⟨rfl, _, World.drewN_drewN _ _ _⟩ | exact ⟨rfl, _, Eq.trans (World.drewN_drewN _ _ _) (congrArg (World.drewN _) (Nat.add_assoc _ _ _))⟩)) | (go_at_call 58; (with_reducible refine (spec_l1In.calls ((rd_T31 l0 a1).f3) 0 (wrap64 (a1 - 1)) true _ A31.out).mono ?_); rintro e w' ⟨rfl, ⟨nd, rfl⟩⟩; (try first | exact ⟨rfl, _, World.drewN_drewN _ _ _⟩ | exact ⟨rfl, _, Eq.trans (World.drewN_drewN _ _ _) (congrArg (World.drewN _) (Nat.add_assoc _ _ _))⟩))); try go_wp2_with (first | (go_at_call 58; (with_reducible refine (spec_l1In.calls ((rd_T31 l0 a1).f2) 0 (wrap64 (a1 - 1)) true _ A28.out).mono ?_); rintro e w' ⟨rfl, ⟨nd, rfl⟩⟩; (try first | exact ⟨rfl, _, World.drewN_drewN _ _ _⟩ | exact ⟨rfl, _, Eq.trans (World.drewN_drewN _ _ _) (congrArg (World.drewN _) (Nat.add_assoc _ _ _))⟩)) | (go_at_call 58; (with_reducible refine (spec_l1In.calls ((rd_T31 l0 a1).f3) 0 (wrap64 (a1 - 1)) true _ A31.out).mono ?_); rintro e w' ⟨rfl, ⟨nd, rfl⟩⟩; (try first | exact ⟨rfl, _, World.drewN_drewN _ _ _⟩ | exact ⟨rfl, _, Eq.trans (World.drewN_drewN _ _ _) (congrArg (World.drewN _) (Nat.add_assoc _ _ _))⟩))))
             go_ret
             exact ⟨z4_3, z4_1⟩
            ·replace c32 := Bool.eq_false_iff.mpr c32
             subst c32
             have H1 : (some false) = some r := by rw [if_neg (show ¬ (false = true) by decide)] at H; exact H
             clear H
             have H := H1
             clear H1
             obtain rfl := Option.some.inj H
             have hcz34_0 : wc.cell? ⟨gb223, 0, none⟩ = some (.int .i64 ((rd_T31 l0 a1).f0)) := (blk_cell BK223.out 0).trans rfl
             have hcz34_1 : wc.cell? ⟨gb223, 1, none⟩ = some (.string ((rd_T31 l0 a1).f1)) := (blk_cell BK223.out 1).trans rfl
             have hcz34_2 : wc.cell? ⟨gb223, 2, none⟩ = some (.int .i64 ((rd_T31 l0 a1).f2)) := (blk_cell BK223.out 2).trans rfl
             have hcz34_3 : wc.cell? ⟨gb223, 3, none⟩ = some (.int .i64 ((rd_T31 l0 a1).f3)) := (blk_cell BK223.out 3).trans rfl
             have hfz34_0 := blk_frozen BK223.out 0
             have hfz34_1 := blk_frozen BK223.out 1
             have hfz34_2 := blk_frozen BK223.out 2
             have hfz34_3 := blk_frozen BK223.out 3
             go_wp2_with (first | (go_at_call 58; (with_reducible refine (spec_l1In.calls ((rd_T31 l0 a1).f2) 0 (wrap64 (a1 - 1)) true _ A28.out).mono ?_); rintro e w' ⟨rfl, ⟨nd, rfl⟩⟩; (try first | exact ⟨rfl, _, World.drewN_drewN _ _ _⟩ | exact ⟨rfl, _, Eq.trans (World.drewN_drewN _ _ _) (congrArg (World.drewN _) (Nat.add_assoc _ _ _))⟩)) | (go_at_call 58; (with_reducible refine (spec_l1In.calls ((rd_T31 l0 a1).f3) 0 (wrap64 (a1 - 1)) false _ A31.out).mono ?_); rintro e w' ⟨rfl, ⟨nd, rfl⟩⟩; (try first | exact ⟨rfl, _, World.drewN_drewN _ _ _⟩ | exact ⟨rfl, _, Eq.trans (World.drewN_drewN _ _ _) (congrArg (World.drewN _) (Nat.add_assoc _ _ _))⟩)))
             repeat (go_quiet (first | (go_at_call 58; (with_reducible refine (spec_l1In.calls ((rd_T31 l0 a1).f2) 0 (wrap64 (a1 - 1)) true _ A28.out).mono ?_); rintro e w' ⟨rfl, ⟨nd, rfl⟩⟩; (try first | exact ⟨rfl, _, World.drewN_drewN _ _ _⟩ | exact ⟨rfl, _, Eq.trans (World.drewN_drewN _ _ _) (congrArg (World.drewN _) (Nat.add_assoc _ _ _))⟩)) | (go_at_call 58; (with_reducible refine (spec_l1In.calls ((rd_T31 l0 a1).f3) 0 (wrap64 (a1 - 1)) false _ A31.out).mono ?_); rintro e w' ⟨rfl, ⟨nd, rfl⟩⟩; (try first | exact ⟨rfl, _, World.drewN_drewN _ _ _⟩ | exact ⟨rfl, _, Eq.trans (World.drewN_drewN _ _ _) (congrArg (World.drewN _) (Nat.add_assoc _ _ _))⟩))); try go_wp2_with (first | (go_at_call 58; (with_reducible refine (spec_l1In.calls ((rd_T31 l0 a1).f2) 0 (wrap64 (a1 - 1)) true _ A28.out).mono ?_); rintro e w' ⟨rfl, ⟨nd, rfl⟩⟩; (try first | exact ⟨rfl, _, World.drewN_drewN _ _ _⟩ | exact ⟨rfl, _, Eq.trans (World.drewN_drewN _ _ _) (congrArg (World.drewN _) (Nat.add_assoc _ _ _))⟩)) | (go_at_call 58; (with_reducible refine (spec_l1In.calls ((rd_T31 l0 a1).f3) 0 (wrap64 (a1 - 1)) false _ A31.out).mono ?_); rintro e w' ⟨rfl, ⟨nd, rfl⟩⟩; (try first | exact ⟨rfl, _, World.drewN_drewN _ _ _⟩ | exact ⟨rfl, _, Eq.trans (World.drewN_drewN _ _ _) (congrArg (World.drewN _) (Nat.add_assoc _ _ _))⟩))))
             go_ret
             exact ⟨z4_3, z4_1⟩
           ·replace c30 := Bool.eq_false_iff.mpr c30
            subst c30
            have H1 : (if ((rd_T31 l0 a1).f3) = 0 then (if ((rd_T31 l0 a1).f0) = 2 then (some true) else (if 0 ≤ ((rd_T31 l0 a1).f2) then (if ((rd_T31 l0 a1).f2) < (l0.length : Int) then (some (((rd_T31 l0 ((rd_T31 l0 a1).f2)).f0) == 1)) else (none)) else (none))) else (some false)) = some r := by rw [if_neg (show ¬ (false = true) by decide)] at H; exact H
            clear H
            have H := H1
            clear H1
            by_cases c35 : ((rd_T31 l0 a1).f3) = 0
            ·rw [if_pos c35] at H
             have c35b0 : (((rd_T31 l0 a1).f3) == 0) = true := beq_iff_eq.mpr c35
             have c35b1 : (((rd_T31 l0 a1).f3) != 0) = false := bne_eq_false_iff_eq.mpr c35
             clear c35
             by_cases c36 : ((rd_T31 l0 a1).f0) = 2
             ·rw [if_pos c36] at H
              have c36b0 : (((rd_T31 l0 a1).f0) == 2) = true := beq_iff_eq.mpr c36
              have c36b1 : (((rd_T31 l0 a1).f0) != 2) = false := bne_eq_false_iff_eq.mpr c36
              clear c36
              obtain rfl := Option.some.inj H
              have hcz37_0 : wc.cell? ⟨gb223, 0, none⟩ = some (.int .i64 ((rd_T31 l0 a1).f0)) := (blk_cell BK223.out 0).trans rfl
              have hcz37_1 : wc.cell? ⟨gb223, 1, none⟩ = some (.string ((rd_T31 l0 a1).f1)) := (blk_cell BK223.out 1).trans rfl
              have hcz37_2 : wc.cell? ⟨gb223, 2, none⟩ = some (.int .i64 ((rd_T31 l0 a1).f2)) := (blk_cell BK223.out 2).trans rfl
              have hcz37_3 : wc.cell? ⟨gb223, 3, none⟩ = some (.int .i64 ((rd_T31 l0 a1).f3)) := (blk_cell BK223.out 3).trans rfl
              have hfz37_0 := blk_frozen BK223.out 0
              have hfz37_1 := blk_frozen BK223.out 1
              have hfz37_2 := blk_frozen BK223.out 2
              have hfz37_3 := blk_frozen BK223.out 3
              go_wp2_with (first | (go_at_call 58; (with_reducible refine (spec_l1In.calls ((rd_T31 l0 a1).f2) 0 (wrap64 (a1 - 1)) true _ A28.out).mono ?_); rintro e w' ⟨rfl, ⟨nd, rfl⟩⟩; (try first | exact ⟨rfl, _, World.drewN_drewN _ _ _⟩ | exact ⟨rfl, _, Eq.trans (World.drewN_drewN _ _ _) (congrArg (World.drewN _) (Nat.add_assoc _ _ _))⟩)))
              repeat (go_quiet (first | (go_at_call 58; (with_reducible refine (spec_l1In.calls ((rd_T31 l0 a1).f2) 0 (wrap64 (a1 - 1)) true _ A28.out).mono ?_); rintro e w' ⟨rfl, ⟨nd, rfl⟩⟩; (try first | exact ⟨rfl, _, World.drewN_drewN _ _ _⟩ | exact ⟨rfl, _, Eq.trans (World.drewN_drewN _ _ _) (congrArg (World.drewN _) (Nat.add_assoc _ _ _))⟩))); try go_wp2_with (first | (go_at_call 58; (with_reducible refine (spec_l1In.calls ((rd_T31 l0 a1).f2) 0 (wrap64 (a1 - 1)) true _ A28.out).mono ?_); rintro e w' ⟨rfl, ⟨nd, rfl⟩⟩; (try first | exact ⟨rfl, _, World.drewN_drewN _ _ _⟩ | exact ⟨rfl, _, Eq.trans (World.drewN_drewN _ _ _) (congrArg (World.drewN _) (Nat.add_assoc _ _ _))⟩))))
              go_ret
              exact ⟨z4_3, z4_1⟩
             ·rw [if_neg c36] at H
              have c36b0 : (((rd_T31 l0 a1).f0) == 2) = false := beq_eq_false_iff_ne.mpr c36
              have c36b1 : (((rd_T31 l0 a1).f0) != 2) = true := bne_iff_ne.mpr c36
              by_cases c38 : 0 ≤ ((rd_T31 l0 a1).f2)
              ·rw [if_pos c38] at H
               have c38b0 : decide (0 ≤ ((rd_T31 l0 a1).f2)) = true := decide_eq_true c38
               clear c38
               by_cases c39 : ((rd_T31 l0 a1).f2) < (l0.length : Int)
               ·rw [if_pos c39] at H
                have c39b0 : decide (((rd_T31 l0 a1).f2) < (l0.length : Int)) = true := decide_eq_true c39
                clear c39
                obtain rfl := Option.some.inj H
                have hcz40_0 : wc.cell? ⟨gb223, 0, none⟩ = some (.int .i64 ((rd_T31 l0 a1).f0)) := (blk_cell BK223.out 0).trans rfl
                have hcz40_1 : wc.cell? ⟨gb223, 1, none⟩ = some (.string ((rd_T31 l0 a1).f1)) := (blk_cell BK223.out 1).trans rfl
                have hcz40_2 : wc.cell? ⟨gb223, 2, none⟩ = some (.int .i64 ((rd_T31 l0 a1).f2)) := (blk_cell BK223.out 2).trans rfl
                have hcz40_3 : wc.cell? ⟨gb223, 3, none⟩ = some (.int .i64 ((rd_T31 l0 a1).f3)) := (blk_cell BK223.out 3).trans rfl
                have hfz40_0 := blk_frozen BK223.out 0
                have hfz40_1 := blk_frozen BK223.out 1
                have hfz40_2 := blk_frozen BK223.out 2
                have hfz40_3 := blk_frozen BK223.out 3
                go_wp2_with (first | (go_at_call 58; (with_reducible refine (spec_l1In.calls ((rd_T31 l0 a1).f2) 0 (wrap64 (a1 - 1)) true _ A28.out).mono ?_); rintro e w' ⟨rfl, ⟨nd, rfl⟩⟩; (try first | exact ⟨rfl, _, World.drewN_drewN _ _ _⟩ | exact ⟨rfl, _, Eq.trans (World.drewN_drewN _ _ _) (congrArg (World.drewN _) (Nat.add_assoc _ _ _))⟩); have p228 : 0 ≤ (((rd_T31 l0 a1).f2) : Int) := of_decide_eq_true (by first | (with_reducible assumption) | assumption); have q228 : ((rd_T31 l0 a1).f2) < (l0.length : Int) := of_decide_eq_true (by first | (with_reducible assumption) | assumption); obtain ⟨ad228, e228, hx228_0, hx228_1, hx228_2, hx228_3⟩ := at_T31 HR0.out ((rd_T31 l0 a1).f2) p228 q228; obtain rfl : ad222 = ad228 := (by injection e228); replace hx228_0 := (HB.out.cell (World.block_lt_of_cell? w _ hx228_0)).trans hx228_0; replace hx228_1 := (HB.out.cell (World.block_lt_of_cell? w _ hx228_1)).trans hx228_1; replace hx228_2 := (HB.out.cell (World.block_lt_of_cell? w _ hx228_2)).trans hx228_2; replace hx228_3 := (HB.out.cell (World.block_lt_of_cell? w _ hx228_3)).trans hx228_3; replace p228 := eq_true p228; replace q228 := eq_true q228))
                repeat (go_quiet (first | (go_at_call 58; (with_reducible refine (spec_l1In.calls ((rd_T31 l0 a1).f2) 0 (wrap64 (a1 - 1)) true _ A28.out).mono ?_); rintro e w' ⟨rfl, ⟨nd, rfl⟩⟩; (try first | exact ⟨rfl, _, World.drewN_drewN _ _ _⟩ | exact ⟨rfl, _, Eq.trans (World.drewN_drewN _ _ _) (congrArg (World.drewN _) (Nat.add_assoc _ _ _))⟩); have p228 : 0 ≤ (((rd_T31 l0 a1).f2) : Int) := of_decide_eq_true (by first | (with_reducible assumption) | assumption); have q228 : ((rd_T31 l0 a1).f2) < (l0.length : Int) := of_decide_eq_true (by first | (with_reducible assumption) | assumption); obtain ⟨ad228, e228, hx228_0, hx228_1, hx228_2, hx228_3⟩ := at_T31 HR0.out ((rd_T31 l0 a1).f2) p228 q228; obtain rfl : ad222 = ad228 := (by injection e228); replace hx228_0 := (HB.out.cell (World.block_lt_of_cell? w _ hx228_0)).trans hx228_0; replace hx228_1 := (HB.out.cell (World.block_lt_of_cell? w _ hx228_1)).trans hx228_1; replace hx228_2 := (HB.out.cell (World.block_lt_of_cell? w _ hx228_2)).trans hx228_2; replace hx228_3 := (HB.out.cell (World.block_lt_of_cell? w _ hx228_3)).trans hx228_3; replace p228 := eq_true p228; replace q228 := eq_true q228)); try go_wp2_with (first | (go_at_call 58; (with_reducible refine (spec_l1In.calls ((rd_T31 l0 a1).f2) 0 (wrap64 (a1 - 1)) true _ A28.out).mono ?_); rintro e w' ⟨rfl, ⟨nd, rfl⟩⟩; (try first | exact ⟨rfl, _, World.drewN_drewN _ _ _⟩ | exact ⟨rfl, _, Eq.trans (World.drewN_drewN _ _ _) (congrArg (World.drewN _) (Nat.add_assoc _ _ _))⟩); have p228 : 0 ≤ (((rd_T31 l0 a1).f2) : Int) := of_decide_eq_true (by first | (with_reducible assumption) | assumption); have q228 : ((rd_T31 l0 a1).f2) < (l0.length : Int) := of_decide_eq_true (by first | (with_reducible assumption) | assumption); obtain ⟨ad228, e228, hx228_0, hx228_1, hx228_2, hx228_3⟩ := at_T31 HR0.out ((rd_T31 l0 a1).f2) p228 q228; obtain rfl : ad222 = ad228 := (by injection e228); replace hx228_0 := (HB.out.cell (World.block_lt_of_cell? w _ hx228_0)).trans hx228_0; replace hx228_1 := (HB.out.cell (World.block_lt_of_cell? w _ hx228_1)).trans hx228_1; replace hx228_2 := (HB.out.cell (World.block_lt_of_cell? w _ hx228_2)).trans hx228_2; replace hx228_3 := (HB.out.cell (World.block_lt_of_cell? w _ hx228_3)).trans hx228_3; replace p228 := eq_true p228; replace q228 := eq_true q228)))
                go_ret
                exact ⟨z4_3, z4_1⟩
               ·rw [if_neg c39] at H
                exact absurd H (by simp)
              ·rw [if_neg c38] at H
               exact absurd H (by simp)
            ·rw [if_neg c35] at H
             have c35b0 : (((rd_T31 l0 a1).f3) == 0) = false := beq_eq_false_iff_ne.mpr c35
             have c35b1 : (((rd_T31 l0 a1).f3) != 0) = true := bne_iff_ne.mpr c35
             obtain rfl := Option.some.inj H
             have hcz41_0 : wc.cell? ⟨gb223, 0, none⟩ = some (.int .i64 ((rd_T31 l0 a1).f0)) := (blk_cell BK223.out 0).trans rfl
             have hcz41_1 : wc.cell? ⟨gb223, 1, none⟩ = some (.string ((rd_T31 l0 a1).f1)) := (blk_cell BK223.out 1).trans rfl
             have hcz41_2 : wc.cell? ⟨gb223, 2, none⟩ = some (.int .i64 ((rd_T31 l0 a1).f2)) := (blk_cell BK223.out 2).trans rfl
             have hcz41_3 : wc.cell? ⟨gb223, 3, none⟩ = some (.int .i64 ((rd_T31 l0 a1).f3)) := (blk_cell BK223.out 3).trans rfl
             have hfz41_0 := blk_frozen BK223.out 0
             have hfz41_1 := blk_frozen BK223.out 1
             have hfz41_2 := blk_frozen BK223.out 2
             have hfz41_3 := blk_frozen BK223.out 3
             go_wp2_with (first | (go_at_call 58; (with_reducible refine (spec_l1In.calls ((rd_T31 l0 a1).f2) 0 (wrap64 (a1 - 1)) true _ A28.out).mono ?_); rintro e w' ⟨rfl, ⟨nd, rfl⟩⟩; (try first | exact ⟨rfl, _, World.drewN_drewN _ _ _⟩ | exact ⟨rfl, _, Eq.trans (World.drewN_drewN _ _ _) (congrArg (World.drewN _) (Nat.add_assoc _ _ _))⟩)))
             repeat (go_quiet (first | (go_at_call 58; (with_reducible refine (spec_l1In.calls ((rd_T31 l0 a1).f2) 0 (wrap64 (a1 - 1)) true _ A28.out).mono ?_); rintro e w' ⟨rfl, ⟨nd, rfl⟩⟩; (try first | exact ⟨rfl, _, World.drewN_drewN _ _ _⟩ | exact ⟨rfl, _, Eq.trans (World.drewN_drewN _ _ _) (congrArg (World.drewN _) (Nat.add_assoc _ _ _))⟩))); try go_wp2_with (first | (go_at_call 58; (with_reducible refine (spec_l1In.calls ((rd_T31 l0 a1).f2) 0 (wrap64 (a1 - 1)) true _ A28.out).mono ?_); rintro e w' ⟨rfl, ⟨nd, rfl⟩⟩; (try first | exact ⟨rfl, _, World.drewN_drewN _ _ _⟩ | exact ⟨rfl, _, Eq.trans (World.drewN_drewN _ _ _) (congrArg (World.drewN _) (Nat.add_assoc _ _ _))⟩))))
             go_ret
             exact ⟨z4_3, z4_1⟩
          ·replace c29 := Bool.eq_false_iff.mpr c29
           subst c29
           have H1 : (some false) = some r := by rw [if_neg (show ¬ (false = true) by decide)] at H; exact H
           clear H
           have H := H1
           clear H1
           obtain rfl := Option.some.inj H
           have hcz42_0 : wc.cell? ⟨gb223, 0, none⟩ = some (.int .i64 ((rd_T31 l0 a1).f0)) := (blk_cell BK223.out 0).trans rfl
           have hcz42_1 : wc.cell? ⟨gb223, 1, none⟩ = some (.string ((rd_T31 l0 a1).f1)) := (blk_cell BK223.out 1).trans rfl
           have hcz42_2 : wc.cell? ⟨gb223, 2, none⟩ = some (.int .i64 ((rd_T31 l0 a1).f2)) := (blk_cell BK223.out 2).trans rfl
           have hcz42_3 : wc.cell? ⟨gb223, 3, none⟩ = some (.int .i64 ((rd_T31 l0 a1).f3)) := (blk_cell BK223.out 3).trans rfl
           have hfz42_0 := blk_frozen BK223.out 0
           have hfz42_1 := blk_frozen BK223.out 1
           have hfz42_2 := blk_frozen BK223.out 2
           have hfz42_3 := blk_frozen BK223.out 3
           go_wp2_with (first | (go_at_call 58; (with_reducible refine (spec_l1In.calls ((rd_T31 l0 a1).f2) 0 (wrap64 (a1 - 1)) false _ A28.out).mono ?_); rintro e w' ⟨rfl, ⟨nd, rfl⟩⟩; (try first | exact ⟨rfl, _, World.drewN_drewN _ _ _⟩ | exact ⟨rfl, _, Eq.trans (World.drewN_drewN _ _ _) (congrArg (World.drewN _) (Nat.add_assoc _ _ _))⟩)))
           repeat (go_quiet (first | (go_at_call 58; (with_reducible refine (spec_l1In.calls ((rd_T31 l0 a1).f2) 0 (wrap64 (a1 - 1)) false _ A28.out).mono ?_); rintro e w' ⟨rfl, ⟨nd, rfl⟩⟩; (try first | exact ⟨rfl, _, World.drewN_drewN _ _ _⟩ | exact ⟨rfl, _, Eq.trans (World.drewN_drewN _ _ _) (congrArg (World.drewN _) (Nat.add_assoc _ _ _))⟩))); try go_wp2_with (first | (go_at_call 58; (with_reducible refine (spec_l1In.calls ((rd_T31 l0 a1).f2) 0 (wrap64 (a1 - 1)) false _ A28.out).mono ?_); rintro e w' ⟨rfl, ⟨nd, rfl⟩⟩; (try first | exact ⟨rfl, _, World.drewN_drewN _ _ _⟩ | exact ⟨rfl, _, Eq.trans (World.drewN_drewN _ _ _) (congrArg (World.drewN _) (Nat.add_assoc _ _ _))⟩))))
           go_ret
           exact ⟨z4_3, z4_1⟩
   ·rw [if_neg c4] at H
    exact absurd H (by simp)
  ·rw [if_neg c3] at H
   exact absurd H (by simp)

/-! ### spec_IsPlay: function 11 -/
mutual
def spec_IsPlay.l0 : Nat → List (S31) → Int → Option (Bool)
  | 0, _, _ => none
  | k + 1, x0, x3 => if x3 < (x0.length : Int) then (spec_IsPlay.j1 k x0 x3 (decide ((x0.length : Int) ≤ 9))) else (spec_IsPlay.j1 k x0 x3 false)
def spec_IsPlay.j1 : Nat → List (S31) → Int → Bool → Option (Bool)
  | 0, _, _, _ => none
  | k + 1, x0, x3, x12 => if x12 = true then ((spec_l15Ok.f k x0 x3).bind fun t229 => (if t229 = true then (spec_IsPlay.l0 k x0 (wrap64 (x3 + 1))) else (some false))) else ((spec_l1In.f (x0.length : Int) 1 9).bind fun t230 => (some t230))
end
def spec_IsPlay.f (k : Nat) (l0 : List (S31)) : Option (Bool) := spec_IsPlay.l0 k l0 0
theorem spec_IsPlay.mono_l : ∀ k, (∀ y0 y1, LeO (spec_IsPlay.l0 k y0 y1) (spec_IsPlay.l0 (k + 1) y0 y1)) ∧ (∀ y0 y1 y2, LeO (spec_IsPlay.j1 k y0 y1 y2) (spec_IsPlay.j1 (k + 1) y0 y1 y2))
  | 0 => ⟨fun _ _ r h => by simp [spec_IsPlay.l0] at h, fun _ _ _ r h => by simp [spec_IsPlay.j1] at h⟩
  | k + 1 => by
   obtain ⟨ih0, ih1⟩ := spec_IsPlay.mono_l k
   refine ⟨?_, ?_⟩
   ·intro y0 y1
    unfold spec_IsPlay.l0
    repeat' first
    | (with_reducible exact ih0 _ _)
    | (with_reducible exact ih1 _ _ _)
    | (with_reducible exact spec_l15Ok.mono _ _ _)
    | (with_reducible exact LeO.refl _)
    | (with_reducible exact LeO.none _)
    | (with_reducible refine LeO.ite ?_ ?_)
    | (with_reducible refine LeO.bind ?_ (fun _ => ?_))
    | exact ih0 _ _
    | exact ih1 _ _ _
    | exact spec_l15Ok.mono _ _ _
    | exact LeO.none _
    | refine LeO.ite ?_ ?_
    | refine LeO.bind ?_ (fun _ => ?_)
   ·intro y0 y1 y2
    unfold spec_IsPlay.j1
    repeat' first
    | (with_reducible exact ih0 _ _)
    | (with_reducible exact ih1 _ _ _)
    | (with_reducible exact spec_l15Ok.mono _ _ _)
    | (with_reducible exact LeO.refl _)
    | (with_reducible exact LeO.none _)
    | (with_reducible refine LeO.ite ?_ ?_)
    | (with_reducible refine LeO.bind ?_ (fun _ => ?_))
    | exact ih0 _ _
    | exact ih1 _ _ _
    | exact spec_l15Ok.mono _ _ _
    | exact LeO.none _
    | refine LeO.ite ?_ ?_
    | refine LeO.bind ?_ (fun _ => ?_)
theorem spec_IsPlay.mono : ∀ a0 k, LeO (spec_IsPlay.f k a0) (spec_IsPlay.f (k + 1) a0) := by
  intro a0 k
  obtain ⟨ih0, ih1⟩ := spec_IsPlay.mono_l k
  unfold spec_IsPlay.f
  repeat' first
    | (with_reducible exact ih0 _ _)
    | (with_reducible exact ih1 _ _ _)
    | (with_reducible exact spec_l15Ok.mono _ _ _)
    | (with_reducible exact LeO.refl _)
    | (with_reducible exact LeO.none _)
    | (with_reducible refine LeO.ite ?_ ?_)
    | (with_reducible refine LeO.bind ?_ (fun _ => ?_))
    | exact ih0 _ _
    | exact ih1 _ _ _
    | exact spec_l15Ok.mono _ _ _
    | exact LeO.none _
    | refine LeO.ite ?_ ?_
    | refine LeO.bind ?_ (fun _ => ?_)
set_option maxHeartbeats 8000000 in
set_option maxRecDepth 100000 in
theorem spec_IsPlay.calls (k : Nat) (A0 : Option Addr) (c0 : Nat) (l0 : List (S31)) (r : Bool) (w : World) (hr0 : Kd.C k31 w A0 l0.length l0) (hc0 : l0.length ≤ c0) (h : spec_IsPlay.f k l0 = some r) :
   Calls Try.prog 11 #[.slice A0 l0.length c0] w fun e w' => e = .returned (.bool r) ∧ Below w.heap.size w w' := by
  have HR0 := Aside0.mk hr0
  have HC0 := Aside0.mk hc0
  clear hr0 hc0
  have HB := Aside0.mk (Below.refl w.heap.size w)
  have H : (spec_IsPlay.l0 k l0 0) = some r := h
  clear h
  have H' := Aside0.mk H
  clear H
  go_enter Try.func11, Try.ntmps11
  go_wp2
  go_loopg [3] k (fun kq v3 w' => ∃ (x3_1 : Int), v3 = .int .i64 x3_1 ∧ Aside0 (spec_IsPlay.l0 kq l0 x3_1 = some r) ∧ Aside0 (kq ≤ k) ∧ Aside0 (Below w.heap.size w w'))
  case atStart => exact ⟨(0), z4_4, H', ⟨Nat.le_refl _⟩, ⟨z4_2⟩⟩
  case round =>
   clear H'
   try clear c1
   obtain ⟨x3_1, rfl, HA, HK1, HB⟩ := hrel
   cases gk with
   | zero => exact absurd HA.out (by simp [spec_IsPlay.l0])
   | succ k1 =>
    have H := HA.out
    clear HA
    simp only [spec_IsPlay.l0] at H
    have HC2 := Aside0.mk H
    clear H
    go_upto_region 2 with (fail)
    go_cut [12] (fun v12 wc => ∃ (kq : Nat) (x12_1 : Bool), v12 = .bool x12_1 ∧ Aside0 (spec_IsPlay.j1 kq l0 x3_1 x12_1 = some r) ∧ Aside0 (kq ≤ k1) ∧ Aside0 (Below w.heap.size w wc))
    case first =>
     have H := HC2.out
     clear HC2
     by_cases c3 : x3_1 < (l0.length : Int)
     ·rw [if_pos c3] at H
      have c3b0 : decide (x3_1 < (l0.length : Int)) = true := decide_eq_true c3
      clear c3
      (first | rw [c3b0] | (simp only [i64_w, i32_w]; rw [c3b0]) | skip)
      have H' := Aside0.mk H
      clear H
      go_wp2
      go_meet
      case rel => exact ⟨_, (decide ((l0.length : Int) ≤ 9)), z4_4, H', ⟨by have := HK1.out; first | omega | exact Nat.le_refl _⟩, ⟨z4_2⟩⟩
     ·rw [if_neg c3] at H
      have c3b0 : decide (x3_1 < (l0.length : Int)) = false := decide_eq_false c3
      clear c3
      (first | rw [c3b0] | (simp only [i64_w, i32_w]; rw [c3b0]) | skip)
      have H' := Aside0.mk H
      clear H
      go_wp2
      go_meet
      case rel => exact ⟨_, (false), z4_4, H', ⟨by have := HK1.out; first | omega | exact Nat.le_refl _⟩, ⟨z4_2⟩⟩
    case rest =>
     clear HC2
     try clear c1
     try clear p2
     try clear c3
     try clear c3b0
     obtain ⟨kq, x12_1, rfl, HA, HJ1, HB⟩ := hcut
     cases kq with
     | zero => exact absurd HA.out (by simp [spec_IsPlay.j1])
     | succ kj1 =>
      have H := HA.out
      clear HA
      simp only [spec_IsPlay.j1] at H
      by_cases c4 : x12_1 = true
      ·subst c4
       have H1 : ((spec_l15Ok.f kj1 l0 x3_1).bind fun t229 => (if t229 = true then (spec_IsPlay.l0 kj1 l0 (wrap64 (x3_1 + 1))) else (some false))) = some r := by rw [if_pos rfl] at H; exact H
       clear H
       have H := H1
       clear H1
       replace H := Option.bind_eq_some_iff.mp H
       obtain ⟨t229, A50, H⟩ := H
       replace H : (if t229 = true then (spec_IsPlay.l0 kj1 l0 (wrap64 (x3_1 + 1))) else (some false)) = some r := H
       have A5 := Aside0.mk A50
       clear A50
       by_cases c6 : t229 = true
       ·subst c6
        have H1 : (spec_IsPlay.l0 kj1 l0 (wrap64 (x3_1 + 1))) = some r := by rw [if_pos rfl] at H; exact H
        clear H
        have H := H1
        clear H1
        have H' := Aside0.mk H
        clear H
        go_wp2_with (first | ((with_reducible refine gate_callee (f := 57) rfl ?_); refine goesL_ (some 17) rfl rfl Try.func57 (by kernel_rfl) rfl #[.slice A0 l0.length c0, .int .i64 x3_1] rfl (by (try simp only [List.map_toArray, List.map_cons, List.map_nil]); first | done | rfl | (simp only [List.length_drop, List.length_take]; rfl)) ?_; (with_reducible refine (spec_l15Ok.calls kj1 _ _ l0 x3_1 true _ ?side1 ?side2 A5.out).mono ?_); (case side1 => repeat (first | exact (Kd.C_below HR0.out HB.out) | (with_reducible refine Kd.C_alloc ?_ _) | (with_reducible refine Kd.C_drewN ?_ _) | (with_reducible refine Kd.C_drew ?_))); (case side2 => exact HC0.out); rintro e w7 ⟨rfl, hb⟩; refine ⟨_, rfl, ?_⟩; have n0_ := Aside0.mk (below_step z4_2 hb); clear HB; have HB := n0_; clear n0_; (try clear hb); (try clear hb2); (try clear hk); (try clear hi)))
        go_roundg kj1
        case measure => have := HK1.out; have := HJ1.out; omega
        case rel => exact ⟨(wrap64 (x3_1 + 1)), z4_4, H', ⟨by have := HK1.out; have := HJ1.out; omega⟩, ⟨z4_2⟩⟩
       ·replace c6 := Bool.eq_false_iff.mpr c6
        subst c6
        have H1 : (some false) = some r := by rw [if_neg (show ¬ (false = true) by decide)] at H; exact H
        clear H
        have H := H1
        clear H1
        obtain rfl := Option.some.inj H
        go_wp2_with (first | ((with_reducible refine gate_callee (f := 57) rfl ?_); refine goesL_ (some 17) rfl rfl Try.func57 (by kernel_rfl) rfl #[.slice A0 l0.length c0, .int .i64 x3_1] rfl (by (try simp only [List.map_toArray, List.map_cons, List.map_nil]); first | done | rfl | (simp only [List.length_drop, List.length_take]; rfl)) ?_; (with_reducible refine (spec_l15Ok.calls kj1 _ _ l0 x3_1 false _ ?side1 ?side2 A5.out).mono ?_); (case side1 => repeat (first | exact (Kd.C_below HR0.out HB.out) | (with_reducible refine Kd.C_alloc ?_ _) | (with_reducible refine Kd.C_drewN ?_ _) | (with_reducible refine Kd.C_drew ?_))); (case side2 => exact HC0.out); rintro e w8 ⟨rfl, hb⟩; refine ⟨_, rfl, ?_⟩; have n0_ := Aside0.mk (below_step z4_2 hb); clear HB; have HB := n0_; clear n0_; (try clear hb); (try clear hb2); (try clear hk); (try clear hi)))
        go_ret
        exact ⟨z4_3, z4_2⟩
      ·replace c4 := Bool.eq_false_iff.mpr c4
       subst c4
       have H1 : ((spec_l1In.f (l0.length : Int) 1 9).bind fun t230 => (some t230)) = some r := by rw [if_neg (show ¬ (false = true) by decide)] at H; exact H
       clear H
       have H := H1
       clear H1
       replace H := Option.bind_eq_some_iff.mp H
       obtain ⟨t230, A90, H⟩ := H
       replace H : (some t230) = some r := H
       have A9 := Aside0.mk A90
       clear A90
       obtain rfl := Option.some.inj H
       go_wp2_with (first | ((with_reducible refine gate_callee (f := 58) rfl ?_); refine goesL_ (some 21) rfl rfl Try.func58 (by kernel_rfl) rfl #[.int .i64 (l0.length : Int), .int .i64 1, .int .i64 9] rfl (by (try simp only [List.map_toArray, List.map_cons, List.map_nil]); first | done | rfl | (simp only [List.length_drop, List.length_take]; rfl)) ?_; (with_reducible refine (spec_l1In.calls (l0.length : Int) 1 9 t230 _ A9.out).mono ?_); rintro e w' ⟨rfl, ⟨nd, rfl⟩⟩; refine ⟨_, rfl, ?_⟩))
       go_ret
       exact ⟨z4_3, z4_2⟩

end Go.Proofs.Ytodcckiphdnjeab.QFnPlays
