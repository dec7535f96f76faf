-- Written by a changed copy of the kit's printer (wip/mp.py of this repo), for this claim; Lean checks it.
import Derived.Test.YtgmhjinlpikpjabQFnExactWordsMadex0
import Derived.Test.YtgmhjinlpikpjabQFnExactWordsMadex1
namespace Go.Proofs.Ytgmhjinlpikpjab.QFnExactWordsMade
@[simp] theorem bne_nil_ (l : List UInt8) : (l != ([] : List UInt8)) = !l.isEmpty := by cases l <;> rfl
open Go.RowKit Go.Proofs.YtgmhjinlpikpjabW.PrintWords Go.Proofs.YtgmhjinlpikpjabW.PrintLast Go.Proofs.YtgmhjinlpikpjabW.PrintMore
attribute [local go_sem] max2_int min2_int max_two min_two max_three min_three max_four min_four   -- for this text's walks alone
set_option linter.unusedVariables false
set_option linter.unusedSimpArgs false

/-! ### spec_l15Ok: function 67 -/
mutual
def spec_l15Ok.j0 : Nat → List (S55) → Int → Bool → Int → ByteArray → Int → Int → Option (Bool)
  | 0, _, _, _, _, _, _, _ => none
  | k + 1, x0, x1, x33, x108000, x108001, x108002, x108003 => if x33 = true then (some false) else (if x108000 = 4 then (spec_l15Ok.j1 k x0 x1 true x108000 x108001 x108002 x108003) else (spec_l15Ok.j1 k x0 x1 (x108000 == 5) x108000 x108001 x108002 x108003))
def spec_l15Ok.j1 : Nat → List (S55) → Int → Bool → Int → ByteArray → Int → Int → Option (Bool)
  | 0, _, _, _, _, _, _, _ => none
  | k + 1, x0, x1, x6, x108000, x108001, x108002, x108003 => if x108000 = 1 then (if x108002 = 0 then (some (x108003 == 0)) else (some false)) else ((spec_l1In.f x108002 0 (wrap64 (x1 - 1))).bind fun t110 => (if t110 = true then (if x6 = true then ((spec_l1In.f x108003 0 (wrap64 (x1 - 1))).bind fun t111 => (if t111 = true then (some true) else (some false))) else (if x108003 = 0 then (if x108000 = 2 then (some true) else (if 0 ≤ x108002 then (if x108002 < (x0.length : Int) then (some (((rd_T55 x0 x108002).f0) == 1)) else (none)) else (none))) else (some false))) else (some false)))
end
def spec_l15Ok.f (k : Nat) (l0 : List (S55)) (a1 : Int) : Option (Bool) := if 0 ≤ a1 then (if a1 < (l0.length : Int) then ((spec_l1In.f ((rd_T55 l0 a1).f0) 1 9).bind fun t108 => (if t108 = true then ((spec_IsWord.f k ((rd_T55 l0 a1).f1)).bind fun t109 => (if ((rd_T55 l0 a1).f0) = 1 then (if t109 = true then (spec_l15Ok.j0 k l0 a1 false ((rd_T55 l0 a1).f0) ((rd_T55 l0 a1).f1) ((rd_T55 l0 a1).f2) ((rd_T55 l0 a1).f3)) else (spec_l15Ok.j0 k l0 a1 true ((rd_T55 l0 a1).f0) ((rd_T55 l0 a1).f1) ((rd_T55 l0 a1).f2) ((rd_T55 l0 a1).f3))) else (if t109 = true then (spec_l15Ok.j0 k l0 a1 true ((rd_T55 l0 a1).f0) ((rd_T55 l0 a1).f1) ((rd_T55 l0 a1).f2) ((rd_T55 l0 a1).f3)) else (spec_l15Ok.j0 k l0 a1 (((rd_T55 l0 a1).f1).toList != ([] : List UInt8)) ((rd_T55 l0 a1).f0) ((rd_T55 l0 a1).f1) ((rd_T55 l0 a1).f2) ((rd_T55 l0 a1).f3))))) else (spec_l15Ok.j0 k l0 a1 true ((rd_T55 l0 a1).f0) ((rd_T55 l0 a1).f1) ((rd_T55 l0 a1).f2) ((rd_T55 l0 a1).f3)))) else (none)) else (none)
theorem spec_l15Ok.mono_l : ∀ k, (∀ y0 y1 y2 y3 y4 y5 y6, LeO (spec_l15Ok.j0 k y0 y1 y2 y3 y4 y5 y6) (spec_l15Ok.j0 (k + 1) y0 y1 y2 y3 y4 y5 y6)) ∧ (∀ y0 y1 y2 y3 y4 y5 y6, LeO (spec_l15Ok.j1 k y0 y1 y2 y3 y4 y5 y6) (spec_l15Ok.j1 (k + 1) y0 y1 y2 y3 y4 y5 y6))
  | 0 => ⟨fun _ _ _ _ _ _ _ r h => by simp [spec_l15Ok.j0] at h, fun _ _ _ _ _ _ _ r h => by simp [spec_l15Ok.j1] at h⟩
  | k + 1 => by
   obtain ⟨ih0, ih1⟩ := spec_l15Ok.mono_l k; refine ⟨?_, ?_⟩
   ·intro y0 y1 y2 y3 y4 y5 y6
    unfold spec_l15Ok.j0
    repeat' first
    | (with_reducible exact ih0 _ _ _ _ _ _ _)
    | (with_reducible exact ih1 _ _ _ _ _ _ _)
    | (with_reducible exact spec_IsWord.mono _ _)
    | (with_reducible exact LeO.refl _)
    | (with_reducible exact LeO.none _)
    | (with_reducible refine LeO.ite ?_ ?_)
    | (with_reducible refine LeO.bind ?_ (fun _ => ?_))
    | exact ih0 _ _ _ _ _ _ _
    | exact ih1 _ _ _ _ _ _ _
    | exact spec_IsWord.mono _ _
    | exact LeO.none _
    | refine LeO.ite ?_ ?_
    | refine LeO.bind ?_ (fun _ => ?_)
   ·intro y0 y1 y2 y3 y4 y5 y6
    unfold spec_l15Ok.j1
    repeat' first
    | (with_reducible exact ih0 _ _ _ _ _ _ _)
    | (with_reducible exact ih1 _ _ _ _ _ _ _)
    | (with_reducible exact spec_IsWord.mono _ _)
    | (with_reducible exact LeO.refl _)
    | (with_reducible exact LeO.none _)
    | (with_reducible refine LeO.ite ?_ ?_)
    | (with_reducible refine LeO.bind ?_ (fun _ => ?_))
    | exact ih0 _ _ _ _ _ _ _
    | exact ih1 _ _ _ _ _ _ _
    | exact spec_IsWord.mono _ _
    | exact LeO.none _
    | refine LeO.ite ?_ ?_
    | refine LeO.bind ?_ (fun _ => ?_)
theorem spec_l15Ok.mono : ∀ a0 a1 k, LeO (spec_l15Ok.f k a0 a1) (spec_l15Ok.f (k + 1) a0 a1) := by
  intro a0 a1 k
  obtain ⟨ih0, ih1⟩ := spec_l15Ok.mono_l k; unfold spec_l15Ok.f
  repeat' first
    | (with_reducible exact ih0 _ _ _ _ _ _ _)
    | (with_reducible exact ih1 _ _ _ _ _ _ _)
    | (with_reducible exact spec_IsWord.mono _ _)
    | (with_reducible exact LeO.refl _)
    | (with_reducible exact LeO.none _)
    | (with_reducible refine LeO.ite ?_ ?_)
    | (with_reducible refine LeO.bind ?_ (fun _ => ?_))
    | exact ih0 _ _ _ _ _ _ _
    | exact ih1 _ _ _ _ _ _ _
    | exact spec_IsWord.mono _ _
    | exact LeO.none _
    | refine LeO.ite ?_ ?_
    | refine LeO.bind ?_ (fun _ => ?_)
set_option maxHeartbeats 8000000 in
set_option maxRecDepth 100000 in
theorem spec_l15Ok.calls (k : Nat) (A0 : Option Addr) (c0 : Nat) (l0 : List (S55)) (a1 : Int) (r : Bool) (w : World) (hr0 : Kd.C k55 w A0 l0.length l0) (hc0 : l0.length ≤ c0) (h : spec_l15Ok.f k l0 a1 = some r) :
   Calls Try.prog 67 #[.slice A0 l0.length c0, .int .i64 a1] w fun e w' => e = .returned (.bool r) ∧ Below w.heap.size w w' := by
  have hu55 := Try.underlying55; have HR0 := Aside0.mk hr0; have HC0 := Aside0.mk hc0; clear hr0 hc0; have HB := Aside0.mk (Below.refl w.heap.size w); have H : (if 0 ≤ a1 then (if a1 < (l0.length : Int) then ((spec_l1In.f ((rd_T55 l0 a1).f0) 1 9).bind fun t108 => (if t108 = true then ((spec_IsWord.f k ((rd_T55 l0 a1).f1)).bind fun t109 => (if ((rd_T55 l0 a1).f0) = 1 then (if t109 = true then (spec_l15Ok.j0 k l0 a1 false ((rd_T55 l0 a1).f0) ((rd_T55 l0 a1).f1) ((rd_T55 l0 a1).f2) ((rd_T55 l0 a1).f3)) else (spec_l15Ok.j0 k l0 a1 true ((rd_T55 l0 a1).f0) ((rd_T55 l0 a1).f1) ((rd_T55 l0 a1).f2) ((rd_T55 l0 a1).f3))) else (if t109 = true then (spec_l15Ok.j0 k l0 a1 true ((rd_T55 l0 a1).f0) ((rd_T55 l0 a1).f1) ((rd_T55 l0 a1).f2) ((rd_T55 l0 a1).f3)) else (spec_l15Ok.j0 k l0 a1 (((rd_T55 l0 a1).f1).toList != ([] : List UInt8)) ((rd_T55 l0 a1).f0) ((rd_T55 l0 a1).f1) ((rd_T55 l0 a1).f2) ((rd_T55 l0 a1).f3))))) else (spec_l15Ok.j0 k l0 a1 true ((rd_T55 l0 a1).f0) ((rd_T55 l0 a1).f1) ((rd_T55 l0 a1).f2) ((rd_T55 l0 a1).f3)))) else (none)) else (none)) = some r := h; clear h; by_cases c3 : 0 ≤ a1
  ·rw [if_pos c3] at H
   have c3b0 : decide (0 ≤ a1) = true := decide_eq_true c3; clear c3; by_cases c4 : a1 < (l0.length : Int)
   ·rw [if_pos c4] at H
    have c4b0 : decide (a1 < (l0.length : Int)) = true := decide_eq_true c4; clear c4; have HC5 := Aside0.mk H; clear H; have p106 : 0 ≤ (a1 : Int) := of_decide_eq_true (by first | (with_reducible assumption) | assumption)
    have q106 : a1 < (l0.length : Int) := of_decide_eq_true (by first | (with_reducible assumption) | assumption)
    obtain ⟨ad106, e106, hx106_0, hx106_1, hx106_2, hx106_3⟩ := at_T55 HR0.out a1 p106 q106
    cases e106; replace p106 := eq_true p106; replace q106 := eq_true q106; go_enter Try.func67, Try.ntmps67
    go_upto_region 2 with (first | ((with_reducible refine gate_dst (N := 5) rfl ?_); refine box_event ?hg (N := 5) ?hd (cs := #[.int .i64 0, .string (⟨#[]⟩ : ByteArray), .int .i64 0, .int .i64 0]) (t := 55) ?hr ?_; (case hd => rfl); (case hg => rfl); (case hr => first | (go_simp; done) | (go_simp; rfl)); intro gb107 hg w6 hbox hb; have n0_ := Aside0.mk (below_step (by repeat (first | (with_reducible first | exact HB.out | apply below_alloc | apply pw_below_drewN | apply below_drew1) | exact HB.out)) hb); have n1_ := Aside0.mk (hbox); have n2_ := Aside0.mk ((by rw [hg]; exact (below_size (by repeat (first | (with_reducible first | exact HB.out | apply below_alloc | apply pw_below_drewN | apply below_drew1) | exact HB.out))) : w.heap.size ≤ gb107)); have n3_ := Aside0.mk ((by rw [hg]; exact (below_size (by repeat (first | (with_reducible first | exact HB.out | apply below_alloc | apply pw_below_drewN | apply below_drew1) | exact HB.out))) : w.heap.size ≤ gb107)); clear HB; have HB := n0_; have BK107 := n1_; have GW107 := n2_; have GE107 := n3_; clear n0_ n1_ n2_ n3_; clear hb hbox hg; have hcz7_0 : w6.cell? ⟨gb107, 0, none⟩ = some (.int .i64 0) := (blk_cell BK107.out 0).trans rfl; have hcz7_1 : w6.cell? ⟨gb107, 1, none⟩ = some (.string (⟨#[]⟩ : ByteArray)) := (blk_cell BK107.out 1).trans rfl; have hcz7_2 : w6.cell? ⟨gb107, 2, none⟩ = some (.int .i64 0) := (blk_cell BK107.out 2).trans rfl; have hcz7_3 : w6.cell? ⟨gb107, 3, none⟩ = some (.int .i64 0) := (blk_cell BK107.out 3).trans rfl; have hfz7_0 := blk_frozen BK107.out 0; have hfz7_1 := blk_frozen BK107.out 1; have hfz7_2 := blk_frozen BK107.out 2; have hfz7_3 := blk_frozen BK107.out 3))
    repeat (go_quiet (first | ((with_reducible refine gate_dst (N := 5) rfl ?_); refine box_event ?hg (N := 5) ?hd (cs := #[.int .i64 0, .string (⟨#[]⟩ : ByteArray), .int .i64 0, .int .i64 0]) (t := 55) ?hr ?_; (case hd => rfl); (case hg => rfl); (case hr => first | (go_simp; done) | (go_simp; rfl)); intro gb107 hg w6 hbox hb; have n0_ := Aside0.mk (below_step (by repeat (first | (with_reducible first | exact HB.out | apply below_alloc | apply pw_below_drewN | apply below_drew1) | exact HB.out)) hb); have n1_ := Aside0.mk (hbox); have n2_ := Aside0.mk ((by rw [hg]; exact (below_size (by repeat (first | (with_reducible first | exact HB.out | apply below_alloc | apply pw_below_drewN | apply below_drew1) | exact HB.out))) : w.heap.size ≤ gb107)); have n3_ := Aside0.mk ((by rw [hg]; exact (below_size (by repeat (first | (with_reducible first | exact HB.out | apply below_alloc | apply pw_below_drewN | apply below_drew1) | exact HB.out))) : w.heap.size ≤ gb107)); clear HB; have HB := n0_; have BK107 := n1_; have GW107 := n2_; have GE107 := n3_; clear n0_ n1_ n2_ n3_; clear hb hbox hg; have hcz7_0 : w6.cell? ⟨gb107, 0, none⟩ = some (.int .i64 0) := (blk_cell BK107.out 0).trans rfl; have hcz7_1 : w6.cell? ⟨gb107, 1, none⟩ = some (.string (⟨#[]⟩ : ByteArray)) := (blk_cell BK107.out 1).trans rfl; have hcz7_2 : w6.cell? ⟨gb107, 2, none⟩ = some (.int .i64 0) := (blk_cell BK107.out 2).trans rfl; have hcz7_3 : w6.cell? ⟨gb107, 3, none⟩ = some (.int .i64 0) := (blk_cell BK107.out 3).trans rfl; have hfz7_0 := blk_frozen BK107.out 0; have hfz7_1 := blk_frozen BK107.out 1; have hfz7_2 := blk_frozen BK107.out 2; have hfz7_3 := blk_frozen BK107.out 3)); go_upto_region 2 with (first | ((with_reducible refine gate_dst (N := 5) rfl ?_); refine box_event ?hg (N := 5) ?hd (cs := #[.int .i64 0, .string (⟨#[]⟩ : ByteArray), .int .i64 0, .int .i64 0]) (t := 55) ?hr ?_; (case hd => rfl); (case hg => rfl); (case hr => first | (go_simp; done) | (go_simp; rfl)); intro gb107 hg w6 hbox hb; have n0_ := Aside0.mk (below_step (by repeat (first | (with_reducible first | exact HB.out | apply below_alloc | apply pw_below_drewN | apply below_drew1) | exact HB.out)) hb); have n1_ := Aside0.mk (hbox); have n2_ := Aside0.mk ((by rw [hg]; exact (below_size (by repeat (first | (with_reducible first | exact HB.out | apply below_alloc | apply pw_below_drewN | apply below_drew1) | exact HB.out))) : w.heap.size ≤ gb107)); have n3_ := Aside0.mk ((by rw [hg]; exact (below_size (by repeat (first | (with_reducible first | exact HB.out | apply below_alloc | apply pw_below_drewN | apply below_drew1) | exact HB.out))) : w.heap.size ≤ gb107)); clear HB; have HB := n0_; have BK107 := n1_; have GW107 := n2_; have GE107 := n3_; clear n0_ n1_ n2_ n3_; clear hb hbox hg; have hcz7_0 : w6.cell? ⟨gb107, 0, none⟩ = some (.int .i64 0) := (blk_cell BK107.out 0).trans rfl; have hcz7_1 : w6.cell? ⟨gb107, 1, none⟩ = some (.string (⟨#[]⟩ : ByteArray)) := (blk_cell BK107.out 1).trans rfl; have hcz7_2 : w6.cell? ⟨gb107, 2, none⟩ = some (.int .i64 0) := (blk_cell BK107.out 2).trans rfl; have hcz7_3 : w6.cell? ⟨gb107, 3, none⟩ = some (.int .i64 0) := (blk_cell BK107.out 3).trans rfl; have hfz7_0 := blk_frozen BK107.out 0; have hfz7_1 := blk_frozen BK107.out 1; have hfz7_2 := blk_frozen BK107.out 2; have hfz7_3 := blk_frozen BK107.out 3)))
    (try simp only [Act.put, List.setIfInBounds_toArray, List.set_cons_zero, List.set_cons_succ])
    go_cut [33] (fun v33 wc => ∃ (kq : Nat) (x33_4 : Bool), v33 = .bool x33_4 ∧ Aside0 (spec_l15Ok.j0 kq l0 a1 x33_4 ((rd_T55 l0 a1).f0) ((rd_T55 l0 a1).f1) ((rd_T55 l0 a1).f2) ((rd_T55 l0 a1).f3) = some r) ∧ Aside0 (kq ≤ k) ∧ Aside0 (wc.heap[gb107]? = some (.cells #[.int .i64 ((rd_T55 l0 a1).f0), .string ((rd_T55 l0 a1).f1), .int .i64 ((rd_T55 l0 a1).f2), .int .i64 ((rd_T55 l0 a1).f3)] 55 (0, 0))) ∧ Aside0 (Below w.heap.size w wc))
    case first =>
     have H := HC5.out; clear HC5; replace H := Option.bind_eq_some_iff.mp H; obtain ⟨t108, A80, H⟩ := H; replace H : (if t108 = true then ((spec_IsWord.f k ((rd_T55 l0 a1).f1)).bind fun t109 => (if ((rd_T55 l0 a1).f0) = 1 then (if t109 = true then (spec_l15Ok.j0 k l0 a1 false ((rd_T55 l0 a1).f0) ((rd_T55 l0 a1).f1) ((rd_T55 l0 a1).f2) ((rd_T55 l0 a1).f3)) else (spec_l15Ok.j0 k l0 a1 true ((rd_T55 l0 a1).f0) ((rd_T55 l0 a1).f1) ((rd_T55 l0 a1).f2) ((rd_T55 l0 a1).f3))) else (if t109 = true then (spec_l15Ok.j0 k l0 a1 true ((rd_T55 l0 a1).f0) ((rd_T55 l0 a1).f1) ((rd_T55 l0 a1).f2) ((rd_T55 l0 a1).f3)) else (spec_l15Ok.j0 k l0 a1 (((rd_T55 l0 a1).f1).toList != ([] : List UInt8)) ((rd_T55 l0 a1).f0) ((rd_T55 l0 a1).f1) ((rd_T55 l0 a1).f2) ((rd_T55 l0 a1).f3))))) else (spec_l15Ok.j0 k l0 a1 true ((rd_T55 l0 a1).f0) ((rd_T55 l0 a1).f1) ((rd_T55 l0 a1).f2) ((rd_T55 l0 a1).f3))) = some r := H; have A8 := Aside0.mk A80; clear A80; by_cases c9 : t108 = true
     ·subst c9; have H1 : ((spec_IsWord.f k ((rd_T55 l0 a1).f1)).bind fun t109 => (if ((rd_T55 l0 a1).f0) = 1 then (if t109 = true then (spec_l15Ok.j0 k l0 a1 false ((rd_T55 l0 a1).f0) ((rd_T55 l0 a1).f1) ((rd_T55 l0 a1).f2) ((rd_T55 l0 a1).f3)) else (spec_l15Ok.j0 k l0 a1 true ((rd_T55 l0 a1).f0) ((rd_T55 l0 a1).f1) ((rd_T55 l0 a1).f2) ((rd_T55 l0 a1).f3))) else (if t109 = true then (spec_l15Ok.j0 k l0 a1 true ((rd_T55 l0 a1).f0) ((rd_T55 l0 a1).f1) ((rd_T55 l0 a1).f2) ((rd_T55 l0 a1).f3)) else (spec_l15Ok.j0 k l0 a1 (((rd_T55 l0 a1).f1).toList != ([] : List UInt8)) ((rd_T55 l0 a1).f0) ((rd_T55 l0 a1).f1) ((rd_T55 l0 a1).f2) ((rd_T55 l0 a1).f3))))) = some r := by rw [if_pos rfl] at H; exact H
      clear H; have H := H1; clear H1; replace H := Option.bind_eq_some_iff.mp H; obtain ⟨t109, A100, H⟩ := H; replace H : (if ((rd_T55 l0 a1).f0) = 1 then (if t109 = true then (spec_l15Ok.j0 k l0 a1 false ((rd_T55 l0 a1).f0) ((rd_T55 l0 a1).f1) ((rd_T55 l0 a1).f2) ((rd_T55 l0 a1).f3)) else (spec_l15Ok.j0 k l0 a1 true ((rd_T55 l0 a1).f0) ((rd_T55 l0 a1).f1) ((rd_T55 l0 a1).f2) ((rd_T55 l0 a1).f3))) else (if t109 = true then (spec_l15Ok.j0 k l0 a1 true ((rd_T55 l0 a1).f0) ((rd_T55 l0 a1).f1) ((rd_T55 l0 a1).f2) ((rd_T55 l0 a1).f3)) else (spec_l15Ok.j0 k l0 a1 (((rd_T55 l0 a1).f1).toList != ([] : List UInt8)) ((rd_T55 l0 a1).f0) ((rd_T55 l0 a1).f1) ((rd_T55 l0 a1).f2) ((rd_T55 l0 a1).f3)))) = some r := H; have A10 := Aside0.mk A100; clear A100; by_cases c11 : ((rd_T55 l0 a1).f0) = 1
      ·rw [if_pos c11] at H
       have c11b0 : (((rd_T55 l0 a1).f0) == 1) = true := beq_iff_eq.mpr c11; have c11b1 : (((rd_T55 l0 a1).f0) != 1) = false := bne_eq_false_iff_eq.mpr c11; clear c11; (first | rw [c11b0] | (simp only [i64_w, i32_w]; rw [c11b0]) | skip)
       by_cases c12 : t109 = true
       ·subst c12; have H1 : (spec_l15Ok.j0 k l0 a1 false ((rd_T55 l0 a1).f0) ((rd_T55 l0 a1).f1) ((rd_T55 l0 a1).f2) ((rd_T55 l0 a1).f3)) = some r := by rw [if_pos rfl] at H; exact H
        clear H; have H := H1; clear H1; have H' := Aside0.mk H
        clear H; have hcz13_0 : w6.cell? ⟨gb107, 0, none⟩ = some (.int .i64 0) := (blk_cell BK107.out 0).trans rfl; have hcz13_1 : w6.cell? ⟨gb107, 1, none⟩ = some (.string (⟨#[]⟩ : ByteArray)) := (blk_cell BK107.out 1).trans rfl; have hcz13_2 : w6.cell? ⟨gb107, 2, none⟩ = some (.int .i64 0) := (blk_cell BK107.out 2).trans rfl; have hcz13_3 : w6.cell? ⟨gb107, 3, none⟩ = some (.int .i64 0) := (blk_cell BK107.out 3).trans rfl; have hfz13_0 := blk_frozen BK107.out 0; have hfz13_1 := blk_frozen BK107.out 1; have hfz13_2 := blk_frozen BK107.out 2; have hfz13_3 := blk_frozen BK107.out 3; go_wp2_with (first | (go_at_call 61; (with_reducible refine (spec_l1In.calls ((rd_T55 l0 a1).f0) 1 9 true _ A8.out).mono ?_); rintro e w' ⟨rfl, ⟨nd, rfl⟩⟩; (try first | exact ⟨rfl, _, World.drewN_drewN _ _ _⟩ | exact ⟨rfl, _, Eq.trans (World.drewN_drewN _ _ _) (congrArg (World.drewN _) (Nat.add_assoc _ _ _))⟩)) | (go_at_call 45; (with_reducible refine (spec_IsWord.calls k ((rd_T55 l0 a1).f1) true _ A10.out).mono ?_); rintro e w' ⟨rfl, ⟨nd, rfl⟩⟩; (try first | exact ⟨rfl, _, World.drewN_drewN _ _ _⟩ | exact ⟨rfl, _, Eq.trans (World.drewN_drewN _ _ _) (congrArg (World.drewN _) (Nat.add_assoc _ _ _))⟩)))
        repeat (go_quiet (first | (go_at_call 61; (with_reducible refine (spec_l1In.calls ((rd_T55 l0 a1).f0) 1 9 true _ A8.out).mono ?_); rintro e w' ⟨rfl, ⟨nd, rfl⟩⟩; (try first | exact ⟨rfl, _, World.drewN_drewN _ _ _⟩ | exact ⟨rfl, _, Eq.trans (World.drewN_drewN _ _ _) (congrArg (World.drewN _) (Nat.add_assoc _ _ _))⟩)) | (go_at_call 45; (with_reducible refine (spec_IsWord.calls k ((rd_T55 l0 a1).f1) true _ A10.out).mono ?_); rintro e w' ⟨rfl, ⟨nd, rfl⟩⟩; (try first | exact ⟨rfl, _, World.drewN_drewN _ _ _⟩ | exact ⟨rfl, _, Eq.trans (World.drewN_drewN _ _ _) (congrArg (World.drewN _) (Nat.add_assoc _ _ _))⟩))); try go_wp2_with (first | (go_at_call 61; (with_reducible refine (spec_l1In.calls ((rd_T55 l0 a1).f0) 1 9 true _ A8.out).mono ?_); rintro e w' ⟨rfl, ⟨nd, rfl⟩⟩; (try first | exact ⟨rfl, _, World.drewN_drewN _ _ _⟩ | exact ⟨rfl, _, Eq.trans (World.drewN_drewN _ _ _) (congrArg (World.drewN _) (Nat.add_assoc _ _ _))⟩)) | (go_at_call 45; (with_reducible refine (spec_IsWord.calls k ((rd_T55 l0 a1).f1) true _ A10.out).mono ?_); rintro e w' ⟨rfl, ⟨nd, rfl⟩⟩; (try first | exact ⟨rfl, _, World.drewN_drewN _ _ _⟩ | exact ⟨rfl, _, Eq.trans (World.drewN_drewN _ _ _) (congrArg (World.drewN _) (Nat.add_assoc _ _ _))⟩))))
        go_meet
        case rel => exact ⟨_, (false), (by first | rfl | (simp; done) | (simp [*]; done)), H', ⟨by first | omega | exact Nat.le_refl _⟩, ⟨by (with_reducible repeat (first | refine blk_drewN ?_ _ | refine blk_drew ?_ | refine blk_alloc ?_ _)); refine blk_put (cs := #[.int .i64 ((rd_T55 l0 a1).f0), .string ((rd_T55 l0 a1).f1), .int .i64 ((rd_T55 l0 a1).f2), .int .i64 0]) ?_ 3 _ rfl; (with_reducible repeat (first | refine blk_drewN ?_ _ | refine blk_drew ?_ | refine blk_alloc ?_ _)); refine blk_put (cs := #[.int .i64 ((rd_T55 l0 a1).f0), .string ((rd_T55 l0 a1).f1), .int .i64 0, .int .i64 0]) ?_ 2 _ rfl; (with_reducible repeat (first | refine blk_drewN ?_ _ | refine blk_drew ?_ | refine blk_alloc ?_ _)); refine blk_put (cs := #[.int .i64 ((rd_T55 l0 a1).f0), .string (⟨#[]⟩ : ByteArray), .int .i64 0, .int .i64 0]) ?_ 1 _ rfl; (with_reducible repeat (first | refine blk_drewN ?_ _ | refine blk_drew ?_ | refine blk_alloc ?_ _)); refine blk_put (cs := #[.int .i64 0, .string (⟨#[]⟩ : ByteArray), .int .i64 0, .int .i64 0]) ?_ 0 _ rfl; (with_reducible repeat (first | refine blk_drewN ?_ _ | refine blk_drew ?_ | refine blk_alloc ?_ _)); exact BK107.out⟩, ⟨by repeat (first | (with_reducible first | exact HB.out | apply below_alloc | apply pw_below_drewN | apply below_drew1 | refine below_set ?_ GE107.out) | exact HB.out)⟩⟩
       ·replace c12 := Bool.eq_false_iff.mpr c12; subst c12; have H1 : (spec_l15Ok.j0 k l0 a1 true ((rd_T55 l0 a1).f0) ((rd_T55 l0 a1).f1) ((rd_T55 l0 a1).f2) ((rd_T55 l0 a1).f3)) = some r := by rw [if_neg (show ¬ (false = true) by decide)] at H; exact H
        clear H; have H := H1; clear H1; have H' := Aside0.mk H
        clear H; have hcz14_0 : w6.cell? ⟨gb107, 0, none⟩ = some (.int .i64 0) := (blk_cell BK107.out 0).trans rfl; have hcz14_1 : w6.cell? ⟨gb107, 1, none⟩ = some (.string (⟨#[]⟩ : ByteArray)) := (blk_cell BK107.out 1).trans rfl; have hcz14_2 : w6.cell? ⟨gb107, 2, none⟩ = some (.int .i64 0) := (blk_cell BK107.out 2).trans rfl; have hcz14_3 : w6.cell? ⟨gb107, 3, none⟩ = some (.int .i64 0) := (blk_cell BK107.out 3).trans rfl; have hfz14_0 := blk_frozen BK107.out 0; have hfz14_1 := blk_frozen BK107.out 1; have hfz14_2 := blk_frozen BK107.out 2; have hfz14_3 := blk_frozen BK107.out 3; go_wp2_with (first | (go_at_call 61; (with_reducible refine (spec_l1In.calls ((rd_T55 l0 a1).f0) 1 9 true _ A8.out).mono ?_); rintro e w' ⟨rfl, ⟨nd, rfl⟩⟩; (try first | exact ⟨rfl, _, World.drewN_drewN _ _ _⟩ | exact ⟨rfl, _, Eq.trans (World.drewN_drewN _ _ _) (congrArg (World.drewN _) (Nat.add_assoc _ _ _))⟩)) | (go_at_call 45; (with_reducible refine (spec_IsWord.calls k ((rd_T55 l0 a1).f1) false _ A10.out).mono ?_); rintro e w' ⟨rfl, ⟨nd, rfl⟩⟩; (try first | exact ⟨rfl, _, World.drewN_drewN _ _ _⟩ | exact ⟨rfl, _, Eq.trans (World.drewN_drewN _ _ _) (congrArg (World.drewN _) (Nat.add_assoc _ _ _))⟩)))
        repeat (go_quiet (first | (go_at_call 61; (with_reducible refine (spec_l1In.calls ((rd_T55 l0 a1).f0) 1 9 true _ A8.out).mono ?_); rintro e w' ⟨rfl, ⟨nd, rfl⟩⟩; (try first | exact ⟨rfl, _, World.drewN_drewN _ _ _⟩ | exact ⟨rfl, _, Eq.trans (World.drewN_drewN _ _ _) (congrArg (World.drewN _) (Nat.add_assoc _ _ _))⟩)) | (go_at_call 45; (with_reducible refine (spec_IsWord.calls k ((rd_T55 l0 a1).f1) false _ A10.out).mono ?_); rintro e w' ⟨rfl, ⟨nd, rfl⟩⟩; (try first | exact ⟨rfl, _, World.drewN_drewN _ _ _⟩ | exact ⟨rfl, _, Eq.trans (World.drewN_drewN _ _ _) (congrArg (World.drewN _) (Nat.add_assoc _ _ _))⟩))); try go_wp2_with (first | (go_at_call 61; (with_reducible refine (spec_l1In.calls ((rd_T55 l0 a1).f0) 1 9 true _ A8.out).mono ?_); rintro e w' ⟨rfl, ⟨nd, rfl⟩⟩; (try first | exact ⟨rfl, _, World.drewN_drewN _ _ _⟩ | exact ⟨rfl, _, Eq.trans (World.drewN_drewN _ _ _) (congrArg (World.drewN _) (Nat.add_assoc _ _ _))⟩)) | (go_at_call 45; (with_reducible refine (spec_IsWord.calls k ((rd_T55 l0 a1).f1) false _ A10.out).mono ?_); rintro e w' ⟨rfl, ⟨nd, rfl⟩⟩; (try first | exact ⟨rfl, _, World.drewN_drewN _ _ _⟩ | exact ⟨rfl, _, Eq.trans (World.drewN_drewN _ _ _) (congrArg (World.drewN _) (Nat.add_assoc _ _ _))⟩))))
        go_meet
        case rel => exact ⟨_, (true), (by first | rfl | (simp; done) | (simp [*]; done)), H', ⟨by first | omega | exact Nat.le_refl _⟩, ⟨by (with_reducible repeat (first | refine blk_drewN ?_ _ | refine blk_drew ?_ | refine blk_alloc ?_ _)); refine blk_put (cs := #[.int .i64 ((rd_T55 l0 a1).f0), .string ((rd_T55 l0 a1).f1), .int .i64 ((rd_T55 l0 a1).f2), .int .i64 0]) ?_ 3 _ rfl; (with_reducible repeat (first | refine blk_drewN ?_ _ | refine blk_drew ?_ | refine blk_alloc ?_ _)); refine blk_put (cs := #[.int .i64 ((rd_T55 l0 a1).f0), .string ((rd_T55 l0 a1).f1), .int .i64 0, .int .i64 0]) ?_ 2 _ rfl; (with_reducible repeat (first | refine blk_drewN ?_ _ | refine blk_drew ?_ | refine blk_alloc ?_ _)); refine blk_put (cs := #[.int .i64 ((rd_T55 l0 a1).f0), .string (⟨#[]⟩ : ByteArray), .int .i64 0, .int .i64 0]) ?_ 1 _ rfl; (with_reducible repeat (first | refine blk_drewN ?_ _ | refine blk_drew ?_ | refine blk_alloc ?_ _)); refine blk_put (cs := #[.int .i64 0, .string (⟨#[]⟩ : ByteArray), .int .i64 0, .int .i64 0]) ?_ 0 _ rfl; (with_reducible repeat (first | refine blk_drewN ?_ _ | refine blk_drew ?_ | refine blk_alloc ?_ _)); exact BK107.out⟩, ⟨by repeat (first | (with_reducible first | exact HB.out | apply below_alloc | apply pw_below_drewN | apply below_drew1 | refine below_set ?_ GE107.out) | exact HB.out)⟩⟩
      ·rw [if_neg c11] at H
       have c11b0 : (((rd_T55 l0 a1).f0) == 1) = false := beq_eq_false_iff_ne.mpr c11; have c11b1 : (((rd_T55 l0 a1).f0) != 1) = true := bne_iff_ne.mpr c11; (first | rw [c11b0] | (simp only [i64_w, i32_w]; rw [c11b0]) | skip)
       by_cases c15 : t109 = true
       ·subst c15; have H1 : (spec_l15Ok.j0 k l0 a1 true ((rd_T55 l0 a1).f0) ((rd_T55 l0 a1).f1) ((rd_T55 l0 a1).f2) ((rd_T55 l0 a1).f3)) = some r := by rw [if_pos rfl] at H; exact H
        clear H; have H := H1; clear H1; have H' := Aside0.mk H
        clear H; have hcz16_0 : w6.cell? ⟨gb107, 0, none⟩ = some (.int .i64 0) := (blk_cell BK107.out 0).trans rfl; have hcz16_1 : w6.cell? ⟨gb107, 1, none⟩ = some (.string (⟨#[]⟩ : ByteArray)) := (blk_cell BK107.out 1).trans rfl; have hcz16_2 : w6.cell? ⟨gb107, 2, none⟩ = some (.int .i64 0) := (blk_cell BK107.out 2).trans rfl; have hcz16_3 : w6.cell? ⟨gb107, 3, none⟩ = some (.int .i64 0) := (blk_cell BK107.out 3).trans rfl; have hfz16_0 := blk_frozen BK107.out 0; have hfz16_1 := blk_frozen BK107.out 1; have hfz16_2 := blk_frozen BK107.out 2; have hfz16_3 := blk_frozen BK107.out 3; go_wp2_with (first | (go_at_call 61; (with_reducible refine (spec_l1In.calls ((rd_T55 l0 a1).f0) 1 9 true _ A8.out).mono ?_); rintro e w' ⟨rfl, ⟨nd, rfl⟩⟩; (try first | exact ⟨rfl, _, World.drewN_drewN _ _ _⟩ | exact ⟨rfl, _, Eq.trans (World.drewN_drewN _ _ _) (congrArg (World.drewN _) (Nat.add_assoc _ _ _))⟩)) | (go_at_call 45; (with_reducible refine (spec_IsWord.calls k ((rd_T55 l0 a1).f1) true _ A10.out).mono ?_); rintro e w' ⟨rfl, ⟨nd, rfl⟩⟩; (try first | exact ⟨rfl, _, World.drewN_drewN _ _ _⟩ | exact ⟨rfl, _, Eq.trans (World.drewN_drewN _ _ _) (congrArg (World.drewN _) (Nat.add_assoc _ _ _))⟩)))
        repeat (go_quiet (first | (go_at_call 61; (with_reducible refine (spec_l1In.calls ((rd_T55 l0 a1).f0) 1 9 true _ A8.out).mono ?_); rintro e w' ⟨rfl, ⟨nd, rfl⟩⟩; (try first | exact ⟨rfl, _, World.drewN_drewN _ _ _⟩ | exact ⟨rfl, _, Eq.trans (World.drewN_drewN _ _ _) (congrArg (World.drewN _) (Nat.add_assoc _ _ _))⟩)) | (go_at_call 45; (with_reducible refine (spec_IsWord.calls k ((rd_T55 l0 a1).f1) true _ A10.out).mono ?_); rintro e w' ⟨rfl, ⟨nd, rfl⟩⟩; (try first | exact ⟨rfl, _, World.drewN_drewN _ _ _⟩ | exact ⟨rfl, _, Eq.trans (World.drewN_drewN _ _ _) (congrArg (World.drewN _) (Nat.add_assoc _ _ _))⟩))); try go_wp2_with (first | (go_at_call 61; (with_reducible refine (spec_l1In.calls ((rd_T55 l0 a1).f0) 1 9 true _ A8.out).mono ?_); rintro e w' ⟨rfl, ⟨nd, rfl⟩⟩; (try first | exact ⟨rfl, _, World.drewN_drewN _ _ _⟩ | exact ⟨rfl, _, Eq.trans (World.drewN_drewN _ _ _) (congrArg (World.drewN _) (Nat.add_assoc _ _ _))⟩)) | (go_at_call 45; (with_reducible refine (spec_IsWord.calls k ((rd_T55 l0 a1).f1) true _ A10.out).mono ?_); rintro e w' ⟨rfl, ⟨nd, rfl⟩⟩; (try first | exact ⟨rfl, _, World.drewN_drewN _ _ _⟩ | exact ⟨rfl, _, Eq.trans (World.drewN_drewN _ _ _) (congrArg (World.drewN _) (Nat.add_assoc _ _ _))⟩))))
        go_meet
        case rel => exact ⟨_, (true), (by first | rfl | (simp; done) | (simp [*]; done)), H', ⟨by first | omega | exact Nat.le_refl _⟩, ⟨by (with_reducible repeat (first | refine blk_drewN ?_ _ | refine blk_drew ?_ | refine blk_alloc ?_ _)); refine blk_put (cs := #[.int .i64 ((rd_T55 l0 a1).f0), .string ((rd_T55 l0 a1).f1), .int .i64 ((rd_T55 l0 a1).f2), .int .i64 0]) ?_ 3 _ rfl; (with_reducible repeat (first | refine blk_drewN ?_ _ | refine blk_drew ?_ | refine blk_alloc ?_ _)); refine blk_put (cs := #[.int .i64 ((rd_T55 l0 a1).f0), .string ((rd_T55 l0 a1).f1), .int .i64 0, .int .i64 0]) ?_ 2 _ rfl; (with_reducible repeat (first | refine blk_drewN ?_ _ | refine blk_drew ?_ | refine blk_alloc ?_ _)); refine blk_put (cs := #[.int .i64 ((rd_T55 l0 a1).f0), .string (⟨#[]⟩ : ByteArray), .int .i64 0, .int .i64 0]) ?_ 1 _ rfl; (with_reducible repeat (first | refine blk_drewN ?_ _ | refine blk_drew ?_ | refine blk_alloc ?_ _)); refine blk_put (cs := #[.int .i64 0, .string (⟨#[]⟩ : ByteArray), .int .i64 0, .int .i64 0]) ?_ 0 _ rfl; (with_reducible repeat (first | refine blk_drewN ?_ _ | refine blk_drew ?_ | refine blk_alloc ?_ _)); exact BK107.out⟩, ⟨by repeat (first | (with_reducible first | exact HB.out | apply below_alloc | apply pw_below_drewN | apply below_drew1 | refine below_set ?_ GE107.out) | exact HB.out)⟩⟩
       ·replace c15 := Bool.eq_false_iff.mpr c15; subst c15; have H1 : (spec_l15Ok.j0 k l0 a1 (((rd_T55 l0 a1).f1).toList != ([] : List UInt8)) ((rd_T55 l0 a1).f0) ((rd_T55 l0 a1).f1) ((rd_T55 l0 a1).f2) ((rd_T55 l0 a1).f3)) = some r := by rw [if_neg (show ¬ (false = true) by decide)] at H; exact H
        clear H; have H := H1; clear H1; have H' := Aside0.mk H
        clear H; have hcz17_0 : w6.cell? ⟨gb107, 0, none⟩ = some (.int .i64 0) := (blk_cell BK107.out 0).trans rfl; have hcz17_1 : w6.cell? ⟨gb107, 1, none⟩ = some (.string (⟨#[]⟩ : ByteArray)) := (blk_cell BK107.out 1).trans rfl; have hcz17_2 : w6.cell? ⟨gb107, 2, none⟩ = some (.int .i64 0) := (blk_cell BK107.out 2).trans rfl; have hcz17_3 : w6.cell? ⟨gb107, 3, none⟩ = some (.int .i64 0) := (blk_cell BK107.out 3).trans rfl; have hfz17_0 := blk_frozen BK107.out 0; have hfz17_1 := blk_frozen BK107.out 1; have hfz17_2 := blk_frozen BK107.out 2; have hfz17_3 := blk_frozen BK107.out 3; go_wp2_with (first | (go_at_call 61; (with_reducible refine (spec_l1In.calls ((rd_T55 l0 a1).f0) 1 9 true _ A8.out).mono ?_); rintro e w' ⟨rfl, ⟨nd, rfl⟩⟩; (try first | exact ⟨rfl, _, World.drewN_drewN _ _ _⟩ | exact ⟨rfl, _, Eq.trans (World.drewN_drewN _ _ _) (congrArg (World.drewN _) (Nat.add_assoc _ _ _))⟩)) | (go_at_call 45; (with_reducible refine (spec_IsWord.calls k ((rd_T55 l0 a1).f1) false _ A10.out).mono ?_); rintro e w' ⟨rfl, ⟨nd, rfl⟩⟩; (try first | exact ⟨rfl, _, World.drewN_drewN _ _ _⟩ | exact ⟨rfl, _, Eq.trans (World.drewN_drewN _ _ _) (congrArg (World.drewN _) (Nat.add_assoc _ _ _))⟩)))
        repeat (go_quiet (first | (go_at_call 61; (with_reducible refine (spec_l1In.calls ((rd_T55 l0 a1).f0) 1 9 true _ A8.out).mono ?_); rintro e w' ⟨rfl, ⟨nd, rfl⟩⟩; (try first | exact ⟨rfl, _, World.drewN_drewN _ _ _⟩ | exact ⟨rfl, _, Eq.trans (World.drewN_drewN _ _ _) (congrArg (World.drewN _) (Nat.add_assoc _ _ _))⟩)) | (go_at_call 45; (with_reducible refine (spec_IsWord.calls k ((rd_T55 l0 a1).f1) false _ A10.out).mono ?_); rintro e w' ⟨rfl, ⟨nd, rfl⟩⟩; (try first | exact ⟨rfl, _, World.drewN_drewN _ _ _⟩ | exact ⟨rfl, _, Eq.trans (World.drewN_drewN _ _ _) (congrArg (World.drewN _) (Nat.add_assoc _ _ _))⟩))); try go_wp2_with (first | (go_at_call 61; (with_reducible refine (spec_l1In.calls ((rd_T55 l0 a1).f0) 1 9 true _ A8.out).mono ?_); rintro e w' ⟨rfl, ⟨nd, rfl⟩⟩; (try first | exact ⟨rfl, _, World.drewN_drewN _ _ _⟩ | exact ⟨rfl, _, Eq.trans (World.drewN_drewN _ _ _) (congrArg (World.drewN _) (Nat.add_assoc _ _ _))⟩)) | (go_at_call 45; (with_reducible refine (spec_IsWord.calls k ((rd_T55 l0 a1).f1) false _ A10.out).mono ?_); rintro e w' ⟨rfl, ⟨nd, rfl⟩⟩; (try first | exact ⟨rfl, _, World.drewN_drewN _ _ _⟩ | exact ⟨rfl, _, Eq.trans (World.drewN_drewN _ _ _) (congrArg (World.drewN _) (Nat.add_assoc _ _ _))⟩))))
        go_meet
        case rel => exact ⟨_, ((((rd_T55 l0 a1).f1).toList != ([] : List UInt8))), (by first | rfl | (simp; done) | (simp [*]; done)), H', ⟨by first | omega | exact Nat.le_refl _⟩, ⟨by (with_reducible repeat (first | refine blk_drewN ?_ _ | refine blk_drew ?_ | refine blk_alloc ?_ _)); refine blk_put (cs := #[.int .i64 ((rd_T55 l0 a1).f0), .string ((rd_T55 l0 a1).f1), .int .i64 ((rd_T55 l0 a1).f2), .int .i64 0]) ?_ 3 _ rfl; (with_reducible repeat (first | refine blk_drewN ?_ _ | refine blk_drew ?_ | refine blk_alloc ?_ _)); refine blk_put (cs := #[.int .i64 ((rd_T55 l0 a1).f0), .string ((rd_T55 l0 a1).f1), .int .i64 0, .int .i64 0]) ?_ 2 _ rfl; (with_reducible repeat (first | refine blk_drewN ?_ _ | refine blk_drew ?_ | refine blk_alloc ?_ _)); refine blk_put (cs := #[.int .i64 ((rd_T55 l0 a1).f0), .string (⟨#[]⟩ : ByteArray), .int .i64 0, .int .i64 0]) ?_ 1 _ rfl; (with_reducible repeat (first | refine blk_drewN ?_ _ | refine blk_drew ?_ | refine blk_alloc ?_ _)); refine blk_put (cs := #[.int .i64 0, .string (⟨#[]⟩ : ByteArray), .int .i64 0, .int .i64 0]) ?_ 0 _ rfl; (with_reducible repeat (first | refine blk_drewN ?_ _ | refine blk_drew ?_ | refine blk_alloc ?_ _)); exact BK107.out⟩, ⟨by repeat (first | (with_reducible first | exact HB.out | apply below_alloc | apply pw_below_drewN | apply below_drew1 | refine below_set ?_ GE107.out) | exact HB.out)⟩⟩
     ·replace c9 := Bool.eq_false_iff.mpr c9; subst c9; have H1 : (spec_l15Ok.j0 k l0 a1 true ((rd_T55 l0 a1).f0) ((rd_T55 l0 a1).f1) ((rd_T55 l0 a1).f2) ((rd_T55 l0 a1).f3)) = some r := by rw [if_neg (show ¬ (false = true) by decide)] at H; exact H
      clear H; have H := H1; clear H1; have H' := Aside0.mk H
      clear H; have hcz18_0 : w6.cell? ⟨gb107, 0, none⟩ = some (.int .i64 0) := (blk_cell BK107.out 0).trans rfl; have hcz18_1 : w6.cell? ⟨gb107, 1, none⟩ = some (.string (⟨#[]⟩ : ByteArray)) := (blk_cell BK107.out 1).trans rfl; have hcz18_2 : w6.cell? ⟨gb107, 2, none⟩ = some (.int .i64 0) := (blk_cell BK107.out 2).trans rfl; have hcz18_3 : w6.cell? ⟨gb107, 3, none⟩ = some (.int .i64 0) := (blk_cell BK107.out 3).trans rfl; have hfz18_0 := blk_frozen BK107.out 0; have hfz18_1 := blk_frozen BK107.out 1; have hfz18_2 := blk_frozen BK107.out 2; have hfz18_3 := blk_frozen BK107.out 3; go_wp2_with (first | (go_at_call 61; (with_reducible refine (spec_l1In.calls ((rd_T55 l0 a1).f0) 1 9 false _ A8.out).mono ?_); rintro e w' ⟨rfl, ⟨nd, rfl⟩⟩; (try first | exact ⟨rfl, _, World.drewN_drewN _ _ _⟩ | exact ⟨rfl, _, Eq.trans (World.drewN_drewN _ _ _) (congrArg (World.drewN _) (Nat.add_assoc _ _ _))⟩)))
      repeat (go_quiet (first | (go_at_call 61; (with_reducible refine (spec_l1In.calls ((rd_T55 l0 a1).f0) 1 9 false _ A8.out).mono ?_); rintro e w' ⟨rfl, ⟨nd, rfl⟩⟩; (try first | exact ⟨rfl, _, World.drewN_drewN _ _ _⟩ | exact ⟨rfl, _, Eq.trans (World.drewN_drewN _ _ _) (congrArg (World.drewN _) (Nat.add_assoc _ _ _))⟩))); try go_wp2_with (first | (go_at_call 61; (with_reducible refine (spec_l1In.calls ((rd_T55 l0 a1).f0) 1 9 false _ A8.out).mono ?_); rintro e w' ⟨rfl, ⟨nd, rfl⟩⟩; (try first | exact ⟨rfl, _, World.drewN_drewN _ _ _⟩ | exact ⟨rfl, _, Eq.trans (World.drewN_drewN _ _ _) (congrArg (World.drewN _) (Nat.add_assoc _ _ _))⟩))))
      go_meet
      case rel => exact ⟨_, (true), (by first | rfl | (simp; done) | (simp [*]; done)), H', ⟨by first | omega | exact Nat.le_refl _⟩, ⟨by (with_reducible repeat (first | refine blk_drewN ?_ _ | refine blk_drew ?_ | refine blk_alloc ?_ _)); refine blk_put (cs := #[.int .i64 ((rd_T55 l0 a1).f0), .string ((rd_T55 l0 a1).f1), .int .i64 ((rd_T55 l0 a1).f2), .int .i64 0]) ?_ 3 _ rfl; (with_reducible repeat (first | refine blk_drewN ?_ _ | refine blk_drew ?_ | refine blk_alloc ?_ _)); refine blk_put (cs := #[.int .i64 ((rd_T55 l0 a1).f0), .string ((rd_T55 l0 a1).f1), .int .i64 0, .int .i64 0]) ?_ 2 _ rfl; (with_reducible repeat (first | refine blk_drewN ?_ _ | refine blk_drew ?_ | refine blk_alloc ?_ _)); refine blk_put (cs := #[.int .i64 ((rd_T55 l0 a1).f0), .string (⟨#[]⟩ : ByteArray), .int .i64 0, .int .i64 0]) ?_ 1 _ rfl; (with_reducible repeat (first | refine blk_drewN ?_ _ | refine blk_drew ?_ | refine blk_alloc ?_ _)); refine blk_put (cs := #[.int .i64 0, .string (⟨#[]⟩ : ByteArray), .int .i64 0, .int .i64 0]) ?_ 0 _ rfl; (with_reducible repeat (first | refine blk_drewN ?_ _ | refine blk_drew ?_ | refine blk_alloc ?_ _)); exact BK107.out⟩, ⟨by repeat (first | (with_reducible first | exact HB.out | apply below_alloc | apply pw_below_drewN | apply below_drew1 | refine below_set ?_ GE107.out) | exact HB.out)⟩⟩
    case rest =>
     clear HC5; try clear c1
     try clear p1
     try clear q1
     try clear hx1
     try clear p2
     try clear c3
     try clear c3b0
     try clear c4
     try clear c4b0
     try clear c6
     try clear c9
     try clear p10
     try clear q10
     try clear hx10
     try clear c11
     try clear c11b0
     try clear c11b1
     try clear c12
     try clear c15
     try clear hcz13_0
     try clear hcz13_1
     try clear hcz13_2
     try clear hcz13_3
     try clear hcz14_0
     try clear hcz14_1
     try clear hcz14_2
     try clear hcz14_3
     try clear hcz16_0
     try clear hcz16_1
     try clear hcz16_2
     try clear hcz16_3
     try clear hcz17_0
     try clear hcz17_1
     try clear hcz17_2
     try clear hcz17_3
     try clear hcz18_0
     try clear hcz18_1
     try clear hcz18_2
     try clear hcz18_3
     try clear hcz7_0
     try clear hcz7_1
     try clear hcz7_2
     try clear hcz7_3
     try clear hfz13_0
     try clear hfz13_1
     try clear hfz13_2
     try clear hfz13_3
     try clear hfz14_0
     try clear hfz14_1
     try clear hfz14_2
     try clear hfz14_3
     try clear hfz16_0
     try clear hfz16_1
     try clear hfz16_2
     try clear hfz16_3
     try clear hfz17_0
     try clear hfz17_1
     try clear hfz17_2
     try clear hfz17_3
     try clear hfz18_0
     try clear hfz18_1
     try clear hfz18_2
     try clear hfz18_3
     try clear hfz7_0
     try clear hfz7_1
     try clear hfz7_2
     try clear hfz7_3
     try clear hx106_0
     try clear hx106_1
     try clear hx106_2
     try clear hx106_3
     try clear p106
     try clear q106
     obtain ⟨kq, x33_4, rfl, HA, HJ4, BK107, HB⟩ := hcut
     cases kq with
     | zero => exact absurd HA.out (by simp [spec_l15Ok.j0])
     | succ kj4 =>
      have H := HA.out; clear HA; simp only [spec_l15Ok.j0] at H; by_cases c19 : x33_4 = true
      ·subst c19; have H1 : (some false) = some r := by rw [if_pos rfl] at H; exact H
       clear H; have H := H1; clear H1; obtain rfl := Option.some.inj H; go_wp2
       repeat (go_quiet (fail); try go_wp2)
       go_ret
       exact ⟨by first | rfl | (simp [errW_none, errW_some] <;> rfl) | (simp [*, errW_none, errW_some] <;> rfl), by repeat (first | (with_reducible first | exact HB.out | apply below_alloc | apply pw_below_drewN | apply below_drew1 | refine below_set ?_ GE107.out) | exact HB.out)⟩
      ·replace c19 := Bool.eq_false_iff.mpr c19; subst c19; have H1 : (if ((rd_T55 l0 a1).f0) = 4 then (spec_l15Ok.j1 kj4 l0 a1 true ((rd_T55 l0 a1).f0) ((rd_T55 l0 a1).f1) ((rd_T55 l0 a1).f2) ((rd_T55 l0 a1).f3)) else (spec_l15Ok.j1 kj4 l0 a1 (((rd_T55 l0 a1).f0) == 5) ((rd_T55 l0 a1).f0) ((rd_T55 l0 a1).f1) ((rd_T55 l0 a1).f2) ((rd_T55 l0 a1).f3))) = some r := by rw [if_neg (show ¬ (false = true) by decide)] at H; exact H
       clear H; have H := H1; clear H1; have HC20 := Aside0.mk H; clear H; go_upto_region 4 with (fail)
       repeat (go_quiet (fail); go_upto_region 4 with (fail))
       go_cut [6] (fun v6 wc => ∃ (kq : Nat) (x6_19 : Bool), v6 = .bool x6_19 ∧ Aside0 (spec_l15Ok.j1 kq l0 a1 x6_19 ((rd_T55 l0 a1).f0) ((rd_T55 l0 a1).f1) ((rd_T55 l0 a1).f2) ((rd_T55 l0 a1).f3) = some r) ∧ Aside0 (kq ≤ kj4) ∧ Aside0 (wc.heap[gb107]? = some (.cells #[.int .i64 ((rd_T55 l0 a1).f0), .string ((rd_T55 l0 a1).f1), .int .i64 ((rd_T55 l0 a1).f2), .int .i64 ((rd_T55 l0 a1).f3)] 55 (0, 0))) ∧ Aside0 (Below w.heap.size w wc))
       case first =>
        have H := HC20.out; clear HC20; by_cases c21 : ((rd_T55 l0 a1).f0) = 4
        ·rw [if_pos c21] at H
         have c21b0 : (((rd_T55 l0 a1).f0) == 4) = true := beq_iff_eq.mpr c21; have c21b1 : (((rd_T55 l0 a1).f0) != 4) = false := bne_eq_false_iff_eq.mpr c21; clear c21; (first | rw [c21b0] | (simp only [i64_w, i32_w]; rw [c21b0]) | skip)
         have H' := Aside0.mk H
         clear H; have hcz22_0 : wc.cell? ⟨gb107, 0, none⟩ = some (.int .i64 ((rd_T55 l0 a1).f0)) := (blk_cell BK107.out 0).trans rfl; have hcz22_1 : wc.cell? ⟨gb107, 1, none⟩ = some (.string ((rd_T55 l0 a1).f1)) := (blk_cell BK107.out 1).trans rfl; have hcz22_2 : wc.cell? ⟨gb107, 2, none⟩ = some (.int .i64 ((rd_T55 l0 a1).f2)) := (blk_cell BK107.out 2).trans rfl; have hcz22_3 : wc.cell? ⟨gb107, 3, none⟩ = some (.int .i64 ((rd_T55 l0 a1).f3)) := (blk_cell BK107.out 3).trans rfl; have hfz22_0 := blk_frozen BK107.out 0; have hfz22_1 := blk_frozen BK107.out 1; have hfz22_2 := blk_frozen BK107.out 2; have hfz22_3 := blk_frozen BK107.out 3; go_wp2
         repeat (go_quiet (fail); try go_wp2)
         go_meet
         case rel => exact ⟨_, (true), (by first | rfl | (simp; done) | (simp [*]; done)), H', ⟨by have := HJ4.out; first | omega | exact Nat.le_refl _⟩, ⟨by (with_reducible repeat (first | refine blk_drewN ?_ _ | refine blk_drew ?_ | refine blk_alloc ?_ _)); exact BK107.out⟩, ⟨by repeat (first | (with_reducible first | exact HB.out | apply below_alloc | apply pw_below_drewN | apply below_drew1 | refine below_set ?_ GE107.out) | exact HB.out)⟩⟩
        ·rw [if_neg c21] at H
         have c21b0 : (((rd_T55 l0 a1).f0) == 4) = false := beq_eq_false_iff_ne.mpr c21; have c21b1 : (((rd_T55 l0 a1).f0) != 4) = true := bne_iff_ne.mpr c21; (first | rw [c21b0] | (simp only [i64_w, i32_w]; rw [c21b0]) | skip)
         have H' := Aside0.mk H
         clear H; have hcz23_0 : wc.cell? ⟨gb107, 0, none⟩ = some (.int .i64 ((rd_T55 l0 a1).f0)) := (blk_cell BK107.out 0).trans rfl; have hcz23_1 : wc.cell? ⟨gb107, 1, none⟩ = some (.string ((rd_T55 l0 a1).f1)) := (blk_cell BK107.out 1).trans rfl; have hcz23_2 : wc.cell? ⟨gb107, 2, none⟩ = some (.int .i64 ((rd_T55 l0 a1).f2)) := (blk_cell BK107.out 2).trans rfl; have hcz23_3 : wc.cell? ⟨gb107, 3, none⟩ = some (.int .i64 ((rd_T55 l0 a1).f3)) := (blk_cell BK107.out 3).trans rfl; have hfz23_0 := blk_frozen BK107.out 0; have hfz23_1 := blk_frozen BK107.out 1; have hfz23_2 := blk_frozen BK107.out 2; have hfz23_3 := blk_frozen BK107.out 3; go_wp2
         repeat (go_quiet (fail); try go_wp2)
         go_meet
         case rel => exact ⟨_, ((((rd_T55 l0 a1).f0) == 5)), (by first | rfl | (simp; done) | (simp [*]; done)), H', ⟨by have := HJ4.out; first | omega | exact Nat.le_refl _⟩, ⟨by (with_reducible repeat (first | refine blk_drewN ?_ _ | refine blk_drew ?_ | refine blk_alloc ?_ _)); exact BK107.out⟩, ⟨by repeat (first | (with_reducible first | exact HB.out | apply below_alloc | apply pw_below_drewN | apply below_drew1 | refine below_set ?_ GE107.out) | exact HB.out)⟩⟩
       case rest =>
        clear HC20; try clear c1
        try clear p1
        try clear q1
        try clear hx1
        try clear c2
        try clear p2
        try clear c3
        try clear c3b0
        try clear c4
        try clear c4b0
        try clear c6
        try clear c9
        try clear p10
        try clear q10
        try clear hx10
        try clear c11
        try clear c11b0
        try clear c11b1
        try clear c12
        try clear c15
        try clear c19
        try clear c21
        try clear c21b0
        try clear c21b1
        try clear hcz13_0
        try clear hcz13_1
        try clear hcz13_2
        try clear hcz13_3
        try clear hcz14_0
        try clear hcz14_1
        try clear hcz14_2
        try clear hcz14_3
        try clear hcz16_0
        try clear hcz16_1
        try clear hcz16_2
        try clear hcz16_3
        try clear hcz17_0
        try clear hcz17_1
        try clear hcz17_2
        try clear hcz17_3
        try clear hcz18_0
        try clear hcz18_1
        try clear hcz18_2
        try clear hcz18_3
        try clear hcz22_0
        try clear hcz22_1
        try clear hcz22_2
        try clear hcz22_3
        try clear hcz23_0
        try clear hcz23_1
        try clear hcz23_2
        try clear hcz23_3
        try clear hcz7_0
        try clear hcz7_1
        try clear hcz7_2
        try clear hcz7_3
        try clear hfz13_0
        try clear hfz13_1
        try clear hfz13_2
        try clear hfz13_3
        try clear hfz14_0
        try clear hfz14_1
        try clear hfz14_2
        try clear hfz14_3
        try clear hfz16_0
        try clear hfz16_1
        try clear hfz16_2
        try clear hfz16_3
        try clear hfz17_0
        try clear hfz17_1
        try clear hfz17_2
        try clear hfz17_3
        try clear hfz18_0
        try clear hfz18_1
        try clear hfz18_2
        try clear hfz18_3
        try clear hfz22_0
        try clear hfz22_1
        try clear hfz22_2
        try clear hfz22_3
        try clear hfz23_0
        try clear hfz23_1
        try clear hfz23_2
        try clear hfz23_3
        try clear hfz7_0
        try clear hfz7_1
        try clear hfz7_2
        try clear hfz7_3
        try clear hx106_0
        try clear hx106_1
        try clear hx106_2
        try clear hx106_3
        try clear p1
        try clear p10
        try clear p106
        try clear p2
        try clear q1
        try clear q10
        try clear q106
        obtain ⟨kq, x6_19, rfl, HA, HJ19, BK107, HB⟩ := hcut
        cases kq with
        | zero => exact absurd HA.out (by simp [spec_l15Ok.j1])
        | succ kj19 =>
         have H := HA.out; clear HA; simp only [spec_l15Ok.j1] at H; by_cases c24 : ((rd_T55 l0 a1).f0) = 1
         ·rw [if_pos c24] at H
          have c24b0 : (((rd_T55 l0 a1).f0) == 1) = true := beq_iff_eq.mpr c24; have c24b1 : (((rd_T55 l0 a1).f0) != 1) = false := bne_eq_false_iff_eq.mpr c24; clear c24; by_cases c25 : ((rd_T55 l0 a1).f2) = 0
          ·rw [if_pos c25] at H
           have c25b0 : (((rd_T55 l0 a1).f2) == 0) = true := beq_iff_eq.mpr c25; have c25b1 : (((rd_T55 l0 a1).f2) != 0) = false := bne_eq_false_iff_eq.mpr c25; clear c25; obtain rfl := Option.some.inj H; have hcz26_0 : wc.cell? ⟨gb107, 0, none⟩ = some (.int .i64 ((rd_T55 l0 a1).f0)) := (blk_cell BK107.out 0).trans rfl; have hcz26_1 : wc.cell? ⟨gb107, 1, none⟩ = some (.string ((rd_T55 l0 a1).f1)) := (blk_cell BK107.out 1).trans rfl; have hcz26_2 : wc.cell? ⟨gb107, 2, none⟩ = some (.int .i64 ((rd_T55 l0 a1).f2)) := (blk_cell BK107.out 2).trans rfl; have hcz26_3 : wc.cell? ⟨gb107, 3, none⟩ = some (.int .i64 ((rd_T55 l0 a1).f3)) := (blk_cell BK107.out 3).trans rfl; have hfz26_0 := blk_frozen BK107.out 0; have hfz26_1 := blk_frozen BK107.out 1; have hfz26_2 := blk_frozen BK107.out 2; have hfz26_3 := blk_frozen BK107.out 3; go_wp2
           repeat (go_quiet (fail); try go_wp2)
           go_ret
           exact ⟨by first | rfl | (simp [errW_none, errW_some] <;> rfl) | (simp [*, errW_none, errW_some] <;> rfl), by repeat (first | (with_reducible first | exact HB.out | apply below_alloc | apply pw_below_drewN | apply below_drew1 | refine below_set ?_ GE107.out) | exact HB.out)⟩
          ·rw [if_neg c25] at H
           have c25b0 : (((rd_T55 l0 a1).f2) == 0) = false := beq_eq_false_iff_ne.mpr c25; have c25b1 : (((rd_T55 l0 a1).f2) != 0) = true := bne_iff_ne.mpr c25; obtain rfl := Option.some.inj H; have hcz27_0 : wc.cell? ⟨gb107, 0, none⟩ = some (.int .i64 ((rd_T55 l0 a1).f0)) := (blk_cell BK107.out 0).trans rfl; have hcz27_1 : wc.cell? ⟨gb107, 1, none⟩ = some (.string ((rd_T55 l0 a1).f1)) := (blk_cell BK107.out 1).trans rfl; have hcz27_2 : wc.cell? ⟨gb107, 2, none⟩ = some (.int .i64 ((rd_T55 l0 a1).f2)) := (blk_cell BK107.out 2).trans rfl; have hcz27_3 : wc.cell? ⟨gb107, 3, none⟩ = some (.int .i64 ((rd_T55 l0 a1).f3)) := (blk_cell BK107.out 3).trans rfl; have hfz27_0 := blk_frozen BK107.out 0; have hfz27_1 := blk_frozen BK107.out 1; have hfz27_2 := blk_frozen BK107.out 2; have hfz27_3 := blk_frozen BK107.out 3; go_wp2
           repeat (go_quiet (fail); try go_wp2)
           go_ret
           exact ⟨by first | rfl | (simp [errW_none, errW_some] <;> rfl) | (simp [*, errW_none, errW_some] <;> rfl), by repeat (first | (with_reducible first | exact HB.out | apply below_alloc | apply pw_below_drewN | apply below_drew1 | refine below_set ?_ GE107.out) | exact HB.out)⟩
         ·rw [if_neg c24] at H
          have c24b0 : (((rd_T55 l0 a1).f0) == 1) = false := beq_eq_false_iff_ne.mpr c24; have c24b1 : (((rd_T55 l0 a1).f0) != 1) = true := bne_iff_ne.mpr c24; replace H := Option.bind_eq_some_iff.mp H; obtain ⟨t110, A280, H⟩ := H; replace H : (if t110 = true then (if x6_19 = true then ((spec_l1In.f ((rd_T55 l0 a1).f3) 0 (wrap64 (a1 - 1))).bind fun t111 => (if t111 = true then (some true) else (some false))) else (if ((rd_T55 l0 a1).f3) = 0 then (if ((rd_T55 l0 a1).f0) = 2 then (some true) else (if 0 ≤ ((rd_T55 l0 a1).f2) then (if ((rd_T55 l0 a1).f2) < (l0.length : Int) then (some (((rd_T55 l0 ((rd_T55 l0 a1).f2)).f0) == 1)) else (none)) else (none))) else (some false))) else (some false)) = some r := H; have A28 := Aside0.mk A280; clear A280; by_cases c29 : t110 = true
          ·subst c29; have H1 : (if x6_19 = true then ((spec_l1In.f ((rd_T55 l0 a1).f3) 0 (wrap64 (a1 - 1))).bind fun t111 => (if t111 = true then (some true) else (some false))) else (if ((rd_T55 l0 a1).f3) = 0 then (if ((rd_T55 l0 a1).f0) = 2 then (some true) else (if 0 ≤ ((rd_T55 l0 a1).f2) then (if ((rd_T55 l0 a1).f2) < (l0.length : Int) then (some (((rd_T55 l0 ((rd_T55 l0 a1).f2)).f0) == 1)) else (none)) else (none))) else (some false))) = some r := by rw [if_pos rfl] at H; exact H
           clear H; have H := H1; clear H1; by_cases c30 : x6_19 = true
           ·subst c30; have H1 : ((spec_l1In.f ((rd_T55 l0 a1).f3) 0 (wrap64 (a1 - 1))).bind fun t111 => (if t111 = true then (some true) else (some false))) = some r := by rw [if_pos rfl] at H; exact H
            clear H; have H := H1; clear H1; replace H := Option.bind_eq_some_iff.mp H; obtain ⟨t111, A310, H⟩ := H; replace H : (if t111 = true then (some true) else (some false)) = some r := H; have A31 := Aside0.mk A310; clear A310; by_cases c32 : t111 = true
            ·subst c32; have H1 : (some true) = some r := by rw [if_pos rfl] at H; exact H
             clear H; have H := H1; clear H1; obtain rfl := Option.some.inj H; have hcz33_0 : wc.cell? ⟨gb107, 0, none⟩ = some (.int .i64 ((rd_T55 l0 a1).f0)) := (blk_cell BK107.out 0).trans rfl; have hcz33_1 : wc.cell? ⟨gb107, 1, none⟩ = some (.string ((rd_T55 l0 a1).f1)) := (blk_cell BK107.out 1).trans rfl; have hcz33_2 : wc.cell? ⟨gb107, 2, none⟩ = some (.int .i64 ((rd_T55 l0 a1).f2)) := (blk_cell BK107.out 2).trans rfl; have hcz33_3 : wc.cell? ⟨gb107, 3, none⟩ = some (.int .i64 ((rd_T55 l0 a1).f3)) := (blk_cell BK107.out 3).trans rfl; have hfz33_0 := blk_frozen BK107.out 0; have hfz33_1 := blk_frozen BK107.out 1; have hfz33_2 := blk_frozen BK107.out 2; have hfz33_3 := blk_frozen BK107.out 3; go_wp2_with (first | (go_at_call 61; (with_reducible refine (spec_l1In.calls ((rd_T55 l0 a1).f2) 0 (wrap64 (a1 - 1)) true _ A28.out).mono ?_); rintro e w' ⟨rfl, ⟨nd, rfl⟩⟩; (try first | exact ⟨rfl, _, World.drewN_drewN _ _ _⟩ | exact ⟨rfl, _, Eq.trans (World.drewN_drewN _ _ _) (congrArg (World.drewN _) (Nat.add_assoc _ _ _))⟩)) | (go_at_call 61; (with_reducible refine (spec_l1In.calls ((rd_T55 l0 a1).f3) 0 (wrap64 (a1 - 1)) true _ A31.out).mono ?_); rintro e w' ⟨rfl, ⟨nd, rfl⟩⟩; (try first | exact ⟨rfl, _, World.drewN_drewN _ _ _⟩ | exact ⟨rfl, _, Eq.trans (World.drewN_drewN _ _ _) (congrArg (World.drewN _) (Nat.add_assoc _ _ _))⟩)))
             repeat (go_quiet (first | (go_at_call 61; (with_reducible refine (spec_l1In.calls ((rd_T55 l0 a1).f2) 0 (wrap64 (a1 - 1)) true _ A28.out).mono ?_); rintro e w' ⟨rfl, ⟨nd, rfl⟩⟩; (try first | exact ⟨rfl, _, World.drewN_drewN _ _ _⟩ | exact ⟨rfl, _, Eq.trans (World.drewN_drewN _ _ _) (congrArg (World.drewN _) (Nat.add_assoc _ _ _))⟩)) | (go_at_call 61; (with_reducible refine (spec_l1In.calls ((rd_T55 l0 a1).f3) 0 (wrap64 (a1 - 1)) true _ A31.out).mono ?_); rintro e w' ⟨rfl, ⟨nd, rfl⟩⟩; (try first | exact ⟨rfl, _, World.drewN_drewN _ _ _⟩ | exact ⟨rfl, _, Eq.trans (World.drewN_drewN _ _ _) (congrArg (World.drewN _) (Nat.add_assoc _ _ _))⟩))); try go_wp2_with (first | (go_at_call 61; (with_reducible refine (spec_l1In.calls ((rd_T55 l0 a1).f2) 0 (wrap64 (a1 - 1)) true _ A28.out).mono ?_); rintro e w' ⟨rfl, ⟨nd, rfl⟩⟩; (try first | exact ⟨rfl, _, World.drewN_drewN _ _ _⟩ | exact ⟨rfl, _, Eq.trans (World.drewN_drewN _ _ _) (congrArg (World.drewN _) (Nat.add_assoc _ _ _))⟩)) | (go_at_call 61; (with_reducible refine (spec_l1In.calls ((rd_T55 l0 a1).f3) 0 (wrap64 (a1 - 1)) true _ A31.out).mono ?_); rintro e w' ⟨rfl, ⟨nd, rfl⟩⟩; (try first | exact ⟨rfl, _, World.drewN_drewN _ _ _⟩ | exact ⟨rfl, _, Eq.trans (World.drewN_drewN _ _ _) (congrArg (World.drewN _) (Nat.add_assoc _ _ _))⟩))))
             go_ret
             exact ⟨by first | rfl | (simp [errW_none, errW_some] <;> rfl) | (simp [*, errW_none, errW_some] <;> rfl), by repeat (first | (with_reducible first | exact HB.out | apply below_alloc | apply pw_below_drewN | apply below_drew1 | refine below_set ?_ GE107.out) | exact HB.out)⟩
            ·replace c32 := Bool.eq_false_iff.mpr c32; subst c32; have H1 : (some false) = some r := by rw [if_neg (show ¬ (false = true) by decide)] at H; exact H
             clear H; have H := H1; clear H1; obtain rfl := Option.some.inj H; have hcz34_0 : wc.cell? ⟨gb107, 0, none⟩ = some (.int .i64 ((rd_T55 l0 a1).f0)) := (blk_cell BK107.out 0).trans rfl; have hcz34_1 : wc.cell? ⟨gb107, 1, none⟩ = some (.string ((rd_T55 l0 a1).f1)) := (blk_cell BK107.out 1).trans rfl; have hcz34_2 : wc.cell? ⟨gb107, 2, none⟩ = some (.int .i64 ((rd_T55 l0 a1).f2)) := (blk_cell BK107.out 2).trans rfl; have hcz34_3 : wc.cell? ⟨gb107, 3, none⟩ = some (.int .i64 ((rd_T55 l0 a1).f3)) := (blk_cell BK107.out 3).trans rfl; have hfz34_0 := blk_frozen BK107.out 0; have hfz34_1 := blk_frozen BK107.out 1; have hfz34_2 := blk_frozen BK107.out 2; have hfz34_3 := blk_frozen BK107.out 3; go_wp2_with (first | (go_at_call 61; (with_reducible refine (spec_l1In.calls ((rd_T55 l0 a1).f2) 0 (wrap64 (a1 - 1)) true _ A28.out).mono ?_); rintro e w' ⟨rfl, ⟨nd, rfl⟩⟩; (try first | exact ⟨rfl, _, World.drewN_drewN _ _ _⟩ | exact ⟨rfl, _, Eq.trans (World.drewN_drewN _ _ _) (congrArg (World.drewN _) (Nat.add_assoc _ _ _))⟩)) | (go_at_call 61; (with_reducible refine (spec_l1In.calls ((rd_T55 l0 a1).f3) 0 (wrap64 (a1 - 1)) false _ A31.out).mono ?_); rintro e w' ⟨rfl, ⟨nd, rfl⟩⟩; (try first | exact ⟨rfl, _, World.drewN_drewN _ _ _⟩ | exact ⟨rfl, _, Eq.trans (World.drewN_drewN _ _ _) (congrArg (World.drewN _) (Nat.add_assoc _ _ _))⟩)))
             repeat (go_quiet (first | (go_at_call 61; (with_reducible refine (spec_l1In.calls ((rd_T55 l0 a1).f2) 0 (wrap64 (a1 - 1)) true _ A28.out).mono ?_); rintro e w' ⟨rfl, ⟨nd, rfl⟩⟩; (try first | exact ⟨rfl, _, World.drewN_drewN _ _ _⟩ | exact ⟨rfl, _, Eq.trans (World.drewN_drewN _ _ _) (congrArg (World.drewN _) (Nat.add_assoc _ _ _))⟩)) | (go_at_call 61; (with_reducible refine (spec_l1In.calls ((rd_T55 l0 a1).f3) 0 (wrap64 (a1 - 1)) false _ A31.out).mono ?_); rintro e w' ⟨rfl, ⟨nd, rfl⟩⟩; (try first | exact ⟨rfl, _, World.drewN_drewN _ _ _⟩ | exact ⟨rfl, _, Eq.trans (World.drewN_drewN _ _ _) (congrArg (World.drewN _) (Nat.add_assoc _ _ _))⟩))); try go_wp2_with (first | (go_at_call 61; (with_reducible refine (spec_l1In.calls ((rd_T55 l0 a1).f2) 0 (wrap64 (a1 - 1)) true _ A28.out).mono ?_); rintro e w' ⟨rfl, ⟨nd, rfl⟩⟩; (try first | exact ⟨rfl, _, World.drewN_drewN _ _ _⟩ | exact ⟨rfl, _, Eq.trans (World.drewN_drewN _ _ _) (congrArg (World.drewN _) (Nat.add_assoc _ _ _))⟩)) | (go_at_call 61; (with_reducible refine (spec_l1In.calls ((rd_T55 l0 a1).f3) 0 (wrap64 (a1 - 1)) false _ A31.out).mono ?_); rintro e w' ⟨rfl, ⟨nd, rfl⟩⟩; (try first | exact ⟨rfl, _, World.drewN_drewN _ _ _⟩ | exact ⟨rfl, _, Eq.trans (World.drewN_drewN _ _ _) (congrArg (World.drewN _) (Nat.add_assoc _ _ _))⟩))))
             go_ret
             exact ⟨by first | rfl | (simp [errW_none, errW_some] <;> rfl) | (simp [*, errW_none, errW_some] <;> rfl), by repeat (first | (with_reducible first | exact HB.out | apply below_alloc | apply pw_below_drewN | apply below_drew1 | refine below_set ?_ GE107.out) | exact HB.out)⟩
           ·replace c30 := Bool.eq_false_iff.mpr c30; subst c30; have H1 : (if ((rd_T55 l0 a1).f3) = 0 then (if ((rd_T55 l0 a1).f0) = 2 then (some true) else (if 0 ≤ ((rd_T55 l0 a1).f2) then (if ((rd_T55 l0 a1).f2) < (l0.length : Int) then (some (((rd_T55 l0 ((rd_T55 l0 a1).f2)).f0) == 1)) else (none)) else (none))) else (some false)) = some r := by rw [if_neg (show ¬ (false = true) by decide)] at H; exact H
            clear H; have H := H1; clear H1; by_cases c35 : ((rd_T55 l0 a1).f3) = 0
            ·rw [if_pos c35] at H
             have c35b0 : (((rd_T55 l0 a1).f3) == 0) = true := beq_iff_eq.mpr c35; have c35b1 : (((rd_T55 l0 a1).f3) != 0) = false := bne_eq_false_iff_eq.mpr c35; clear c35; by_cases c36 : ((rd_T55 l0 a1).f0) = 2
             ·rw [if_pos c36] at H
              have c36b0 : (((rd_T55 l0 a1).f0) == 2) = true := beq_iff_eq.mpr c36; have c36b1 : (((rd_T55 l0 a1).f0) != 2) = false := bne_eq_false_iff_eq.mpr c36; clear c36; obtain rfl := Option.some.inj H; have hcz37_0 : wc.cell? ⟨gb107, 0, none⟩ = some (.int .i64 ((rd_T55 l0 a1).f0)) := (blk_cell BK107.out 0).trans rfl; have hcz37_1 : wc.cell? ⟨gb107, 1, none⟩ = some (.string ((rd_T55 l0 a1).f1)) := (blk_cell BK107.out 1).trans rfl; have hcz37_2 : wc.cell? ⟨gb107, 2, none⟩ = some (.int .i64 ((rd_T55 l0 a1).f2)) := (blk_cell BK107.out 2).trans rfl; have hcz37_3 : wc.cell? ⟨gb107, 3, none⟩ = some (.int .i64 ((rd_T55 l0 a1).f3)) := (blk_cell BK107.out 3).trans rfl; have hfz37_0 := blk_frozen BK107.out 0; have hfz37_1 := blk_frozen BK107.out 1; have hfz37_2 := blk_frozen BK107.out 2; have hfz37_3 := blk_frozen BK107.out 3; go_wp2_with (first | (go_at_call 61; (with_reducible refine (spec_l1In.calls ((rd_T55 l0 a1).f2) 0 (wrap64 (a1 - 1)) true _ A28.out).mono ?_); rintro e w' ⟨rfl, ⟨nd, rfl⟩⟩; (try first | exact ⟨rfl, _, World.drewN_drewN _ _ _⟩ | exact ⟨rfl, _, Eq.trans (World.drewN_drewN _ _ _) (congrArg (World.drewN _) (Nat.add_assoc _ _ _))⟩)))
              repeat (go_quiet (first | (go_at_call 61; (with_reducible refine (spec_l1In.calls ((rd_T55 l0 a1).f2) 0 (wrap64 (a1 - 1)) true _ A28.out).mono ?_); rintro e w' ⟨rfl, ⟨nd, rfl⟩⟩; (try first | exact ⟨rfl, _, World.drewN_drewN _ _ _⟩ | exact ⟨rfl, _, Eq.trans (World.drewN_drewN _ _ _) (congrArg (World.drewN _) (Nat.add_assoc _ _ _))⟩))); try go_wp2_with (first | (go_at_call 61; (with_reducible refine (spec_l1In.calls ((rd_T55 l0 a1).f2) 0 (wrap64 (a1 - 1)) true _ A28.out).mono ?_); rintro e w' ⟨rfl, ⟨nd, rfl⟩⟩; (try first | exact ⟨rfl, _, World.drewN_drewN _ _ _⟩ | exact ⟨rfl, _, Eq.trans (World.drewN_drewN _ _ _) (congrArg (World.drewN _) (Nat.add_assoc _ _ _))⟩))))
              go_ret
              exact ⟨by first | rfl | (simp [errW_none, errW_some] <;> rfl) | (simp [*, errW_none, errW_some] <;> rfl), by repeat (first | (with_reducible first | exact HB.out | apply below_alloc | apply pw_below_drewN | apply below_drew1 | refine below_set ?_ GE107.out) | exact HB.out)⟩
             ·rw [if_neg c36] at H
              have c36b0 : (((rd_T55 l0 a1).f0) == 2) = false := beq_eq_false_iff_ne.mpr c36; have c36b1 : (((rd_T55 l0 a1).f0) != 2) = true := bne_iff_ne.mpr c36; by_cases c38 : 0 ≤ ((rd_T55 l0 a1).f2)
              ·rw [if_pos c38] at H
               have c38b0 : decide (0 ≤ ((rd_T55 l0 a1).f2)) = true := decide_eq_true c38; clear c38; by_cases c39 : ((rd_T55 l0 a1).f2) < (l0.length : Int)
               ·rw [if_pos c39] at H
                have c39b0 : decide (((rd_T55 l0 a1).f2) < (l0.length : Int)) = true := decide_eq_true c39; clear c39; obtain rfl := Option.some.inj H; have hcz40_0 : wc.cell? ⟨gb107, 0, none⟩ = some (.int .i64 ((rd_T55 l0 a1).f0)) := (blk_cell BK107.out 0).trans rfl; have hcz40_1 : wc.cell? ⟨gb107, 1, none⟩ = some (.string ((rd_T55 l0 a1).f1)) := (blk_cell BK107.out 1).trans rfl; have hcz40_2 : wc.cell? ⟨gb107, 2, none⟩ = some (.int .i64 ((rd_T55 l0 a1).f2)) := (blk_cell BK107.out 2).trans rfl; have hcz40_3 : wc.cell? ⟨gb107, 3, none⟩ = some (.int .i64 ((rd_T55 l0 a1).f3)) := (blk_cell BK107.out 3).trans rfl; have hfz40_0 := blk_frozen BK107.out 0; have hfz40_1 := blk_frozen BK107.out 1; have hfz40_2 := blk_frozen BK107.out 2; have hfz40_3 := blk_frozen BK107.out 3; go_wp2_with (first | (go_at_call 61; (with_reducible refine (spec_l1In.calls ((rd_T55 l0 a1).f2) 0 (wrap64 (a1 - 1)) true _ A28.out).mono ?_); rintro e w' ⟨rfl, ⟨nd, rfl⟩⟩; (try first | exact ⟨rfl, _, World.drewN_drewN _ _ _⟩ | exact ⟨rfl, _, Eq.trans (World.drewN_drewN _ _ _) (congrArg (World.drewN _) (Nat.add_assoc _ _ _))⟩); have p112 : 0 ≤ (((rd_T55 l0 a1).f2) : Int) := of_decide_eq_true (by first | (with_reducible assumption) | assumption); have q112 : ((rd_T55 l0 a1).f2) < (l0.length : Int) := of_decide_eq_true (by first | (with_reducible assumption) | assumption); obtain ⟨ad112, e112, hx112_0, hx112_1, hx112_2, hx112_3⟩ := at_T55 HR0.out ((rd_T55 l0 a1).f2) p112 q112; obtain rfl : ad106 = ad112 := (by injection e112); replace hx112_0 := (HB.out.cell (World.block_lt_of_cell? w _ hx112_0)).trans hx112_0; replace hx112_1 := (HB.out.cell (World.block_lt_of_cell? w _ hx112_1)).trans hx112_1; replace hx112_2 := (HB.out.cell (World.block_lt_of_cell? w _ hx112_2)).trans hx112_2; replace hx112_3 := (HB.out.cell (World.block_lt_of_cell? w _ hx112_3)).trans hx112_3; replace p112 := eq_true p112; replace q112 := eq_true q112))
                repeat (go_quiet (first | (go_at_call 61; (with_reducible refine (spec_l1In.calls ((rd_T55 l0 a1).f2) 0 (wrap64 (a1 - 1)) true _ A28.out).mono ?_); rintro e w' ⟨rfl, ⟨nd, rfl⟩⟩; (try first | exact ⟨rfl, _, World.drewN_drewN _ _ _⟩ | exact ⟨rfl, _, Eq.trans (World.drewN_drewN _ _ _) (congrArg (World.drewN _) (Nat.add_assoc _ _ _))⟩); have p112 : 0 ≤ (((rd_T55 l0 a1).f2) : Int) := of_decide_eq_true (by first | (with_reducible assumption) | assumption); have q112 : ((rd_T55 l0 a1).f2) < (l0.length : Int) := of_decide_eq_true (by first | (with_reducible assumption) | assumption); obtain ⟨ad112, e112, hx112_0, hx112_1, hx112_2, hx112_3⟩ := at_T55 HR0.out ((rd_T55 l0 a1).f2) p112 q112; obtain rfl : ad106 = ad112 := (by injection e112); replace hx112_0 := (HB.out.cell (World.block_lt_of_cell? w _ hx112_0)).trans hx112_0; replace hx112_1 := (HB.out.cell (World.block_lt_of_cell? w _ hx112_1)).trans hx112_1; replace hx112_2 := (HB.out.cell (World.block_lt_of_cell? w _ hx112_2)).trans hx112_2; replace hx112_3 := (HB.out.cell (World.block_lt_of_cell? w _ hx112_3)).trans hx112_3; replace p112 := eq_true p112; replace q112 := eq_true q112)); try go_wp2_with (first | (go_at_call 61; (with_reducible refine (spec_l1In.calls ((rd_T55 l0 a1).f2) 0 (wrap64 (a1 - 1)) true _ A28.out).mono ?_); rintro e w' ⟨rfl, ⟨nd, rfl⟩⟩; (try first | exact ⟨rfl, _, World.drewN_drewN _ _ _⟩ | exact ⟨rfl, _, Eq.trans (World.drewN_drewN _ _ _) (congrArg (World.drewN _) (Nat.add_assoc _ _ _))⟩); have p112 : 0 ≤ (((rd_T55 l0 a1).f2) : Int) := of_decide_eq_true (by first | (with_reducible assumption) | assumption); have q112 : ((rd_T55 l0 a1).f2) < (l0.length : Int) := of_decide_eq_true (by first | (with_reducible assumption) | assumption); obtain ⟨ad112, e112, hx112_0, hx112_1, hx112_2, hx112_3⟩ := at_T55 HR0.out ((rd_T55 l0 a1).f2) p112 q112; obtain rfl : ad106 = ad112 := (by injection e112); replace hx112_0 := (HB.out.cell (World.block_lt_of_cell? w _ hx112_0)).trans hx112_0; replace hx112_1 := (HB.out.cell (World.block_lt_of_cell? w _ hx112_1)).trans hx112_1; replace hx112_2 := (HB.out.cell (World.block_lt_of_cell? w _ hx112_2)).trans hx112_2; replace hx112_3 := (HB.out.cell (World.block_lt_of_cell? w _ hx112_3)).trans hx112_3; replace p112 := eq_true p112; replace q112 := eq_true q112)))
                go_ret
                exact ⟨by first | rfl | (simp [errW_none, errW_some] <;> rfl) | (simp [*, errW_none, errW_some] <;> rfl), by repeat (first | (with_reducible first | exact HB.out | apply below_alloc | apply pw_below_drewN | apply below_drew1 | refine below_set ?_ GE107.out) | exact HB.out)⟩
               ·rw [if_neg c39] at H
                exact absurd H (by simp)
              ·rw [if_neg c38] at H
               exact absurd H (by simp)
            ·rw [if_neg c35] at H
             have c35b0 : (((rd_T55 l0 a1).f3) == 0) = false := beq_eq_false_iff_ne.mpr c35; have c35b1 : (((rd_T55 l0 a1).f3) != 0) = true := bne_iff_ne.mpr c35; obtain rfl := Option.some.inj H; have hcz41_0 : wc.cell? ⟨gb107, 0, none⟩ = some (.int .i64 ((rd_T55 l0 a1).f0)) := (blk_cell BK107.out 0).trans rfl; have hcz41_1 : wc.cell? ⟨gb107, 1, none⟩ = some (.string ((rd_T55 l0 a1).f1)) := (blk_cell BK107.out 1).trans rfl; have hcz41_2 : wc.cell? ⟨gb107, 2, none⟩ = some (.int .i64 ((rd_T55 l0 a1).f2)) := (blk_cell BK107.out 2).trans rfl; have hcz41_3 : wc.cell? ⟨gb107, 3, none⟩ = some (.int .i64 ((rd_T55 l0 a1).f3)) := (blk_cell BK107.out 3).trans rfl; have hfz41_0 := blk_frozen BK107.out 0; have hfz41_1 := blk_frozen BK107.out 1; have hfz41_2 := blk_frozen BK107.out 2; have hfz41_3 := blk_frozen BK107.out 3; go_wp2_with (first | (go_at_call 61; (with_reducible refine (spec_l1In.calls ((rd_T55 l0 a1).f2) 0 (wrap64 (a1 - 1)) true _ A28.out).mono ?_); rintro e w' ⟨rfl, ⟨nd, rfl⟩⟩; (try first | exact ⟨rfl, _, World.drewN_drewN _ _ _⟩ | exact ⟨rfl, _, Eq.trans (World.drewN_drewN _ _ _) (congrArg (World.drewN _) (Nat.add_assoc _ _ _))⟩)))
             repeat (go_quiet (first | (go_at_call 61; (with_reducible refine (spec_l1In.calls ((rd_T55 l0 a1).f2) 0 (wrap64 (a1 - 1)) true _ A28.out).mono ?_); rintro e w' ⟨rfl, ⟨nd, rfl⟩⟩; (try first | exact ⟨rfl, _, World.drewN_drewN _ _ _⟩ | exact ⟨rfl, _, Eq.trans (World.drewN_drewN _ _ _) (congrArg (World.drewN _) (Nat.add_assoc _ _ _))⟩))); try go_wp2_with (first | (go_at_call 61; (with_reducible refine (spec_l1In.calls ((rd_T55 l0 a1).f2) 0 (wrap64 (a1 - 1)) true _ A28.out).mono ?_); rintro e w' ⟨rfl, ⟨nd, rfl⟩⟩; (try first | exact ⟨rfl, _, World.drewN_drewN _ _ _⟩ | exact ⟨rfl, _, Eq.trans (World.drewN_drewN _ _ _) (congrArg (World.drewN _) (Nat.add_assoc _ _ _))⟩))))
             go_ret
             exact ⟨by first | rfl | (simp [errW_none, errW_some] <;> rfl) | (simp [*, errW_none, errW_some] <;> rfl), by repeat (first | (with_reducible first | exact HB.out | apply below_alloc | apply pw_below_drewN | apply below_drew1 | refine below_set ?_ GE107.out) | exact HB.out)⟩
          ·replace c29 := Bool.eq_false_iff.mpr c29; subst c29; have H1 : (some false) = some r := by rw [if_neg (show ¬ (false = true) by decide)] at H; exact H
           clear H; have H := H1; clear H1; obtain rfl := Option.some.inj H; have hcz42_0 : wc.cell? ⟨gb107, 0, none⟩ = some (.int .i64 ((rd_T55 l0 a1).f0)) := (blk_cell BK107.out 0).trans rfl; have hcz42_1 : wc.cell? ⟨gb107, 1, none⟩ = some (.string ((rd_T55 l0 a1).f1)) := (blk_cell BK107.out 1).trans rfl; have hcz42_2 : wc.cell? ⟨gb107, 2, none⟩ = some (.int .i64 ((rd_T55 l0 a1).f2)) := (blk_cell BK107.out 2).trans rfl; have hcz42_3 : wc.cell? ⟨gb107, 3, none⟩ = some (.int .i64 ((rd_T55 l0 a1).f3)) := (blk_cell BK107.out 3).trans rfl; have hfz42_0 := blk_frozen BK107.out 0; have hfz42_1 := blk_frozen BK107.out 1; have hfz42_2 := blk_frozen BK107.out 2; have hfz42_3 := blk_frozen BK107.out 3; go_wp2_with (first | (go_at_call 61; (with_reducible refine (spec_l1In.calls ((rd_T55 l0 a1).f2) 0 (wrap64 (a1 - 1)) false _ A28.out).mono ?_); rintro e w' ⟨rfl, ⟨nd, rfl⟩⟩; (try first | exact ⟨rfl, _, World.drewN_drewN _ _ _⟩ | exact ⟨rfl, _, Eq.trans (World.drewN_drewN _ _ _) (congrArg (World.drewN _) (Nat.add_assoc _ _ _))⟩)))
           repeat (go_quiet (first | (go_at_call 61; (with_reducible refine (spec_l1In.calls ((rd_T55 l0 a1).f2) 0 (wrap64 (a1 - 1)) false _ A28.out).mono ?_); rintro e w' ⟨rfl, ⟨nd, rfl⟩⟩; (try first | exact ⟨rfl, _, World.drewN_drewN _ _ _⟩ | exact ⟨rfl, _, Eq.trans (World.drewN_drewN _ _ _) (congrArg (World.drewN _) (Nat.add_assoc _ _ _))⟩))); try go_wp2_with (first | (go_at_call 61; (with_reducible refine (spec_l1In.calls ((rd_T55 l0 a1).f2) 0 (wrap64 (a1 - 1)) false _ A28.out).mono ?_); rintro e w' ⟨rfl, ⟨nd, rfl⟩⟩; (try first | exact ⟨rfl, _, World.drewN_drewN _ _ _⟩ | exact ⟨rfl, _, Eq.trans (World.drewN_drewN _ _ _) (congrArg (World.drewN _) (Nat.add_assoc _ _ _))⟩))))
           go_ret
           exact ⟨by first | rfl | (simp [errW_none, errW_some] <;> rfl) | (simp [*, errW_none, errW_some] <;> rfl), by repeat (first | (with_reducible first | exact HB.out | apply below_alloc | apply pw_below_drewN | apply below_drew1 | refine below_set ?_ GE107.out) | exact HB.out)⟩
   ·rw [if_neg c4] at H
    exact absurd H (by simp)
  ·rw [if_neg c3] at H
   exact absurd H (by simp)

/-! ### spec_IsPlay: function 52 -/
mutual
def spec_IsPlay.l0 : Nat → List (S55) → Int → Option (Bool)
  | 0, _, _ => none
  | k + 1, x0, x3 => if x3 < (x0.length : Int) then (spec_IsPlay.j1 k x0 x3 (decide ((x0.length : Int) ≤ 9))) else (spec_IsPlay.j1 k x0 x3 false)
def spec_IsPlay.j1 : Nat → List (S55) → Int → Bool → Option (Bool)
  | 0, _, _, _ => none
  | k + 1, x0, x3, x12 => if x12 = true then ((spec_l15Ok.f k x0 x3).bind fun t113 => (if t113 = true then (spec_IsPlay.l0 k x0 (wrap64 (x3 + 1))) else (some false))) else ((spec_l1In.f (x0.length : Int) 1 9).bind fun t114 => (some t114))
end
def spec_IsPlay.f (k : Nat) (l0 : List (S55)) : Option (Bool) := spec_IsPlay.l0 k l0 0
theorem spec_IsPlay.mono_l : ∀ k, (∀ y0 y1, LeO (spec_IsPlay.l0 k y0 y1) (spec_IsPlay.l0 (k + 1) y0 y1)) ∧ (∀ y0 y1 y2, LeO (spec_IsPlay.j1 k y0 y1 y2) (spec_IsPlay.j1 (k + 1) y0 y1 y2))
  | 0 => ⟨fun _ _ r h => by simp [spec_IsPlay.l0] at h, fun _ _ _ r h => by simp [spec_IsPlay.j1] at h⟩
  | k + 1 => by
   obtain ⟨ih0, ih1⟩ := spec_IsPlay.mono_l k; refine ⟨?_, ?_⟩
   ·intro y0 y1
    unfold spec_IsPlay.l0
    repeat' first
    | (with_reducible exact ih0 _ _)
    | (with_reducible exact ih1 _ _ _)
    | (with_reducible exact spec_l15Ok.mono _ _ _)
    | (with_reducible exact LeO.refl _)
    | (with_reducible exact LeO.none _)
    | (with_reducible refine LeO.ite ?_ ?_)
    | (with_reducible refine LeO.bind ?_ (fun _ => ?_))
    | exact ih0 _ _
    | exact ih1 _ _ _
    | exact spec_l15Ok.mono _ _ _
    | exact LeO.none _
    | refine LeO.ite ?_ ?_
    | refine LeO.bind ?_ (fun _ => ?_)
   ·intro y0 y1 y2
    unfold spec_IsPlay.j1
    repeat' first
    | (with_reducible exact ih0 _ _)
    | (with_reducible exact ih1 _ _ _)
    | (with_reducible exact spec_l15Ok.mono _ _ _)
    | (with_reducible exact LeO.refl _)
    | (with_reducible exact LeO.none _)
    | (with_reducible refine LeO.ite ?_ ?_)
    | (with_reducible refine LeO.bind ?_ (fun _ => ?_))
    | exact ih0 _ _
    | exact ih1 _ _ _
    | exact spec_l15Ok.mono _ _ _
    | exact LeO.none _
    | refine LeO.ite ?_ ?_
    | refine LeO.bind ?_ (fun _ => ?_)
theorem spec_IsPlay.mono : ∀ a0 k, LeO (spec_IsPlay.f k a0) (spec_IsPlay.f (k + 1) a0) := by
  intro a0 k
  obtain ⟨ih0, ih1⟩ := spec_IsPlay.mono_l k; unfold spec_IsPlay.f
  repeat' first
    | (with_reducible exact ih0 _ _)
    | (with_reducible exact ih1 _ _ _)
    | (with_reducible exact spec_l15Ok.mono _ _ _)
    | (with_reducible exact LeO.refl _)
    | (with_reducible exact LeO.none _)
    | (with_reducible refine LeO.ite ?_ ?_)
    | (with_reducible refine LeO.bind ?_ (fun _ => ?_))
    | exact ih0 _ _
    | exact ih1 _ _ _
    | exact spec_l15Ok.mono _ _ _
    | exact LeO.none _
    | refine LeO.ite ?_ ?_
    | refine LeO.bind ?_ (fun _ => ?_)
set_option maxHeartbeats 8000000 in
set_option maxRecDepth 100000 in
theorem spec_IsPlay.calls (k : Nat) (A0 : Option Addr) (c0 : Nat) (l0 : List (S55)) (r : Bool) (w : World) (hr0 : Kd.C k55 w A0 l0.length l0) (hc0 : l0.length ≤ c0) (h : spec_IsPlay.f k l0 = some r) :
   Calls Try.prog 52 #[.slice A0 l0.length c0] w fun e w' => e = .returned (.bool r) ∧ Below w.heap.size w w' := by
  have HR0 := Aside0.mk hr0; have HC0 := Aside0.mk hc0; clear hr0 hc0; have HB := Aside0.mk (Below.refl w.heap.size w); have H : (spec_IsPlay.l0 k l0 0) = some r := h; clear h; have H' := Aside0.mk H
  clear H; go_enter Try.func52, Try.ntmps52
  go_wp2
  go_loopg [3] k (fun kq v3 w' => ∃ (x3_1 : Int), v3 = .int .i64 x3_1 ∧ Aside0 (spec_IsPlay.l0 kq l0 x3_1 = some r) ∧ Aside0 (kq ≤ k) ∧ Aside0 (Below w.heap.size w w'))
  case atStart => exact ⟨(0), (by first | rfl | (simp; done) | (simp [*]; done)), H', ⟨Nat.le_refl _⟩, ⟨by repeat (first | (with_reducible first | exact HB.out | apply below_alloc | apply pw_below_drewN | apply below_drew1) | exact HB.out)⟩⟩
  case round =>
   clear H'; obtain ⟨x3_1, rfl, HA, HK1, HB⟩ := hrel
   cases gk with
   | zero => exact absurd HA.out (by simp [spec_IsPlay.l0])
   | succ k1 =>
    have H := HA.out; clear HA; simp only [spec_IsPlay.l0] at H; have HC2 := Aside0.mk H; clear H; go_upto_region 2 with (fail)
    go_cut [12] (fun v12 wc => ∃ (kq : Nat) (x12_1 : Bool), v12 = .bool x12_1 ∧ Aside0 (spec_IsPlay.j1 kq l0 x3_1 x12_1 = some r) ∧ Aside0 (kq ≤ k1) ∧ Aside0 (Below w.heap.size w wc))
    case first =>
     have H := HC2.out; clear HC2; by_cases c3 : x3_1 < (l0.length : Int)
     ·rw [if_pos c3] at H
      have c3b0 : decide (x3_1 < (l0.length : Int)) = true := decide_eq_true c3; clear c3; (first | rw [c3b0] | (simp only [i64_w, i32_w]; rw [c3b0]) | skip)
      have H' := Aside0.mk H
      clear H; go_wp2
      go_meet
      case rel => exact ⟨_, (decide ((l0.length : Int) ≤ 9)), (by first | rfl | (simp; done) | (simp [*]; done)), H', ⟨by have := HK1.out; first | omega | exact Nat.le_refl _⟩, ⟨by repeat (first | (with_reducible first | exact HB.out | apply below_alloc | apply pw_below_drewN | apply below_drew1) | exact HB.out)⟩⟩
     ·rw [if_neg c3] at H
      have c3b0 : decide (x3_1 < (l0.length : Int)) = false := decide_eq_false c3; clear c3; (first | rw [c3b0] | (simp only [i64_w, i32_w]; rw [c3b0]) | skip)
      have H' := Aside0.mk H
      clear H; go_wp2
      go_meet
      case rel => exact ⟨_, (false), (by first | rfl | (simp; done) | (simp [*]; done)), H', ⟨by have := HK1.out; first | omega | exact Nat.le_refl _⟩, ⟨by repeat (first | (with_reducible first | exact HB.out | apply below_alloc | apply pw_below_drewN | apply below_drew1) | exact HB.out)⟩⟩
    case rest =>
     clear HC2; try clear p2
     try clear c3
     try clear c3b0
     obtain ⟨kq, x12_1, rfl, HA, HJ1, HB⟩ := hcut
     cases kq with
     | zero => exact absurd HA.out (by simp [spec_IsPlay.j1])
     | succ kj1 =>
      have H := HA.out; clear HA; simp only [spec_IsPlay.j1] at H; by_cases c4 : x12_1 = true
      ·subst c4; have H1 : ((spec_l15Ok.f kj1 l0 x3_1).bind fun t113 => (if t113 = true then (spec_IsPlay.l0 kj1 l0 (wrap64 (x3_1 + 1))) else (some false))) = some r := by rw [if_pos rfl] at H; exact H
       clear H; have H := H1; clear H1; replace H := Option.bind_eq_some_iff.mp H; obtain ⟨t113, A50, H⟩ := H; replace H : (if t113 = true then (spec_IsPlay.l0 kj1 l0 (wrap64 (x3_1 + 1))) else (some false)) = some r := H; have A5 := Aside0.mk A50; clear A50; by_cases c6 : t113 = true
       ·subst c6; have H1 : (spec_IsPlay.l0 kj1 l0 (wrap64 (x3_1 + 1))) = some r := by rw [if_pos rfl] at H; exact H
        clear H; have H := H1; clear H1; have H' := Aside0.mk H
        clear H; go_wp2_with (first | ((with_reducible refine gate_callee (f := 67) rfl ?_); refine goesL_ (some 17) rfl rfl Try.func67 (by kernel_rfl) rfl #[.slice A0 l0.length c0, .int .i64 x3_1] rfl (by (try simp only [List.map_toArray, List.map_cons, List.map_nil]); first | done | rfl | (simp only [List.length_drop, List.length_take]; rfl)) ?_; (with_reducible refine (spec_l15Ok.calls kj1 _ _ l0 x3_1 true _ ?side1 ?side2 A5.out).mono ?_); (case side1 => repeat (first | exact (Kd.C_below HR0.out HB.out) | (with_reducible refine Kd.C_alloc ?_ _) | (with_reducible refine Kd.C_drewN ?_ _) | (with_reducible refine Kd.C_drew ?_))); (case side2 => exact HC0.out); rintro e w7 ⟨rfl, hb⟩; refine ⟨_, rfl, ?_⟩; have n0_ := Aside0.mk (below_step (by repeat (first | (with_reducible first | exact HB.out | apply below_alloc | apply pw_below_drewN | apply below_drew1) | exact HB.out)) hb); clear HB; have HB := n0_; clear n0_; (try clear hb); (try clear hb2); (try clear hk); (try clear hi)))
        go_roundg kj1
        case measure => have := HK1.out; have := HJ1.out; omega
        case rel => exact ⟨(wrap64 (x3_1 + 1)), (by first | rfl | (simp; done) | (simp [*]; done)), H', ⟨by have := HK1.out; have := HJ1.out; omega⟩, ⟨by repeat (first | (with_reducible first | exact HB.out | apply below_alloc | apply pw_below_drewN | apply below_drew1) | exact HB.out)⟩⟩
       ·replace c6 := Bool.eq_false_iff.mpr c6; subst c6; have H1 : (some false) = some r := by rw [if_neg (show ¬ (false = true) by decide)] at H; exact H
        clear H; have H := H1; clear H1; obtain rfl := Option.some.inj H; go_wp2_with (first | ((with_reducible refine gate_callee (f := 67) rfl ?_); refine goesL_ (some 17) rfl rfl Try.func67 (by kernel_rfl) rfl #[.slice A0 l0.length c0, .int .i64 x3_1] rfl (by (try simp only [List.map_toArray, List.map_cons, List.map_nil]); first | done | rfl | (simp only [List.length_drop, List.length_take]; rfl)) ?_; (with_reducible refine (spec_l15Ok.calls kj1 _ _ l0 x3_1 false _ ?side1 ?side2 A5.out).mono ?_); (case side1 => repeat (first | exact (Kd.C_below HR0.out HB.out) | (with_reducible refine Kd.C_alloc ?_ _) | (with_reducible refine Kd.C_drewN ?_ _) | (with_reducible refine Kd.C_drew ?_))); (case side2 => exact HC0.out); rintro e w8 ⟨rfl, hb⟩; refine ⟨_, rfl, ?_⟩; have n0_ := Aside0.mk (below_step (by repeat (first | (with_reducible first | exact HB.out | apply below_alloc | apply pw_below_drewN | apply below_drew1) | exact HB.out)) hb); clear HB; have HB := n0_; clear n0_; (try clear hb); (try clear hb2); (try clear hk); (try clear hi)))
        go_ret
        exact ⟨by first | rfl | (simp [errW_none, errW_some] <;> rfl) | (simp [*, errW_none, errW_some] <;> rfl), by repeat (first | (with_reducible first | exact HB.out | apply below_alloc | apply pw_below_drewN | apply below_drew1) | exact HB.out)⟩
      ·replace c4 := Bool.eq_false_iff.mpr c4; subst c4; have H1 : ((spec_l1In.f (l0.length : Int) 1 9).bind fun t114 => (some t114)) = some r := by rw [if_neg (show ¬ (false = true) by decide)] at H; exact H
       clear H; have H := H1; clear H1; replace H := Option.bind_eq_some_iff.mp H; obtain ⟨t114, A90, H⟩ := H; replace H : (some t114) = some r := H; have A9 := Aside0.mk A90; clear A90; obtain rfl := Option.some.inj H; go_wp2_with (first | ((with_reducible refine gate_callee (f := 61) rfl ?_); refine goesL_ (some 21) rfl rfl Try.func61 (by kernel_rfl) rfl #[.int .i64 (l0.length : Int), .int .i64 1, .int .i64 9] rfl (by (try simp only [List.map_toArray, List.map_cons, List.map_nil]); first | done | rfl | (simp only [List.length_drop, List.length_take]; rfl)) ?_; (with_reducible refine (spec_l1In.calls (l0.length : Int) 1 9 t114 _ A9.out).mono ?_); rintro e w' ⟨rfl, ⟨nd, rfl⟩⟩; refine ⟨_, rfl, ?_⟩))
       go_ret
       exact ⟨by first | rfl | (simp [errW_none, errW_some] <;> rfl) | (simp [*, errW_none, errW_some] <;> rfl), by repeat (first | (with_reducible first | exact HB.out | apply below_alloc | apply pw_below_drewN | apply below_drew1) | exact HB.out)⟩

end Go.Proofs.Ytgmhjinlpikpjab.QFnExactWordsMade
