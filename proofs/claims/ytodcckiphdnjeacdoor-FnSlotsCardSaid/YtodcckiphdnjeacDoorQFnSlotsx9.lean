-- Written by a changed copy of the kit's printer (wip/mp.py of this repo), for this claim; Lean checks it.
import Derived.Test.YtodcckiphdnjeacDoorQFnSlotsx0
import Derived.Test.YtodcckiphdnjeacDoorQFnSlotsx2
import Derived.Test.YtodcckiphdnjeacDoorQFnSlotsx3
import Derived.Test.YtodcckiphdnjeacDoorQFnSlotsx4
import Derived.Test.YtodcckiphdnjeacDoorQFnSlotsx7
import Derived.Test.YtodcckiphdnjeacDoorQFnSlotsx8
namespace Go.Proofs.YtodcckiphdnjeacDoor.QFnSlots
open Go.RowKit Go.Proofs.YtodcckiphdnjeacDoorW.PrintWords Go.Proofs.YtodcckiphdnjeacDoorW.PrintLast Go.Proofs.YtodcckiphdnjeacDoorW.PrintMore
attribute [local go_sem] max2_int min2_int max_two min_two max_three min_three max_four min_four   -- for this text's walks alone
set_option linter.unusedVariables false
set_option linter.unusedSimpArgs false

/-! ### impl_SlotsAt: function 29 -/
def impl_SlotsAt.l0 : Nat → Int → List Int → List (List Int) → Int → Int → Option (List Int)
  | 0, _, _, _, _, _ => none
  | k + 1, x1, x5, x9, x10, x11 => if x11 < x10 then (if 0 ≤ x11 then (if x11 < (x9.length : Int) then ((slices_Contains_int_int.f k (rd_L6 x9 x11) x1).bind fun t269 => (if t269 = true then (if x5.length < 17592186044416 then (impl_SlotsAt.l0 k x1 (x5 ++ [x11]) x9 x10 (wrap64 (x11 + 1))) else (none)) else (impl_SlotsAt.l0 k x1 x5 x9 x10 (wrap64 (x11 + 1))))) else (none)) else (none)) else (some x5)
def impl_SlotsAt.f (k : Nat) (a0_0 : Int) (a0_1 : Int) (a0_2 : ByteArray) (a1 : Int) : Option (List Int) := (impl_layout.f k a0_0 a0_1 a0_2).bind fun t265 => (impl_SlotsAt.l0 k a1 ([] : List Int) t265 (t265.length : Int) 0)
theorem impl_SlotsAt.mono_l : ∀ k, (∀ y0 y1 y2 y3 y4, LeO (impl_SlotsAt.l0 k y0 y1 y2 y3 y4) (impl_SlotsAt.l0 (k + 1) y0 y1 y2 y3 y4))
  | 0 => fun _ _ _ _ _ r h => by simp [impl_SlotsAt.l0] at h
  | k + 1 => by
   have ih0 := impl_SlotsAt.mono_l k
   ·intro y0 y1 y2 y3 y4
    unfold impl_SlotsAt.l0
    repeat' first
    | (with_reducible exact ih0 _ _ _ _ _)
    | (with_reducible exact impl_layout.mono _ _ _ _)
    | (with_reducible exact slices_Contains_int_int.mono _ _ _)
    | (with_reducible exact LeO.refl _)
    | (with_reducible exact LeO.none _)
    | (with_reducible refine LeO.ite ?_ ?_)
    | (with_reducible refine LeO.bind ?_ (fun _ => ?_))
    | exact ih0 _ _ _ _ _
    | exact impl_layout.mono _ _ _ _
    | exact slices_Contains_int_int.mono _ _ _
    | exact LeO.none _
    | refine LeO.ite ?_ ?_
    | refine LeO.bind ?_ (fun _ => ?_)
theorem impl_SlotsAt.mono : ∀ a0 a1 a2 a3 k, LeO (impl_SlotsAt.f k a0 a1 a2 a3) (impl_SlotsAt.f (k + 1) a0 a1 a2 a3) := by
  intro a0 a1 a2 a3 k
  have ih0 := impl_SlotsAt.mono_l k
  unfold impl_SlotsAt.f
  repeat' first
    | (with_reducible exact ih0 _ _ _ _ _)
    | (with_reducible exact impl_layout.mono _ _ _ _)
    | (with_reducible exact slices_Contains_int_int.mono _ _ _)
    | (with_reducible exact LeO.refl _)
    | (with_reducible exact LeO.none _)
    | (with_reducible refine LeO.ite ?_ ?_)
    | (with_reducible refine LeO.bind ?_ (fun _ => ?_))
    | exact ih0 _ _ _ _ _
    | exact impl_layout.mono _ _ _ _
    | exact slices_Contains_int_int.mono _ _ _
    | exact LeO.none _
    | refine LeO.ite ?_ ?_
    | refine LeO.bind ?_ (fun _ => ?_)
set_option maxHeartbeats 8000000 in
set_option maxRecDepth 100000 in
theorem impl_SlotsAt.calls (k : Nat) (a0_0 : Int) (a0_1 : Int) (a0_2 : ByteArray) (a1 : Int) (r : List Int) (w : World) (h : impl_SlotsAt.f k a0_0 a0_1 a0_2 a1 = some r) :
   Calls Tryd.prog 29 #[.agg #[.int .i64 a0_0, .int .i64 a0_1, .string a0_2], .int .i64 a1] w fun e w' => ∃ v0_ : Value, e = .returned (v0_) ∧ Kd.R (Kd.int .i64) 3 w' w.heap.size (fun _ => True) v0_ r ∧ Below w.heap.size w w' := by
  have hu26 := Tryd.underlying26
  have HB := Aside0.mk (Below.refl w.heap.size w)
  have H : ((impl_layout.f k a0_0 a0_1 a0_2).bind fun t265 => (impl_SlotsAt.l0 k a1 ([] : List Int) t265 (t265.length : Int) 0)) = some r := h
  clear h
  replace H := Option.bind_eq_some_iff.mp H
  obtain ⟨t265, A30, H⟩ := H
  replace H : (impl_SlotsAt.l0 k a1 ([] : List Int) t265 (t265.length : Int) 0) = some r := H
  have A3 := Aside0.mk A30
  clear A30
  have H' := Aside0.mk H
  clear H
  go_enter Tryd.func29, Tryd.ntmps29
  go_wp2_with (first | ((with_reducible refine gate_dst (N := 2) rfl ?_); refine box_event ?hg (N := 2) ?hd (cs := #[.int .i64 a0_0, .int .i64 a0_1, .string a0_2]) (t := 26) ?hr ?_; (case hd => rfl); (case hg => rfl); (case hr => first | (go_simp; done) | (go_simp; rfl)); intro gb264 hg w4 hbox hb; have n0_ := Aside0.mk (below_step (by repeat (first | (with_reducible first | exact HB.out | apply below_alloc | apply pw_below_drewN | apply below_drew1) | exact HB.out)) hb); have n1_ := Aside0.mk (hbox); have n2_ := Aside0.mk ((by rw [hg]; exact (below_size (by repeat (first | (with_reducible first | exact HB.out | apply below_alloc | apply pw_below_drewN | apply below_drew1) | exact HB.out))) : w.heap.size ≤ gb264)); have n3_ := Aside0.mk ((by rw [hg]; exact (below_size (by repeat (first | (with_reducible first | exact HB.out | apply below_alloc | apply pw_below_drewN | apply below_drew1) | exact HB.out))) : w.heap.size ≤ gb264)); clear HB; have HB := n0_; have BK264 := n1_; have GW264 := n2_; have GE264 := n3_; clear n0_ n1_ n2_ n3_; clear hb hbox hg; have hcz5_0 : w4.cell? ⟨gb264, 0, none⟩ = some (.int .i64 a0_0) := (blk_cell BK264.out 0).trans rfl; have hcz5_1 : w4.cell? ⟨gb264, 1, none⟩ = some (.int .i64 a0_1) := (blk_cell BK264.out 1).trans rfl; have hcz5_2 : w4.cell? ⟨gb264, 2, none⟩ = some (.string a0_2) := (blk_cell BK264.out 2).trans rfl; have hfz5_0 := blk_frozen BK264.out 0; have hfz5_1 := blk_frozen BK264.out 1; have hfz5_2 := blk_frozen BK264.out 2) | ((with_reducible refine gate_callee (f := 51) rfl ?_); refine goesL_ (some 9) rfl rfl Tryd.func51 (by kernel_rfl) rfl #[.agg #[.int .i64 a0_0, .int .i64 a0_1, .string a0_2]] rfl (by (try simp only [List.map_toArray, List.map_cons, List.map_nil]); first | done | rfl | (simp only [List.length_drop, List.length_take]; rfl)) ?_; (with_reducible refine (impl_layout.calls k a0_0 a0_1 a0_2 t265 _ A3.out).mono ?_); rintro e w6 ⟨v266, rfl, ho0, hb⟩; refine ⟨_, rfl, ?_⟩; have n0_ := Aside0.mk (Kd.S_lower ho0 (below_size (by repeat (first | (with_reducible first | exact HB.out | apply below_alloc | apply pw_below_drewN | apply below_drew1 | refine below_set ?_ GE264.out) | exact HB.out)))); have n1_ := Aside0.mk (blk_below (g := gb264) (o := .cells #[.int .i64 a0_0, .int .i64 a0_1, .string a0_2] 26 (0, 0)) (by (with_reducible repeat (first | refine blk_drewN ?_ _ | refine blk_drew ?_ | refine blk_alloc ?_ _)); exact BK264.out) hb); have n2_ := Aside0.mk (below_step (by repeat (first | (with_reducible first | exact HB.out | apply below_alloc | apply pw_below_drewN | apply below_drew1 | refine below_set ?_ GE264.out) | exact HB.out)) hb); clear BK264; clear HB; have HO267 := n0_; have BK264 := n1_; have HB := n2_; clear n0_ n1_ n2_; (try clear hb); (try clear hb2); (try clear hk); (try clear hi); (try clear ho0); obtain ⟨Ao7, co7, eo7⟩ := Kd.S_slice HO267.out; subst eo7))
  go_loopg [5, 11] k (fun kq v5 v11 w' => ∃ (x5_1 : List Int) (x11_1 : Int), v11 = .int .i64 x11_1 ∧ Aside0 (impl_SlotsAt.l0 kq a1 x5_1 t265 (t265.length : Int) x11_1 = some r) ∧ Aside0 (kq ≤ k) ∧ Aside0 (Kd.R (Kd.int .i64) 3 w' w.heap.size (fun _ => True) v5 x5_1) ∧ Aside0 (Kd.S (Kd.slice 3 (Kd.int .i64)) 45 w' w.heap.size (fun k_ => some k_ ≠ (v5 : Value).ownBlock) (.slice Ao7 t265.length co7) t265) ∧ Aside0 (w'.heap[gb264]? = some (.cells #[.int .i64 a0_0, .int .i64 a0_1, .string a0_2] 26 (0, 0))) ∧ Aside0 (Below w.heap.size w w'))
  case atStart => exact ⟨(([] : List Int)), (0), (by first | rfl | (simp; done) | (simp [*]; done)), H', ⟨Nat.le_refl _⟩, ⟨by first | exact Kd.R_nil _ _ _ _ _ | exact Kd.N_nil _ _ _ _ _ | exact Kd.V_nil _ _ _ _ _ | exact Kd.Q_nil _ _ _ _ _ | exact Kd.S_nil _ _ _ _ _⟩, ⟨by (with_reducible repeat (first | apply Kd.S_alloc | apply Kd.S_drewN | apply Kd.S_drew)); exact Kd.S_mono HO267.out (fun _ hk => (by simp [Value.ownBlock]))⟩, ⟨by (with_reducible repeat (first | refine blk_drewN ?_ _ | refine blk_drew ?_ | refine blk_alloc ?_ _)); exact BK264.out⟩, ⟨by repeat (first | (with_reducible first | exact HB.out | apply below_alloc | apply pw_below_drewN | apply below_drew1 | refine below_set ?_ GE264.out) | exact HB.out)⟩⟩
  case round =>
   clear H'
   try clear c2
   try clear p2
   try clear c5
   try clear hcz5_0
   try clear hcz5_1
   try clear hcz5_2
   try clear hfz5_0
   try clear hfz5_1
   try clear hfz5_2
   obtain ⟨x5_1, x11_1, rfl, HA, HK1, HO_5, HO_9, BK264, HB⟩ := hrel
   cases gk with
   | zero => exact absurd HA.out (by simp [impl_SlotsAt.l0])
   | succ k1 =>
    have H := HA.out
    clear HA
    simp only [impl_SlotsAt.l0] at H
    by_cases c8 : x11_1 < (t265.length : Int)
    ·rw [if_pos c8] at H
     have c8b0 : decide (x11_1 < (t265.length : Int)) = true := decide_eq_true c8
     clear c8
     by_cases c9 : 0 ≤ x11_1
     ·rw [if_pos c9] at H
      have c9b0 : decide (0 ≤ x11_1) = true := decide_eq_true c9
      clear c9
      by_cases c10 : x11_1 < (t265.length : Int)
      ·rw [if_pos c10] at H
       have c10b0 : decide (x11_1 < (t265.length : Int)) = true := decide_eq_true c10
       clear c10
       replace H := Option.bind_eq_some_iff.mp H
       obtain ⟨t269, A110, H⟩ := H
       replace H : (if t269 = true then (if x5_1.length < 17592186044416 then (impl_SlotsAt.l0 k1 a1 (x5_1 ++ [x11_1]) t265 (t265.length : Int) (wrap64 (x11_1 + 1))) else (none)) else (impl_SlotsAt.l0 k1 a1 x5_1 t265 (t265.length : Int) (wrap64 (x11_1 + 1)))) = some r := H
       have A11 := Aside0.mk A110
       clear A110
       by_cases c12 : t269 = true
       ·subst c12
        have H1 : (if x5_1.length < 17592186044416 then (impl_SlotsAt.l0 k1 a1 (x5_1 ++ [x11_1]) t265 (t265.length : Int) (wrap64 (x11_1 + 1))) else (none)) = some r := by rw [if_pos rfl] at H; exact H
        clear H
        have H := H1
        clear H1
        by_cases c13 : x5_1.length < 17592186044416
        ·rw [if_pos c13] at H
         have LMc13 := Aside0.mk c13
         clear c13
         obtain ⟨y270, hy270⟩ : ∃ y_ : List Int, y_ = (x5_1 ++ [x11_1]) := ⟨_, rfl⟩
         replace H : (impl_SlotsAt.l0 k1 a1 y270 t265 (t265.length : Int) (wrap64 (x11_1 + 1))) = some r := by first | (rw [hy270]; with_reducible exact H) | (have H2_ := (Option.bind_some _ _).symm.trans H; rw [hy270]; with_reducible exact H2_) | (have H2_ := (Option.bind_some _ _).symm.trans H; with_reducible exact H2_) | with_reducible exact H | (rw [hy270]; exact H) | exact H
         have Ny270 := Aside0.mk hy270
         clear hy270
         have H' := Aside0.mk H
         clear H
         have p268 : 0 ≤ (x11_1 : Int) := of_decide_eq_true (by first | (with_reducible assumption) | assumption)
         have q268 : x11_1 < (t265.length : Int) := of_decide_eq_true (by first | (with_reducible assumption) | assumption)
         obtain ⟨ad268, A268_0, c268_0, e268, hx268_0, hl268_0, hi268_0⟩ := at_L6 (Kd.S_reads' HO_9.out).2.2 x11_1 p268 q268
         cases e268
         obtain ⟨ce268, hce268, hMe268, hcc268⟩ := Kd.S_get HO_9.out [] x11_1 p268 (by first | exact q268 | exact of_decide_eq_true (by first | (with_reducible assumption) | assumption) | (have e_ := (Kd.S_reads' HO_9.out).1; omega))
         obtain ⟨ve268_0, rfl, ge268_0⟩ := hMe268
         have hv268_0 := hcc268 0 _ rfl
         rw [Nat.add_zero, show ((Kd.slice 3 (Kd.int .i64))).sz = 1 from rfl, Nat.mul_one] at hv268_0
         replace hv268_0 := Option.some.inj (hv268_0.symm.trans hx268_0)
         rw [hv268_0] at ge268_0
         have HL268_0 := Aside0.mk (show Kd.R (Kd.int .i64) 3 _ _ _ _ (rd_L6 t265 x11_1) from ge268_0)
         clear hv268_0 ge268_0
         clear hcc268 hce268
         have HR268_0 := Aside0.mk hi268_0
         have HC268_0 := Aside0.mk hl268_0
         clear hi268_0 hl268_0
         replace p268 := eq_true p268
         replace q268 := eq_true q268
         go_wp2_with (first | ((with_reducible refine gate_callee (f := 52) rfl ?_); refine goesL_ (some 18) rfl rfl Tryd.func52 (by kernel_rfl) rfl #[.slice A268_0 (rd_L6 t265 x11_1).length c268_0, .int .i64 a1] rfl (by (try simp only [List.map_toArray, List.map_cons, List.map_nil]); first | done | rfl | (simp only [List.length_drop, List.length_take]; rfl)) ?_; (with_reducible refine (slices_Contains_int_int.calls k1 _ _ (rd_L6 t265 x11_1) a1 true _ ?side1 ?side2 A11.out).mono ?_); (case side1 => repeat (first | exact (by repeat (first | (with_reducible exact HR268_0.out) | (with_reducible refine Kd.C_alloc ?_ _) | (with_reducible refine Kd.C_drewN ?_ _) | (with_reducible refine Kd.C_drew ?_) | exact HR268_0.out)) | (with_reducible refine Kd.C_alloc ?_ _) | (with_reducible refine Kd.C_drewN ?_ _) | (with_reducible refine Kd.C_drew ?_))); (case side2 => exact HC268_0.out); rintro e w' ⟨rfl, ⟨nd, rfl⟩⟩; refine ⟨_, rfl, ?_⟩) | ((with_reducible refine gate_builtin (b := .append) (xs := #[.tmp 19, .tmp 21]) rfl ?_); at_builtin; refine Kd.R_append (Kd.int .i64) (w0 := w) w.heap.size rfl (.tmp 19) (.tmp 21) 45 3 (.int .i64 0) 8 rfl Tryd.underlying45 info3 rfl (by decide) (by omega) u5 x5_1 x11_1 [.int .i64 x11_1] (fun _ => True) (fun _ => False) rfl rfl ?aP (fun _ hk => hk.elim) ?aF ?aO ?aB ?aS ?aL ?_; (case aP => exact rfl); (case aB => exact (by repeat (first | (with_reducible first | exact HB.out | apply below_alloc | apply pw_below_drewN | apply below_drew1 | refine below_set ?_ GE264.out) | exact HB.out))); (case aF => exact (fun _ _ => trivial)); (case aO => exact (by (with_reducible repeat (first | apply Kd.R_alloc | apply Kd.R_drewN | apply Kd.R_drew)); exact HO_5.out)); (case aS => exact (below_size (by repeat (first | (with_reducible first | exact HB.out | apply below_alloc | apply pw_below_drewN | apply below_drew1 | refine below_set ?_ GE264.out) | exact HB.out)))); (case aL => have := LMc13.out; omega); intro v271 w14 ho hb hg hat; rw [← Ny270.out] at ho; have n0_ := Aside0.mk (Kd.S_after (ok := (fun _ => True)) (by (with_reducible repeat (first | apply Kd.S_alloc | apply Kd.S_drewN | apply Kd.S_drew)); exact Kd.S_mono HO_9.out (fun _ hk => ⟨trivial, hk⟩)) hg hat); have n1_ := Aside0.mk (blk_grown (g := gb264) (o := .cells #[.int .i64 a0_0, .int .i64 a0_1, .string a0_2] 26 (0, 0)) (by (with_reducible repeat (first | refine blk_drewN ?_ _ | refine blk_drew ?_ | refine blk_alloc ?_ _)); exact BK264.out) hg (Kd.R_ne HO_5.out BK264.out (by decide))); have n2_ := Aside0.mk (Kd.R_after (ok := (fun k_ => some k_ ≠ (.slice (some ad268) t265.length co7 : Value).ownBlock)) (by (with_reducible repeat (first | apply Kd.R_alloc | apply Kd.R_drewN | apply Kd.R_drew)); exact Kd.R_mono HL268_0.out (fun _ hk => ⟨hk.2, hk.1⟩)) hg hat); have n3_ := Aside0.mk (hb); have n4_ := Aside0.mk (ho); clear HO_9; clear BK264; clear HL268_0; clear HB; clear HO_5; have HO_9 := n0_; have BK264 := n1_; have HL268_0 := n2_; have HB := n3_; have HO272 := n4_; clear n0_ n1_ n2_ n3_ n4_; clear ho hb hg hat))
         go_roundg k1
         case measure => have := HK1.out; omega
         case rel => exact ⟨(y270), (wrap64 (x11_1 + 1)), (by first | rfl | (simp; done) | (simp [*]; done)), H', ⟨by have := HK1.out; omega⟩, ⟨by (with_reducible repeat (first | apply Kd.R_alloc | apply Kd.R_drewN | apply Kd.R_drew)); exact HO272.out⟩, ⟨by (with_reducible repeat (first | apply Kd.S_alloc | apply Kd.S_drewN | apply Kd.S_drew)); exact Kd.S_mono HO_9.out (fun _ hk => hk.2)⟩, ⟨by (with_reducible repeat (first | refine blk_drewN ?_ _ | refine blk_drew ?_ | refine blk_alloc ?_ _)); exact BK264.out⟩, ⟨by repeat (first | (with_reducible first | exact HB.out | apply below_alloc | apply pw_below_drewN | apply below_drew1 | refine below_set ?_ GE264.out) | exact HB.out)⟩⟩
        ·rw [if_neg c13] at H
         exact absurd H (by simp)
       ·replace c12 := Bool.eq_false_iff.mpr c12
        subst c12
        have H1 : (impl_SlotsAt.l0 k1 a1 x5_1 t265 (t265.length : Int) (wrap64 (x11_1 + 1))) = some r := by rw [if_neg (show ¬ (false = true) by decide)] at H; exact H
        clear H
        have H := H1
        clear H1
        have H' := Aside0.mk H
        clear H
        have p268 : 0 ≤ (x11_1 : Int) := of_decide_eq_true (by first | (with_reducible assumption) | assumption)
        have q268 : x11_1 < (t265.length : Int) := of_decide_eq_true (by first | (with_reducible assumption) | assumption)
        obtain ⟨ad268, A268_0, c268_0, e268, hx268_0, hl268_0, hi268_0⟩ := at_L6 (Kd.S_reads' HO_9.out).2.2 x11_1 p268 q268
        cases e268
        obtain ⟨ce268, hce268, hMe268, hcc268⟩ := Kd.S_get HO_9.out [] x11_1 p268 (by first | exact q268 | exact of_decide_eq_true (by first | (with_reducible assumption) | assumption) | (have e_ := (Kd.S_reads' HO_9.out).1; omega))
        obtain ⟨ve268_0, rfl, ge268_0⟩ := hMe268
        have hv268_0 := hcc268 0 _ rfl
        rw [Nat.add_zero, show ((Kd.slice 3 (Kd.int .i64))).sz = 1 from rfl, Nat.mul_one] at hv268_0
        replace hv268_0 := Option.some.inj (hv268_0.symm.trans hx268_0)
        rw [hv268_0] at ge268_0
        have HL268_0 := Aside0.mk (show Kd.R (Kd.int .i64) 3 _ _ _ _ (rd_L6 t265 x11_1) from ge268_0)
        clear hv268_0 ge268_0
        clear hcc268 hce268
        have HR268_0 := Aside0.mk hi268_0
        have HC268_0 := Aside0.mk hl268_0
        clear hi268_0 hl268_0
        replace p268 := eq_true p268
        replace q268 := eq_true q268
        go_wp2_with (first | ((with_reducible refine gate_callee (f := 52) rfl ?_); refine goesL_ (some 18) rfl rfl Tryd.func52 (by kernel_rfl) rfl #[.slice A268_0 (rd_L6 t265 x11_1).length c268_0, .int .i64 a1] rfl (by (try simp only [List.map_toArray, List.map_cons, List.map_nil]); first | done | rfl | (simp only [List.length_drop, List.length_take]; rfl)) ?_; (with_reducible refine (slices_Contains_int_int.calls k1 _ _ (rd_L6 t265 x11_1) a1 false _ ?side1 ?side2 A11.out).mono ?_); (case side1 => repeat (first | exact (by repeat (first | (with_reducible exact HR268_0.out) | (with_reducible refine Kd.C_alloc ?_ _) | (with_reducible refine Kd.C_drewN ?_ _) | (with_reducible refine Kd.C_drew ?_) | exact HR268_0.out)) | (with_reducible refine Kd.C_alloc ?_ _) | (with_reducible refine Kd.C_drewN ?_ _) | (with_reducible refine Kd.C_drew ?_))); (case side2 => exact HC268_0.out); rintro e w' ⟨rfl, ⟨nd, rfl⟩⟩; refine ⟨_, rfl, ?_⟩))
        go_roundg k1
        case measure => have := HK1.out; omega
        case rel => exact ⟨(x5_1), (wrap64 (x11_1 + 1)), (by first | rfl | (simp; done) | (simp [*]; done)), H', ⟨by have := HK1.out; omega⟩, ⟨by (with_reducible repeat (first | apply Kd.R_alloc | apply Kd.R_drewN | apply Kd.R_drew)); exact HO_5.out⟩, ⟨by (with_reducible repeat (first | apply Kd.S_alloc | apply Kd.S_drewN | apply Kd.S_drew)); exact HO_9.out⟩, ⟨by (with_reducible repeat (first | refine blk_drewN ?_ _ | refine blk_drew ?_ | refine blk_alloc ?_ _)); exact BK264.out⟩, ⟨by repeat (first | (with_reducible first | exact HB.out | apply below_alloc | apply pw_below_drewN | apply below_drew1 | refine below_set ?_ GE264.out) | exact HB.out)⟩⟩
      ·rw [if_neg c10] at H
       exact absurd H (by simp)
     ·rw [if_neg c9] at H
      exact absurd H (by simp)
    ·rw [if_neg c8] at H
     have c8b0 : decide (x11_1 < (t265.length : Int)) = false := decide_eq_false c8
     clear c8
     obtain rfl := Option.some.inj H
     go_wp2
     go_ret
     exact ⟨_, by first | rfl | (simp [errW_none, errW_some] <;> rfl) | (simp [*, errW_none, errW_some] <;> rfl), by (with_reducible repeat (first | apply Kd.R_alloc | apply Kd.R_drewN | apply Kd.R_drew)); exact HO_5.out, by repeat (first | (with_reducible first | exact HB.out | apply below_alloc | apply pw_below_drewN | apply below_drew1 | refine below_set ?_ GE264.out) | exact HB.out)⟩

/-! ### laws_FnSlots: function 6 (given) -/
/-- The inner loop: each cell is white, lies where the step leads, and the slot stands there. -/
def slGo (k : Nat) (r c : Int) (s : ByteArray) (i c0 st : Int) : List Int → Nat → Option Bool
  | [], _ => some true
  | x :: l, q => (impl_IsWhite.f k r c s x).bind fun t => (impl_SlotsAt.f k r c s x).bind fun a => (laws_contains.f k a i).bind fun t2 => if t = true ∧ t2 = true ∧ (x = c0 + (q : Int) * st ∧ (0 ≤ x ∧ x ≤ 1000) ∧ (0 ≤ (q : Int) * st ∧ (q : Int) * st ≤ 1000)) ∧ a.length ≤ 1000 then slGo k r c s i c0 st l (q + 1) else none
theorem slGo_cons (k : Nat) (r c : Int) (s : ByteArray) (i c0 st : Int) (x : Int) (l : List Int) (q : Nat) : slGo k r c s i c0 st (x :: l) q = (impl_IsWhite.f k r c s x).bind fun t => (impl_SlotsAt.f k r c s x).bind fun a => (laws_contains.f k a i).bind fun t2 => if t = true ∧ t2 = true ∧ (x = c0 + (q : Int) * st ∧ (0 ≤ x ∧ x ≤ 1000) ∧ (0 ≤ (q : Int) * st ∧ (q : Int) * st ≤ 1000)) ∧ a.length ≤ 1000 then slGo k r c s i c0 st l (q + 1) else none := rfl
/-- The order of two slots that follow one another. -/
def slOrd (a b : S48) : Bool := decide ((0 ≤ b.f0 ∧ b.f0 ≤ a.f0) ∧ (a.f0 ≤ b.f0 + 1 ∧ a.f0 ≤ 1000)) && (!(a.f0 == b.f0) || (!b.f1 && a.f1))
def soGo (k : Nat) (r c : Int) (s : ByteArray) (sl : List (S48)) : List (S48) → Nat → Option Bool
  | [], _ => some true
  | x :: l, i => (impl_CellsOf.f k r c s x.f0 x.f1 x.f2 x.f3).bind fun C => (impl_SlotName.f x.f0 x.f1 x.f2 x.f3).bind fun nm => (impl_SlotNamed.f k r c s nm).bind fun p => if ((C.length : Int) = x.f3 ∧ 2 ≤ C.length ∧ C.length ≤ 1000) ∧ (rd C 0 = x.f2 ∧ p = (i : Int)) ∧ ((0 ≤ rd C 0 ∧ rd C 0 ≤ 1000) ∧ (0 ≤ rd C 1 ∧ rd C 1 ≤ 1000)) ∧ (0 < i → slOrd (rd_T48 sl (i : Int)) (rd_T48 sl ((i : Int) - 1)) = true) then (slGo k r c s (i : Int) (rd C 0) (rd C 1 - rd C 0) C 0).bind fun g => if g = true then soGo k r c s sl l (i + 1) else none else none
theorem soGo_cons (k : Nat) (r c : Int) (s : ByteArray) (sl : List (S48)) (x : S48) (l : List (S48)) (i : Nat) : soGo k r c s sl (x :: l) i = (impl_CellsOf.f k r c s x.f0 x.f1 x.f2 x.f3).bind fun C => (impl_SlotName.f x.f0 x.f1 x.f2 x.f3).bind fun nm => (impl_SlotNamed.f k r c s nm).bind fun p => if ((C.length : Int) = x.f3 ∧ 2 ≤ C.length ∧ C.length ≤ 1000) ∧ (rd C 0 = x.f2 ∧ p = (i : Int)) ∧ ((0 ≤ rd C 0 ∧ rd C 0 ≤ 1000) ∧ (0 ≤ rd C 1 ∧ rd C 1 ≤ 1000)) ∧ (0 < i → slOrd (rd_T48 sl (i : Int)) (rd_T48 sl ((i : Int) - 1)) = true) then (slGo k r c s (i : Int) (rd C 0) (rd C 1 - rd C 0) C 0).bind fun g => if g = true then soGo k r c s sl l (i + 1) else none else none := rfl
def scGo (k : Nat) (r c : Int) (s : ByteArray) : Nat → Nat → Option Bool
  | 0, _ => some true
  | d + 1, i => (impl_SlotsAt.f k r c s (i : Int)).bind fun a => if a.length ≤ 2 then (if 0 < a.length then (impl_IsWhite.f k r c s (i : Int)).bind fun t => if t = true then scGo k r c s d (i + 1) else none else scGo k r c s d (i + 1)) else none
theorem scGo_succ (k : Nat) (r c : Int) (s : ByteArray) (d i : Nat) : scGo k r c s (d + 1) i = (impl_SlotsAt.f k r c s (i : Int)).bind fun a => if a.length ≤ 2 then (if 0 < a.length then (impl_IsWhite.f k r c s (i : Int)).bind fun t => if t = true then scGo k r c s d (i + 1) else none else scGo k r c s d (i + 1)) else none := rfl
def laws_FnSlots.g (k : Nat) (r c : Int) (s : ByteArray) (sl : List (S48)) : Option Bool := (soGo k r c s sl sl 0).bind fun g1 => if g1 = true ∧ sl.length ≤ 1000 ∧ s.size ≤ 1000 then (scGo k r c s s.size 0).bind fun g2 => if g2 = true then (impl_TurnGrid.f k r c s).bind fun t => (impl_SlotsOf.f k t.1 t.2.1 t.2.2).bind fun l2 => if l2.length = sl.length then some true else none else none else none
def laws_FnSlots.f (k : Nat) (l0 : List Int) : Option Bool := (laws_big.f l0).bind fun b => if b = true then some true else (spec_DrawSlotsOf.f k l0).bind fun g => (impl_SlotsOf.f k g.1 g.2.1 g.2.2).bind fun sl => (impl_IsGrid.f k g.1 g.2.1 g.2.2).bind fun b1 => (spec_IsGrid.f k g.1 g.2.1 g.2.2).bind fun b2 => if b2 = b1 then (if b1 = true then laws_FnSlots.g k g.1 g.2.1 g.2.2 sl else (if sl.length = 0 then some true else none)) else none
/-- What stands while the law runs: the grid's box, the slots. -/
structure FsW (w : World) (B : Nat) (r c : Int) (s : ByteArray) (A : Option Addr) (sl : List (S48)) (w' : World) : Prop where
  bk : w'.heap[B]? = some (.cells #[.int .i64 r, .int .i64 c, .string s] 26 (0, 0))
  hs : Kd.C k48 w' A sl.length sl
  bl : Below w.heap.size w w'
theorem FsW.below {w : World} {B : Nat} {r c : Int} {s : ByteArray} {A : Option Addr} {sl : List (S48)} {w' w2 : World} (h : FsW w B r c s A sl w') (hb : Below w'.heap.size w' w2) : FsW w B r c s A sl w2 := ⟨blk_below h.bk hb, Kd.C_below h.hs hb, below_step h.bl hb⟩
theorem FsW.drew {w : World} {B : Nat} {r c : Int} {s : ByteArray} {A : Option Addr} {sl : List (S48)} {w' : World} (h : FsW w B r c s A sl w') : FsW w B r c s A sl w'.drew := h.below (below_drew (Below.refl _ _))
theorem fs_slot {w : World} {B : Nat} {r c : Int} {s : ByteArray} {A : Option Addr} {sl : List (S48)} {W : World} (h : FsW w B r c s A sl W) {i : Int} (h0 : 0 ≤ i) (hi : i < sl.length) {ad : Addr} (hA : A = some ad) {x : S48} (hx : rd_T48 sl i = x) : W.cell? (ad.add (i.toNat * 4)) = some (.int .i64 x.f0) ∧ W.cell? ⟨(ad.add (i.toNat * 4)).block, (ad.add (i.toNat * 4)).off + 1, none⟩ = some (.bool x.f1) ∧ W.cell? ⟨(ad.add (i.toNat * 4)).block, (ad.add (i.toNat * 4)).off + 2, none⟩ = some (.int .i64 x.f2) ∧ W.cell? ⟨(ad.add (i.toNat * 4)).block, (ad.add (i.toNat * 4)).off + 3, none⟩ = some (.int .i64 x.f3) := by
  obtain ⟨ad2, e1, h1⟩ := at_T48 h.hs i h0 hi
  obtain rfl := Option.some.inj (hA.symm.trans e1)
  rw [hx] at h1
  exact h1
theorem fs_cells {W : World} {A : Option Addr} {C : List Int} (h : Kd.C (Kd.int .i64) W A C.length C) (h2 : 2 ≤ C.length) : ∃ bk o, A = some ⟨bk, o, none⟩ ∧ W.cell? ⟨bk, o, none⟩ = some (.int .i64 (rd C 0)) ∧ W.cell? ⟨bk, o + 1, none⟩ = some (.int .i64 (rd C 1)) := by
  obtain ⟨ad, e1, hx⟩ := Kd.at_int h 0 (by omega) (by omega)
  obtain ⟨ad2, e2, hy⟩ := Kd.at_int h 1 (by omega) (by omega)
  subst e1
  obtain rfl := Option.some.inj e2
  have hx0 : W.cell? ad = some (.int .i64 (rd C 0)) := hx
  have hs : ad.spot = none := by
    unfold World.cell? at hx0
    split at hx0
    · split at hx0
      · cases hx0
      · rename_i hn
        cases hsp : ad.spot with
        | none => rfl
        | some v => rw [hsp] at hn; simp at hn
    · cases hx0
  obtain ⟨bk, o, sp⟩ := ad
  simp only at hs
  subst hs
  exact ⟨bk, o, rfl, hx0, hy⟩
theorem fs_drewN {w w' : World} {n : Nat} (h : w' = w.drewN n) : Below w.heap.size w w' := h ▸ pw_below_drewN (Below.refl _ _) n
theorem fs_all {w : World} {B : Nat} {r c : Int} {s : ByteArray} {ad : Addr} {sl : List (S48)} {W : World} {bk o : Nat} {C : List Int} {i : Nat} {x : S48} (hF : FsW w B r c s (some ad) sl W) (hC : Kd.C (Kd.int .i64) W (some ⟨bk, o, none⟩) C.length C) (h2 : 2 ≤ C.length) (hi : i < sl.length) (hx : rd_T48 sl (i : Int) = x) :
    W.cell? ⟨B, 0, none⟩ = some (.int .i64 r) ∧ W.cell? ⟨B, 1, none⟩ = some (.int .i64 c) ∧ W.cell? ⟨B, 2, none⟩ = some (.string s) ∧ W.cell? (ad.add (i * 4)) = some (.int .i64 x.f0) ∧ W.cell? ⟨(ad.add (i * 4)).block, (ad.add (i * 4)).off + 1, none⟩ = some (.bool x.f1) ∧ W.cell? ⟨(ad.add (i * 4)).block, (ad.add (i * 4)).off + 2, none⟩ = some (.int .i64 x.f2) ∧ W.cell? ⟨(ad.add (i * 4)).block, (ad.add (i * 4)).off + 3, none⟩ = some (.int .i64 x.f3) ∧ W.cell? ⟨bk, o, none⟩ = some (.int .i64 (rd C 0)) ∧ Aside0 (Kd.C (Kd.int .i64) W (some ⟨bk, o, none⟩) C.length C) ∧ Aside0 (FsW w B r c s (some ad) sl W) := by
  obtain ⟨hx0, hx1, hx2, hx3⟩ := fs_slot hF (i := (i : Int)) (by omega) (by omega) rfl hx
  simp only [Int.toNat_natCast] at hx0 hx1 hx2 hx3
  obtain ⟨bk2, o2, e2, hy0, _⟩ := fs_cells hC h2
  cases e2
  exact ⟨(blk_cell hF.bk 0).trans rfl, (blk_cell hF.bk 1).trans rfl, (blk_cell hF.bk 2).trans rfl, hx0, hx1, hx2, hx3, hy0, ⟨hC⟩, ⟨hF⟩⟩
theorem fs_all2 {w : World} {B : Nat} {r c : Int} {s : ByteArray} {ad : Addr} {sl : List (S48)} {W : World} {bk o : Nat} {C : List Int} {q : Nat} {y : Int} (hF : FsW w B r c s (some ad) sl W) (hC : Kd.C (Kd.int .i64) W (some ⟨bk, o, none⟩) C.length C) (h2 : 2 ≤ C.length) (hq : q < C.length) (hy : rd C (q : Int) = y) :
    W.cell? ⟨B, 0, none⟩ = some (.int .i64 r) ∧ W.cell? ⟨B, 1, none⟩ = some (.int .i64 c) ∧ W.cell? ⟨B, 2, none⟩ = some (.string s) ∧ W.cell? ⟨bk, o, none⟩ = some (.int .i64 (rd C 0)) ∧ W.cell? ⟨bk, o + q, none⟩ = some (.int .i64 y) ∧ Aside0 (Kd.C (Kd.int .i64) W (some ⟨bk, o, none⟩) C.length C) ∧ Aside0 (FsW w B r c s (some ad) sl W) := by
  obtain ⟨bk2, o2, e2, hy0, _⟩ := fs_cells hC h2
  cases e2
  obtain ⟨ad3, e3, hz⟩ := Kd.at_int hC (q : Int) (by omega) (by omega)
  cases e3
  rw [hy] at hz
  simp only [Int.toNat_natCast] at hz
  have hz2 : W.cell? ⟨bk, o + q, none⟩ = some (.int .i64 y) := by
    rw [← hz]
    unfold Addr.add
    split <;> simp_all
  exact ⟨(blk_cell hF.bk 0).trans rfl, (blk_cell hF.bk 1).trans rfl, (blk_cell hF.bk 2).trans rfl, hy0, hz2, ⟨hC⟩, ⟨hF⟩⟩
set_option maxHeartbeats 40000000 in
set_option maxRecDepth 100000 in
theorem laws_FnSlots.calls (k : Nat) (A0 : Option Addr) (c0_ : Nat) (l0 : List Int) (r_ : Bool) (w : World) (hr0 : Kd.C (Kd.int .u8) w A0 l0.length l0) (hc0 : l0.length ≤ c0_) (h : laws_FnSlots.f k l0 = some r_) :
    Calls Tryd.prog 6 #[.slice A0 l0.length c0_] w fun e w' => e = .returned (.bool r_) ∧ Below w.heap.size w w' := by
  unfold laws_FnSlots.f at h
  obtain ⟨b, hb, hz_⟩ := Option.bind_eq_some_iff.mp h
  clear h; have h := hz_; clear hz_
  have KB := Aside0.mk (fun W hC => laws_big.calls A0 c0_ l0 b W hC hc0 hb)
  have HP := Aside0.mk hr0
  have HPC := Aside0.mk hc0
  clear hr0 hc0 hb
  cases b with
  | true =>
    rw [if_pos rfl] at h
    obtain rfl := Option.some.inj h
    clear h
    go_enter Tryd.func6, Tryd.ntmps6
    go_wp2_with fail
    go_at_call 14
    refine (KB.out _ HP.out).mono ?_
    rintro e w' ⟨rfl, nd, rfl⟩
    go_wp2
    go_ret
    exact ⟨rfl, pw_below_drewN (Below.refl _ _) _⟩
  | false =>
    rw [if_neg (by simp)] at h
    obtain ⟨⟨r, c, s⟩, ha, hz_⟩ := Option.bind_eq_some_iff.mp h
    clear h; have h := hz_; clear hz_
    obtain ⟨sl, hsl, hz_⟩ := Option.bind_eq_some_iff.mp h
    clear h; have h := hz_; clear hz_
    obtain ⟨b1, hb1, hz_⟩ := Option.bind_eq_some_iff.mp h
    clear h; have h := hz_; clear hz_
    obtain ⟨b2, hb2, hz_⟩ := Option.bind_eq_some_iff.mp h
    clear h; have h := hz_; clear hz_
    by_cases h12 : b2 = b1
    · rw [if_pos h12] at h
      subst h12
      have KD := Aside0.mk (fun W hC => spec_DrawSlotsOf.calls k A0 c0_ l0 r c s W hC HPC.out ha)
      have KS := Aside0.mk (fun W => impl_SlotsOf.calls k r c s sl W hsl)
      have KG := Aside0.mk (fun W => impl_IsGrid.calls k r c s b2 W hb1)
      have KG2 := Aside0.mk (fun W => spec_IsGrid.calls k r c s b2 W hb2)
      have HH := Aside0.mk h
      clear ha hsl hb1 hb2 h
      go_enter Tryd.func6, Tryd.ntmps6
      go_wp2_with fail
      go_at_call 14
      refine (KB.out _ HP.out).mono ?_
      rintro e w' ⟨rfl, nd, rfl⟩
      have HB1 := Aside0.mk (pw_below_drewN (Below.refl w.heap.size w) nd)
      clear KB
      generalize w.drewN nd = w1 at HB1 ⊢
      go_wp2_with fail
      go_at_call 24
      refine (KD.out _ (Kd.C_below HP.out HB1.out)).mono ?_
      rintro e w2 ⟨rfl, hb⟩
      have HB2 := Aside0.mk (below_step HB1.out hb)
      have BK := Aside0.mk (blk_new w2 (.cells #[.int .i64 r, .int .i64 c, .string s] 26))
      clear hb KD HB1
      go_wp2_with fail
      go_at_call 25
      refine (KS.out _).mono ?_
      rintro e w3 ⟨v0, rfl, hr, hb⟩
      obtain ⟨A, cA, rfl⟩ := Kd.R_slice hr
      have HF := Aside0.mk (show FsW w w2.heap.size r c s A sl w3 from ⟨blk_below BK.out hb, (Kd.R_reads' hr).2.2, below_step (below_alloc HB2.out _) hb⟩)
      clear hb hr KS HB2
      generalize w2.heap.size = B at HF ⊢
      have HFd := Aside0.mk HF.out.drew
      clear HF BK
      have HF := HFd
      clear HFd
      have c0 := (blk_cell HF.out.bk 0).trans rfl
      have c1 := (blk_cell HF.out.bk 1).trans rfl
      have c2 := (blk_cell HF.out.bk 2).trans rfl
      go_upto_region 5 with fail
      go_cut [21] (fun v21 w' => v21 = .bool false ∧ Aside0 (FsW w B r c s A sl w'))
      case first =>
        go_region_law (first | (go_simp; go_at_call 17; refine (KG.out _).mono ?_; rintro e wa ⟨rfl, hb9⟩; have HG := Aside0.mk (HF.out.below hb9); clear HF c0 c1 c2 hb9; have HF := HG; clear HG; have c0 := (blk_cell HF.out.bk 0).trans rfl; have c1 := (blk_cell HF.out.bk 1).trans rfl; have c2 := (blk_cell HF.out.bk 2).trans rfl) | (go_simp; go_at_call 18; refine (KG2.out _).mono ?_; rintro e wa ⟨rfl, hb9⟩; have HG := Aside0.mk (HF.out.below hb9); clear HF c0 c1 c2 hb9; have HF := HG; clear HG; have c0 := (blk_cell HF.out.bk 0).trans rfl; have c1 := (blk_cell HF.out.bk 1).trans rfl; have c2 := (blk_cell HF.out.bk 2).trans rfl))
        all_goals (go_wp2_with fail; go_meet; (case rel => exact ⟨by simp, HF⟩))
      case rest =>
        obtain ⟨rfl, HF2⟩ := hcut
        clear HF c0 c1 c2
        have HF := HF2
        clear HF2
        have c0 := (blk_cell HF.out.bk 0).trans rfl
        have c1 := (blk_cell HF.out.bk 1).trans rfl
        have c2 := (blk_cell HF.out.bk 2).trans rfl
        go_wp2_with fail
        go_at_call 17
        refine (KG.out _).mono ?_
        rintro e w5 ⟨rfl, hb9⟩
        have HG := Aside0.mk (HF.out.below hb9); clear HF c0 c1 c2 hb9; have HF := HG; clear HG; have c0 := (blk_cell HF.out.bk 0).trans rfl; have c1 := (blk_cell HF.out.bk 1).trans rfl; have c2 := (blk_cell HF.out.bk 2).trans rfl
        have h := HH.out
        clear HH KG KG2
        cases b2 with
        | false =>
          rw [if_neg (by simp)] at h
          by_cases h0 : sl.length = 0
          · rw [if_pos h0] at h
            obtain rfl := Option.some.inj h
            have z0 : ((sl.length : Int) == 0) = true := beq_iff_eq.mpr (by omega)
            have z1 : (sl.length == 0) = true := beq_iff_eq.mpr h0
            clear h
            go_wp2
            go_ret
            exact ⟨by simp [z0, h0], HF.out.bl⟩
          · rw [if_neg h0] at h
            cases h
        | true =>
          rw [if_pos rfl] at h
          unfold laws_FnSlots.g at h
          obtain ⟨g1, hg1, hz_⟩ := Option.bind_eq_some_iff.mp h
          clear h; have h := hz_; clear hz_
          by_cases hgl : g1 = true ∧ sl.length ≤ 1000 ∧ s.size ≤ 1000
          · rw [if_pos hgl] at h
            obtain ⟨rfl, hl1, hl2⟩ := hgl
            obtain ⟨g2, hg2, hz_⟩ := Option.bind_eq_some_iff.mp h
            clear h; have h := hz_; clear hz_
            by_cases hg3 : g2 = true
            · rw [if_pos hg3] at h
              subst hg3
              have HG1 := Aside0.mk (show soGo k r c s sl (sl.drop 0) 0 = some true from hg1)
              have HG2 := Aside0.mk (show scGo k r c s (s.size - 0) 0 = some true from hg2)
              have HL1 := Aside0.mk hl1
              have HL2 := Aside0.mk hl2
              have HT := Aside0.mk h
              clear hg1 hg2 hl1 hl2 h
              go_wp2
              clear c0 c1 c2
              go_loopg [5] sl.length (fun kq v5 w' => ∃ (i : Nat), v5 = .int .i64 (i : Int) ∧ Aside0 (i ≤ sl.length) ∧ Aside0 (sl.length - i ≤ kq) ∧ Aside0 (soGo k r c s sl (sl.drop i) i = some true) ∧ Aside0 (FsW w B r c s A sl w'))
              case atStart => exact ⟨0, rfl, ⟨Nat.zero_le _⟩, ⟨by omega⟩, HG1, HF⟩
              case round =>
                clear HG1 HF
                obtain ⟨i, rfl, hi, hk, heq, HF⟩ := hrel
                have hll := HL1.out
                by_cases hlt : i < sl.length
                · have cb0 : decide ((i : Int) < (sl.length : Int)) = true := by simp; exact hlt
                  have cb1 : decide (i < sl.length) = true := decide_eq_true hlt
                  have heq' := heq.out
                  rw [List.drop_eq_getElem_cons hlt, soGo_cons] at heq'
                  have hxe : rd_T48 sl (i : Int) = sl[i] := by
                    unfold rd_T48
                    simp [hlt]
                  obtain ⟨ad, e1, _⟩ := at_T48 HF.out.hs (i : Int) (by omega) (by omega)
                  generalize sl[i] = x at heq' hxe
                  obtain ⟨C, hC, hz_⟩ := Option.bind_eq_some_iff.mp heq'
                  clear heq'; have heq' := hz_; clear hz_
                  obtain ⟨nm, hnm, hz_⟩ := Option.bind_eq_some_iff.mp heq'
                  clear heq'; have heq' := hz_; clear hz_
                  obtain ⟨p, hp, hz_⟩ := Option.bind_eq_some_iff.mp heq'
                  clear heq'; have heq' := hz_; clear hz_
                  by_cases hc : ((C.length : Int) = x.f3 ∧ 2 ≤ C.length ∧ C.length ≤ 1000) ∧ (rd C 0 = x.f2 ∧ p = (i : Int)) ∧ ((0 ≤ rd C 0 ∧ rd C 0 ≤ 1000) ∧ (0 ≤ rd C 1 ∧ rd C 1 ≤ 1000)) ∧ (0 < i → slOrd (rd_T48 sl (i : Int)) (rd_T48 sl ((i : Int) - 1)) = true)
                  · rw [if_pos hc] at heq'
                    obtain ⟨g, hg, hz_⟩ := Option.bind_eq_some_iff.mp heq'
                    clear heq'; have heq' := hz_; clear hz_
                    by_cases hg1 : g = true
                    · rw [if_pos hg1] at heq'
                      have HE := Aside0.mk heq'
                      clear heq heq'
                      subst hg1
                      cases e1
                      obtain ⟨⟨hc1, hc2, hc3⟩, ⟨hc4, hc5⟩, ⟨hc6, hc7⟩, hord⟩ := hc
                      subst hc5
                      obtain ⟨n, d, a, b⟩ := x
                      simp only at hC hnm hc1 hc4
                      subst hc1
                      subst hc4
                      have HXE := Aside0.mk hxe
                      have KC := Aside0.mk (fun W => impl_CellsOf.calls k r c s n d (rd C 0) (C.length : Int) C W hC)
                      have KN := Aside0.mk (fun W => impl_SlotName.calls n d (rd C 0) (C.length : Int) nm W hnm)
                      have KNN := Aside0.mk (fun W => impl_SlotNamed.calls k r c s nm (i : Int) W hp)
                      have HGO := Aside0.mk (show slGo k r c s (i : Int) (rd C 0) (rd C 1 - rd C 0) (C.drop 0) 0 = some true from hg)
                      have HORD := Aside0.mk hord
                      have HLT := Aside0.mk hlt
                      clear hxe hC hnm hp hg hord
                      have p1 : (0 ≤ (i : Int)) = True := eq_true (by omega)
                      have q1 : ((i : Int) < (sl.length : Int)) = True := eq_true (by omega)
                      go_upto_region 12 with fail
                      go_cut [6] (fun v6 w' => ∃ (A6 : Option Addr) (c6 : Nat), v6 = .slice A6 C.length c6 ∧ Aside0 (Kd.C (Kd.int .i64) w' A6 C.length C) ∧ Aside0 (FsW w B r c s (some ad) sl w'))
                      case first => as_aux_lemma =>
                        have HFd := Aside0.mk HF.out.drew
                        clear HF
                        have HF := HFd
                        clear HFd
                        have c0 := (blk_cell HF.out.bk 0).trans rfl; have c1 := (blk_cell HF.out.bk 1).trans rfl; have c2 := (blk_cell HF.out.bk 2).trans rfl
                        obtain ⟨hx0, hx1, hx2, hx3⟩ := fs_slot HF.out (i := (i : Int)) (by omega) (by omega) rfl HXE.out; simp only [Int.toNat_natCast] at hx0 hx1 hx2 hx3
                        go_region_law (go_simp; go_at_call 26; refine (KC.out _).mono ?_; rintro e wa ⟨v6, rfl, hr6, hb9⟩; obtain ⟨A6, c6, rfl⟩ := Kd.R_slice hr6; have HC6 := Aside0.mk (Kd.R_reads' hr6).2.2; clear hr6; have HG := Aside0.mk (HF.out.below hb9); clear HF c0 c1 c2 hb9; have HF := HG; clear HG; have c0 := (blk_cell HF.out.bk 0).trans rfl; have c1 := (blk_cell HF.out.bk 1).trans rfl; have c2 := (blk_cell HF.out.bk 2).trans rfl)
                        all_goals (go_wp2_with fail; go_meet; (case rel => exact ⟨_, _, rfl, HC6, HF⟩))
                      case rest =>
                        obtain ⟨A6, c6, rfl, HC6, HF2⟩ := hcut
                        clear HF
                        have HF := HF2
                        clear HF2
                        obtain ⟨bk, o, rfl, _, _⟩ := fs_cells HC6.out hc2
                        have z2 : decide ((C.length : Int) < 2) = false := decide_eq_false (by omega)
                        have z3 : decide (C.length < 2) = false := decide_eq_false (by omega)
                        have q2 : ((0 : Int) < (C.length : Int)) = True := eq_true (by omega)
                        have q3 : (0 < C.length) = True := eq_true (by omega)
                        have q4 : ((1 : Int) < (C.length : Int)) = True := eq_true (by omega)
                        have q5 : (1 < C.length) = True := eq_true (by omega)
                        go_upto_region 13 with fail
                        go_cut [74] (fun v74 w' => v74 = .bool false ∧ Aside0 (Kd.C (Kd.int .i64) w' (some ⟨bk, o, none⟩) C.length C) ∧ Aside0 (FsW w B r c s (some ad) sl w'))
                        case first => as_aux_lemma =>
                          have HCd := Aside0.mk (Kd.C_below HC6.out (below_drew (Below.refl _ _)))
                          have HFd := Aside0.mk HF.out.drew
                          clear HF HC6
                          have HALL := fs_all HFd.out HCd.out hc2 HLT.out HXE.out
                          go_region_held3 (fun w' => w'.cell? ⟨B, 0, none⟩ = some (.int .i64 r) ∧ w'.cell? ⟨B, 1, none⟩ = some (.int .i64 c) ∧ w'.cell? ⟨B, 2, none⟩ = some (.string s) ∧ w'.cell? (ad.add (i * 4)) = some (.int .i64 n) ∧ w'.cell? ⟨(ad.add (i * 4)).block, (ad.add (i * 4)).off + 1, none⟩ = some (.bool d) ∧ w'.cell? ⟨(ad.add (i * 4)).block, (ad.add (i * 4)).off + 2, none⟩ = some (.int .i64 (rd C 0)) ∧ w'.cell? ⟨(ad.add (i * 4)).block, (ad.add (i * 4)).off + 3, none⟩ = some (.int .i64 (C.length : Int)) ∧ w'.cell? ⟨bk, o, none⟩ = some (.int .i64 (rd C 0)) ∧ Aside0 (Kd.C (Kd.int .i64) w' (some ⟨bk, o, none⟩) C.length C) ∧ Aside0 (FsW w B r c s (some ad) sl w')) (first | (go_split_ands; exact fs_all (‹Aside0 (FsW _ _ _ _ _ _ _ _)›.out.below hb9) (Kd.C_below (‹Aside0 (Kd.C _ _ _ _ _)›.out) hb9) hc2 HLT.out HXE.out) | exact HALL) (first | (go_at_call 27; refine (KN.out _).mono ?_; rintro e wa ⟨rfl, hb9⟩) | (go_at_call 10; refine (KNN.out _).mono ?_; rintro e wa ⟨rfl, hb9⟩))
                          all_goals (go_wp2_with fail; go_meet; (case rel => (go_split_ands; exact ⟨by simp, ‹Aside0 (Kd.C _ _ _ _ _)›, ‹Aside0 (FsW _ _ _ _ _ _ _ _)›⟩)))
                        case rest =>
                          obtain ⟨rfl, HC8, HF2⟩ := hcut
                          clear HF HC6
                          have HF := HF2
                          have HC6 := HC8
                          clear HF2 HC8
                          obtain ⟨bk2, o2, e2, hy0, hy1⟩ := fs_cells HC6.out hc2
                          cases e2
                          go_wp2
                          go_quiet (fail)
                          have HF9 := Aside0.mk (HF.out.below (pw_below_drewN (Below.refl _ _) nq))
                          have HC9 := Aside0.mk (Kd.C_below HC6.out (pw_below_drewN (Below.refl _ _) nq))
                          clear HF HC6 hy0 hy1
                          go_wp2
                          generalize hst : rd C 1 - rd C 0 = st at HGO ⊢
                          clear hst
                          go_loopg [8] C.length (fun kq v8 w' => ∃ (q : Nat), v8 = .int .i64 (q : Int) ∧ Aside0 (q ≤ C.length) ∧ Aside0 (C.length - q ≤ kq) ∧ Aside0 (slGo k r c s (i : Int) (rd C 0) st (C.drop q) q = some true) ∧ Aside0 (Kd.C (Kd.int .i64) w' (some ⟨bk, o, none⟩) C.length C) ∧ Aside0 (FsW w B r c s (some ad) sl w'))
                          case atStart => exact ⟨0, rfl, ⟨Nat.zero_le _⟩, ⟨by omega⟩, HGO, HC9, HF9⟩
                          case round =>
                            clear HGO HC9 HF9
                            obtain ⟨q, rfl, hq, hkq, heq, HC6, HF⟩ := hrel
                            by_cases hqt : q < C.length
                            · have cb2 : decide ((q : Int) < (C.length : Int)) = true := by simp; exact hqt
                              have cb3 : decide (q < C.length) = true := decide_eq_true hqt
                              have heq' := heq.out
                              rw [List.drop_eq_getElem_cons hqt, slGo_cons] at heq'
                              have hce : rd C (q : Int) = C[q] := by
                                unfold rd
                                simp [hqt]
                              generalize C[q] = y at heq' hce
                              obtain ⟨t, ht, hz_⟩ := Option.bind_eq_some_iff.mp heq'
                              clear heq'; have heq' := hz_; clear hz_
                              obtain ⟨al, hal, hz_⟩ := Option.bind_eq_some_iff.mp heq'
                              clear heq'; have heq' := hz_; clear hz_
                              obtain ⟨t2, ht2, hz_⟩ := Option.bind_eq_some_iff.mp heq'
                              clear heq'; have heq' := hz_; clear hz_
                              by_cases hcc : t = true ∧ t2 = true ∧ (y = rd C 0 + (q : Int) * st ∧ (0 ≤ y ∧ y ≤ 1000) ∧ (0 ≤ (q : Int) * st ∧ (q : Int) * st ≤ 1000)) ∧ al.length ≤ 1000
                              · rw [if_pos hcc] at heq'
                                have HE2 := Aside0.mk heq'
                                clear heq heq'
                                obtain ⟨rfl, rfl, ⟨hy, hyb, hqb⟩, hal2⟩ := hcc
                                have KW := Aside0.mk (fun W => impl_IsWhite.calls k r c s y true W ht)
                                have KA := Aside0.mk (fun W => impl_SlotsAt.calls k r c s y al W hal)
                                have KCN := Aside0.mk (fun Ax cx W h1 h2 => laws_contains.calls k Ax cx al (i : Int) true W h1 h2 ht2)
                                have z5 : (y != rd C 0 + (q : Int) * st) = false := bne_eq_false_iff_eq.mpr hy
                                have z6 : (y == rd C 0 + (q : Int) * st) = true := beq_iff_eq.mpr hy
                                have wp1 : IntKind.i64.wrap ((q : Int) * st) = (q : Int) * st := IntWalk.i64_in _ (by omega)
                                have wp2 : IntKind.i64.wrap (rd C 0 + (q : Int) * st) = rd C 0 + (q : Int) * st := IntWalk.i64_in _ (by omega)
                                clear hy hyb hqb
                                have p3 : (0 ≤ (q : Int)) = True := eq_true (by omega)
                                have q6 : ((q : Int) < (C.length : Int)) = True := eq_true (by omega)
                                have HCE := Aside0.mk hce
                                clear ht hal ht2 hce
                                go_upto_region 19 with fail
                                go_cut [119] (fun v119 w' => v119 = .bool false ∧ Aside0 (Kd.C (Kd.int .i64) w' (some ⟨bk, o, none⟩) C.length C) ∧ Aside0 (FsW w B r c s (some ad) sl w'))
                                case first => as_aux_lemma =>
                                  have HCd := Aside0.mk (Kd.C_below HC6.out (below_drew (Below.refl _ _)))
                                  have HFd := Aside0.mk HF.out.drew
                                  clear HF HC6
                                  have HALL := fs_all2 HFd.out HCd.out hc2 hqt HCE.out
                                  go_region_held3 (fun w' => w'.cell? ⟨B, 0, none⟩ = some (.int .i64 r) ∧ w'.cell? ⟨B, 1, none⟩ = some (.int .i64 c) ∧ w'.cell? ⟨B, 2, none⟩ = some (.string s) ∧ w'.cell? ⟨bk, o, none⟩ = some (.int .i64 (rd C 0)) ∧ w'.cell? ⟨bk, o + q, none⟩ = some (.int .i64 y) ∧ Aside0 (Kd.C (Kd.int .i64) w' (some ⟨bk, o, none⟩) C.length C) ∧ Aside0 (FsW w B r c s (some ad) sl w')) (first | (go_split_ands; exact fs_all2 (‹Aside0 (FsW _ _ _ _ _ _ _ _)›.out.below hb9) (Kd.C_below (‹Aside0 (Kd.C _ _ _ _ _)›.out) hb9) hc2 hqt HCE.out) | exact HALL) (first | (go_at_call 23; refine (KW.out _).mono ?_; rintro e wa ⟨rfl, hb9⟩) | (go_at_call 29; refine (KA.out _).mono ?_; rintro e wa ⟨va, rfl, hra, hb9⟩; obtain ⟨Aa, ca, rfl⟩ := Kd.R_slice hra; have HCA := Aside0.mk (Kd.R_reads' hra).2.2; have HCL := Aside0.mk (Kd.R_reads' hra).2.1; clear hra) | (go_at_call 28; refine (KCN.out _ _ _ HCA.out HCL.out).mono ?_; rintro e wa ⟨rfl, nd9, hdr⟩; have hb9 := fs_drewN hdr; clear hdr))
                                  all_goals (go_wp2_with fail; go_meet; (case rel => (go_split_ands; exact ⟨by simp, ‹Aside0 (Kd.C _ _ _ _ _)›, ‹Aside0 (FsW _ _ _ _ _ _ _ _)›⟩)))
                                case rest =>
                                  obtain ⟨rfl, HC8, HF2⟩ := hcut
                                  go_wp2
                                  go_roundg (C.length - (q + 1))
                                  case measure => have := hkq.out; omega
                                  case rel => exact ⟨q + 1, by simp, ⟨by omega⟩, ⟨Nat.le_refl _⟩, HE2, HC8, HF2⟩
                              · rw [if_neg hcc] at heq'
                                cases heq'
                            · have cb2 : decide ((q : Int) < (C.length : Int)) = false := by simp; omega
                              have cb3 : decide (q < C.length) = false := decide_eq_false hqt
                              clear heq HC6
                              by_cases hi0 : 0 < i
                              ·
                                have hor := HORD.out hi0
                                unfold slOrd at hor
                                rw [Bool.and_eq_true, decide_eq_true_eq, HXE.out] at hor
                                obtain ⟨⟨ho1, ho2⟩, ho3⟩ := hor
                                simp only at ho1 ho2 ho3
                                obtain ⟨hx0, hx1, hx2, hx3⟩ := fs_slot HF.out (i := (i : Int)) (by omega) (by omega) rfl HXE.out
                                simp only [Int.toNat_natCast] at hx0 hx1 hx2 hx3
                                generalize hpv : rd_T48 sl ((i : Int) - 1) = pv at ho1 ho2 ho3
                                obtain ⟨hw0, hw1, hw2, hw3⟩ := fs_slot HF.out (i := (i : Int) - 1) (by omega) (by omega) rfl hpv
                                obtain ⟨n2, d2, a2, b2⟩ := pv
                                simp only at ho1 ho2 ho3 hw0 hw1 hw2 hw3
                                have y1 : decide ((0 : Int) < (i : Int)) = true := decide_eq_true (by omega)
                                have y2 : decide (0 < i) = true := decide_eq_true hi0
                                have hi1 : ((i : Int) - 1).toNat = i - 1 := by omega
                                rw [hi1] at hw0 hw1 hw2 hw3
                                have p5 : ((0 : Int) ≤ (i : Int) - 1) = True := eq_true (by omega)
                                have q7 : ((i : Int) - 1 < (sl.length : Int)) = True := eq_true (by omega)
                                have q8 : (i - 1 < sl.length) = True := eq_true (by omega)
                                clear hx2 hx3 hw2 hw3
                                by_cases hnn : n = n2
                                · as_aux_lemma =>
                                  subst hnn
                                  have hd2 : d2 = false ∧ d = true := by simpa using ho3
                                  obtain ⟨rfl, rfl⟩ := hd2
                                  have y3 : decide (n < n) = false := decide_eq_false (by omega)
                                  have y4 : decide (n + 1 < n) = false := decide_eq_false (by omega)
                                  have y5 : (n == n) = true := beq_self_eq_true n
                                  clear ho3 hpv
                                  go_wp2
                                  go_quiet (fail)
                                  have HF9 := Aside0.mk (HF.out.below (pw_below_drewN (Below.refl _ _) nq))
                                  clear HF
                                  go_wp2
                                  go_roundg (sl.length - (i + 1))
                                  case measure => have := hk.out; omega
                                  case rel => exact ⟨i + 1, by simp, ⟨by omega⟩, ⟨Nat.le_refl _⟩, HE, HF9⟩
                                · as_aux_lemma =>
                                  have y3 : decide (n < n2) = false := decide_eq_false (by omega)
                                  have y4 : decide (n2 + 1 < n) = false := decide_eq_false (by omega)
                                  have y5 : (n == n2) = false := beq_eq_false_iff_ne.mpr hnn
                                  clear ho3 hpv
                                  go_wp2
                                  go_quiet (fail)
                                  have HF9 := Aside0.mk (HF.out.below (pw_below_drewN (Below.refl _ _) nq))
                                  clear HF
                                  go_wp2
                                  go_roundg (sl.length - (i + 1))
                                  case measure => have := hk.out; omega
                                  case rel => exact ⟨i + 1, by simp, ⟨by omega⟩, ⟨Nat.le_refl _⟩, HE, HF9⟩
                              · have y1 : decide ((0 : Int) < (i : Int)) = false := decide_eq_false (by omega)
                                have y2 : decide (0 < i) = false := decide_eq_false hi0
                                go_wp2
                                go_quiet (fail)
                                have HF9 := Aside0.mk (HF.out.below (pw_below_drewN (Below.refl _ _) nq))
                                clear HF
                                go_wp2
                                go_roundg (sl.length - (i + 1))
                                case measure => have := hk.out; omega
                                case rel => exact ⟨i + 1, by simp, ⟨by omega⟩, ⟨Nat.le_refl _⟩, HE, HF9⟩
                    · rw [if_neg hg1] at heq'
                      cases heq'
                  · rw [if_neg hc] at heq'
                    cases heq'
                · have cb0 : decide ((i : Int) < (sl.length : Int)) = false := by simp; omega
                  have cb1 : decide (i < sl.length) = false := decide_eq_false hlt
                  clear heq hi hk hlt
                  go_wp2
                  go_loopg [9] s.size (fun kq v9 w' => ∃ (j : Nat), v9 = .int .i64 (j : Int) ∧ Aside0 (j ≤ s.size) ∧ Aside0 (s.size - j ≤ kq) ∧ Aside0 (scGo k r c s (s.size - j) j = some true) ∧ Aside0 (FsW w B r c s A sl w'))
                  case atStart => exact ⟨0, rfl, ⟨Nat.zero_le _⟩, ⟨by omega⟩, HG2, HF⟩
                  case round =>
                    clear HG2 HF
                    obtain ⟨j, rfl, hj, hk, heq, HF⟩ := hrel
                    have hls := HL2.out
                    have c0 := (blk_cell HF.out.bk 0).trans rfl; have c1 := (blk_cell HF.out.bk 1).trans rfl; have c2 := (blk_cell HF.out.bk 2).trans rfl
                    by_cases hlt : j < s.size
                    · have cb0 : decide ((j : Int) < (s.size : Int)) = true := by simp; exact hlt
                      have cb1 : decide (j < s.size) = true := decide_eq_true hlt
                      have heq' := heq.out
                      rw [show s.size - j = (s.size - (j + 1)) + 1 by omega, scGo_succ] at heq'
                      obtain ⟨a, ha, hz_⟩ := Option.bind_eq_some_iff.mp heq'
                      clear heq'; have heq' := hz_; clear hz_
                      by_cases ha2 : a.length ≤ 2
                      · rw [if_pos ha2] at heq'
                        have KA := Aside0.mk (fun W => impl_SlotsAt.calls k r c s (j : Int) a W ha)
                        have z2 : decide ((2 : Int) < (a.length : Int)) = false := decide_eq_false (by omega)
                        have z3 : decide (2 < a.length) = false := decide_eq_false (by omega)
                        have HLT := Aside0.mk hlt
                        by_cases ha0 : 0 < a.length
                        · rw [if_pos ha0] at heq'
                          obtain ⟨t, ht, hz_⟩ := Option.bind_eq_some_iff.mp heq'
                          clear heq'; have heq' := hz_; clear hz_
                          by_cases ht1 : t = true
                          · rw [if_pos ht1] at heq'
                            subst ht1
                            have KI := Aside0.mk (fun W => impl_IsWhite.calls k r c s (j : Int) true W ht)
                            have z4 : decide ((0 : Int) < (a.length : Int)) = true := decide_eq_true (by omega)
                            have z5 : decide (0 < a.length) = true := decide_eq_true ha0
                            have HE := Aside0.mk heq'
                            clear heq heq' ha ht
                            go_wp2_with fail
                            go_at_call 29
                            refine (KA.out _).mono ?_
                            rintro e wa ⟨va, rfl, hra, hb9⟩
                            obtain ⟨Aa, ca, rfl⟩ := Kd.R_slice hra
                            clear hra
                            have HG := Aside0.mk (HF.out.below hb9); clear HF c0 c1 c2 hb9; have HF := HG; clear HG; have c0 := (blk_cell HF.out.bk 0).trans rfl; have c1 := (blk_cell HF.out.bk 1).trans rfl; have c2 := (blk_cell HF.out.bk 2).trans rfl
                            go_wp2_with fail
                            go_at_call 29
                            refine (KA.out _).mono ?_
                            rintro e wb ⟨vb, rfl, hra, hb9⟩
                            obtain ⟨Ab, cb, rfl⟩ := Kd.R_slice hra
                            clear hra
                            have HG := Aside0.mk (HF.out.below hb9); clear HF c0 c1 c2 hb9; have HF := HG; clear HG; have c0 := (blk_cell HF.out.bk 0).trans rfl; have c1 := (blk_cell HF.out.bk 1).trans rfl; have c2 := (blk_cell HF.out.bk 2).trans rfl
                            go_wp2_with fail
                            go_at_call 23
                            refine (KI.out _).mono ?_
                            rintro e wc ⟨rfl, hb9⟩
                            have HG := Aside0.mk (HF.out.below hb9); clear HF c0 c1 c2 hb9; have HF := HG; clear HG; have c0 := (blk_cell HF.out.bk 0).trans rfl; have c1 := (blk_cell HF.out.bk 1).trans rfl; have c2 := (blk_cell HF.out.bk 2).trans rfl
                            go_wp2
                            go_roundg (s.size - (j + 1))
                            case measure => have := hk.out; have := HLT.out; omega
                            case rel => exact ⟨j + 1, by simp, ⟨by have := HLT.out; omega⟩, ⟨Nat.le_refl _⟩, HE, HF⟩
                          · rw [if_neg ht1] at heq'
                            cases heq'
                        · rw [if_neg ha0] at heq'
                          have z4 : decide ((0 : Int) < (a.length : Int)) = false := decide_eq_false (by omega)
                          have z5 : decide (0 < a.length) = false := decide_eq_false ha0
                          have HE := Aside0.mk heq'
                          clear heq heq' ha
                          go_wp2_with fail
                          go_at_call 29
                          refine (KA.out _).mono ?_
                          rintro e wa ⟨va, rfl, hra, hb9⟩
                          obtain ⟨Aa, ca, rfl⟩ := Kd.R_slice hra
                          clear hra
                          have HG := Aside0.mk (HF.out.below hb9); clear HF c0 c1 c2 hb9; have HF := HG; clear HG; have c0 := (blk_cell HF.out.bk 0).trans rfl; have c1 := (blk_cell HF.out.bk 1).trans rfl; have c2 := (blk_cell HF.out.bk 2).trans rfl
                          go_wp2_with fail
                          go_at_call 29
                          refine (KA.out _).mono ?_
                          rintro e wb ⟨vb, rfl, hra, hb9⟩
                          obtain ⟨Ab, cb, rfl⟩ := Kd.R_slice hra
                          clear hra
                          have HG := Aside0.mk (HF.out.below hb9); clear HF c0 c1 c2 hb9; have HF := HG; clear HG; have c0 := (blk_cell HF.out.bk 0).trans rfl; have c1 := (blk_cell HF.out.bk 1).trans rfl; have c2 := (blk_cell HF.out.bk 2).trans rfl
                          go_wp2
                          go_roundg (s.size - (j + 1))
                          case measure => have := hk.out; have := HLT.out; omega
                          case rel => exact ⟨j + 1, by simp, ⟨by have := HLT.out; omega⟩, ⟨Nat.le_refl _⟩, HE, HF⟩
                      · rw [if_neg ha2] at heq'
                        cases heq'
                    · have cb0 : decide ((j : Int) < (s.size : Int)) = false := by simp; omega
                      have cb1 : decide (j < s.size) = false := decide_eq_false hlt
                      have hT := HT.out
                      obtain ⟨⟨t1, t2, t3⟩, htu, hz_⟩ := Option.bind_eq_some_iff.mp hT
                      clear hT; have hT := hz_; clear hz_
                      obtain ⟨l2, hl2, hz_⟩ := Option.bind_eq_some_iff.mp hT
                      clear hT; have hT := hz_; clear hz_
                      by_cases hle : l2.length = sl.length
                      · rw [if_pos hle] at hT
                        obtain rfl := Option.some.inj hT
                        have KT := Aside0.mk (fun W => impl_TurnGrid.calls k r c s t1 t2 t3 W htu)
                        have KL := Aside0.mk (fun W => impl_SlotsOf.calls k t1 t2 t3 l2 W hl2)
                        have z2 : ((l2.length : Int) == (sl.length : Int)) = true := beq_iff_eq.mpr (by omega)
                        have z3 : (l2.length == sl.length) = true := beq_iff_eq.mpr hle
                        clear heq hT HT htu hl2 hlt
                        go_wp2_with fail
                        go_at_call 19
                        refine (KT.out _).mono ?_
                        rintro e wa ⟨rfl, hb9⟩
                        have HG := Aside0.mk (HF.out.below hb9); clear HF c0 c1 c2 hb9; have HF := HG; clear HG; have c0 := (blk_cell HF.out.bk 0).trans rfl; have c1 := (blk_cell HF.out.bk 1).trans rfl; have c2 := (blk_cell HF.out.bk 2).trans rfl
                        go_wp2_with fail
                        go_at_call 25
                        refine (KL.out _).mono ?_
                        rintro e wb ⟨vb, rfl, hrb, hb⟩
                        obtain ⟨Ab, cb, rfl⟩ := Kd.R_slice hrb
                        have HBB := Aside0.mk (below_step (below_alloc HF.out.bl _) hb)
                        clear hrb hb
                        go_wp2
                        go_ret
                        exact ⟨rfl, HBB.out⟩
                      · rw [if_neg hle] at hT
                        cases hT
            · rw [if_neg hg3] at h
              cases h
          · rw [if_neg hgl] at h
            cases h
    · rw [if_neg h12] at h
      cases h
/-- THE ONE PURE STATEMENT of laws_FnSlots. -/
def laws_FnSlots.Pure : Prop := ∀ (l0 : List Int), l0.length ≤ maxLen → l0.length * 1 ≤ 140737488351232 → (∀ x ∈ l0, (Lit.int .u8 x).wf = true) → ∃ k, laws_FnSlots.f k l0 = some true
theorem laws_FnSlots.walk (P : laws_FnSlots.Pure) (a0 : Option Addr) (len0 cap0 : Nat) (z0 : List Int) (w : World) (w0 : (a0 = none ∧ len0 = 0 ∧ cap0 = 0 ∧ z0 = []) ∨ ∃ x, a0 = some x ∧ len0 ≤ cap0 ∧ cap0 ≤ maxLen ∧ z0.length = cap0 ∧ (∀ i, i < z0.length → w.cell? (x.add i) = some (.int .u8 (z0.getD i 0))) ∧ ∀ n ∈ z0, (Lit.int .u8 n).wf = true) (y0 : len0 * 1 ≤ 140737488351232) :
    Calls Tryd.prog 6 #[.slice a0 len0 cap0] w fun e w' => e = .returned (.bool true) ∧ Below w.heap.size w w' := by
  obtain ⟨l0, rfl, hr0, hm0, hw0, hc0⟩ := ReadsInt.ofRowC w0
  obtain ⟨k, h⟩ := P l0 hm0 y0 hw0
  refine (laws_FnSlots.calls k _ _ l0 true w (Kd.C_of_reads (d := (0 : Int)) (h1 := fun _ => rfl) hr0) hc0 h).mono ?_
  rintro e w' ⟨rfl, hd⟩
  exact ⟨rfl, hd⟩


end Go.Proofs.YtodcckiphdnjeacDoor.QFnSlots
