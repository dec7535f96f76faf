-- Written by a changed copy of the kit's printer (wip/mp.py of this repo), for this claim; Lean checks it.
import Derived.Test.YtodcckiphdnjeaaQFnPrunedx0
import Derived.Test.YtodcckiphdnjeaaQFnPrunedx10
import Derived.Test.YtodcckiphdnjeaaQFnPrunedx11
import Derived.Test.YtodcckiphdnjeaaQFnPrunedx18
namespace Go.Proofs.Ytodcckiphdnjeaa.QFnPruned
open Go.RowKit Go.Proofs.YtodcckiphdnjeaaW.PrintWords Go.Proofs.YtodcckiphdnjeaaW.PrintLast Go.Proofs.YtodcckiphdnjeaaW.PrintMore
attribute [local go_sem] max2_int min2_int max_two min_two max_three min_three max_four min_four   -- for this text's walks alone
set_option linter.unusedVariables false
set_option maxHeartbeats 8000000
set_option maxRecDepth 100000
set_option linter.unusedSimpArgs false

theorem z19_0 {p : Prop} (h : p := by repeat (first | (with_reducible first | exact HB.out | apply below_alloc | apply pw_below_drewN | apply below_drew1 | refine below_set ?_ GE430.out) | exact HB.out)) : p := h
/-! ### spec_SlotsAt: function 81 -/
def spec_SlotsAt.l0 : Nat → Int → List Int → List (S65) → Int → Int → Int → ByteArray → Option (List Int)
  | 0, _, _, _, _, _, _, _ => none
  | k + 1, x1, x5, x6, x7, x431000, x431001, x431002 => if x7 < (x6.length : Int) then (if 0 ≤ x7 then ((spec_CellsOf.f k x431000 x431001 x431002 ((rd_T65 x6 x7).f0) ((rd_T65 x6 x7).f1) ((rd_T65 x6 x7).f2) ((rd_T65 x6 x7).f3)).bind fun t438 => ((spec_l8Has.f k t438 x1).bind fun t441 => (if t441 = true then (if x5.length < 17592186044416 then (spec_SlotsAt.l0 k x1 (x5 ++ [x7]) x6 (wrap64 (x7 + 1)) x431000 x431001 x431002) else (none)) else (spec_SlotsAt.l0 k x1 x5 x6 (wrap64 (x7 + 1)) x431000 x431001 x431002)))) else (none)) else (some x5)
def spec_SlotsAt.f (k : Nat) (a0_0 : Int) (a0_1 : Int) (a0_2 : ByteArray) (a1 : Int) : Option (List Int) := (spec_SlotsOf.f k a0_0 a0_1 a0_2).bind fun t434 => (spec_SlotsAt.l0 k a1 (([] : List Int)) t434 0 a0_0 a0_1 a0_2)
def spec_SlotsAt.T6 : Bool × List (List Nat × List Nat) := (true, [([], []), ([], []), ([], []), ([1, 2], [1, 2]), ([3], [3]), ([0, 4], [0, 4]), ([], []), ([5, 6, 5], [5, 6])])
def spec_SlotsAt.B6 : List Nat := [0, 0, 0, 6, 14, 31, 0, 127]
theorem spec_SlotsAt.tab6 : rtab .any (opsOf Try.f81 6) = spec_SlotsAt.T6 := by kernel_rfl
theorem spec_SlotsAt.bits6 : waitsOk spec_SlotsAt.T6.2 spec_SlotsAt.B6 = true := by kernel_rfl
theorem spec_SlotsAt.calls (k : Nat) (a0_0 : Int) (a0_1 : Int) (a0_2 : ByteArray) (a1 : Int) (r : List Int) (w : World) (h : spec_SlotsAt.f k a0_0 a0_1 a0_2 a1 = some r) :
   Calls Try.prog 81 #[.agg #[.int .i64 a0_0, .int .i64 a0_1, .string a0_2], .int .i64 a1] w fun e w' => ∃ v0_ : Value, e = .returned (v0_) ∧ Kd.R (Kd.int .i64) 3 w' w.heap.size (fun _ => True) v0_ r ∧ Below w.heap.size w w' := by
  have hu28 := Try.underlying28; have hu65 := Try.underlying65; have HB := Aside0.mk (Below.refl w.heap.size w); have H : ((spec_SlotsOf.f k a0_0 a0_1 a0_2).bind fun t434 => (spec_SlotsAt.l0 k a1 (([] : List Int)) t434 0 a0_0 a0_1 a0_2)) = some r := h; clear h; obtain ⟨y431, hy431⟩ : ∃ y_ : List Int, y_ = (([] : List Int)) := ⟨_, rfl⟩; replace H : ((spec_SlotsOf.f k a0_0 a0_1 a0_2).bind fun t434 => (spec_SlotsAt.l0 k a1 y431 t434 0 a0_0 a0_1 a0_2)) = some r := by first | (rw [hy431]; with_reducible exact H) | (have H2_ := (Option.bind_some _ _).symm.trans H; rw [hy431]; with_reducible exact H2_) | (have H2_ := (Option.bind_some _ _).symm.trans H; with_reducible exact H2_) | with_reducible exact H | (rw [hy431]; exact H) | exact H
  have Ny431 := Aside0.mk hy431; clear hy431; replace H := Option.bind_eq_some_iff.mp H; obtain ⟨t434, A30, H⟩ := H; try dsimp only at H
  have A3 := Aside0.mk A30; clear A30; have H' := Aside0.mk H
  clear H; go_enter Try.func81, Try.ntmps81
  go_wp2_with (first | ((with_reducible refine gate_dst (N := 2) rfl ?_); refine box_event ?hg (N := 2) ?hd (cs := #[.int .i64 a0_0, .int .i64 a0_1, .string a0_2]) (t := 28) ?hr ?_; (case hd => rfl); (case hg => rfl); (case hr => first | (go_simp; done) | (go_simp; rfl)); intro gb430 hg w4 hbox hb; have BK430 := Aside0.mk (hbox); have GW430 := Aside0.mk ((by rw [hg]; exact (below_size (by repeat (first | (with_reducible first | exact HB.out | apply below_alloc | apply pw_below_drewN | apply below_drew1) | exact HB.out))) : w.heap.size ≤ gb430)); have GE430 := Aside0.mk ((by rw [hg]; exact (below_size (by repeat (first | (with_reducible first | exact HB.out | apply below_alloc | apply pw_below_drewN | apply below_drew1) | exact HB.out))) : w.heap.size ≤ gb430)); replace HB := Aside0.mk (below_step (by repeat (first | (with_reducible first | exact HB.out | apply below_alloc | apply pw_below_drewN | apply below_drew1) | exact HB.out)) hb); clear hb hbox hg) | ((with_reducible refine gate_dst (N := 8) rfl ?_); refine Kd.R_lit (Kd.int .i64) _ 3 ?hg (N := 8) ?hd (xs := ([] : List Int)) (inner := []) (ok := fun _ => True) (okp := fun _ => True) ?hr ?hp (fun _ hk => hk) trivial (Below.refl _ _) (Nat.le_refl _) (by simp) ?_; (case hd => rfl); (case hg => rfl); (case hr => first | (go_simp; done) | (go_simp; rfl)); (case hp => exact (Reps.none _ _)); intro v432 w5 ho6 hb hg_ hnew_; clear hg_ hnew_; (first | rw [← Ny431.out] at ho6 | (simp only [Int.reduceToNat] at ho6; rw [← Ny431.out] at ho6)); have HO433 := Aside0.mk (Kd.R_lower ho6 (below_size z19_0)); replace BK430 := Aside0.mk (blk_below (g := gb430) (o := .cells #[.int .i64 a0_0, .int .i64 a0_1, .string a0_2] 28 (0, 0)) (bd_g7 BK430.out) hb); replace HB := Aside0.mk (below_step z19_0 hb); clear hb ho6; obtain ⟨hcz7_0, hcz7_1, hcz7_2, hfz7_0, hfz7_1, hfz7_2⟩ := bc3_g0 BK430.out) | ((with_reducible refine gate_callee (f := 45) rfl ?_); refine goesL_ (some 10) rfl rfl Try.func45 (by kernel_rfl) rfl #[.agg #[.int .i64 a0_0, .int .i64 a0_1, .string a0_2]] rfl z_g9 ?_; (with_reducible refine (spec_SlotsOf.calls k a0_0 a0_1 a0_2 t434 _ A3.out).mono ?_); rintro e w8 ⟨v435, rfl, ho0, hb⟩; refine ⟨_, rfl, ?_⟩; replace HO433 := Aside0.mk (Kd.R_below (kd_g8 HO433.out) hb); have HO436 := Aside0.mk (Kd.R_lower ho0 (below_size z19_0)); replace BK430 := Aside0.mk (blk_below (g := gb430) (o := .cells #[.int .i64 a0_0, .int .i64 a0_1, .string a0_2] 28 (0, 0)) (bd_g7 BK430.out) hb); replace HB := Aside0.mk (below_step z19_0 hb); (try clear hb); (try clear ho0)))
  go_loopg [5, 7] k (fun kq v5 v7 w' => ∃ (x5_1 : List Int) (x7_1 : Int), v7 = .int .i64 x7_1 ∧ Aside0 (spec_SlotsAt.l0 kq a1 x5_1 t434 x7_1 a0_0 a0_1 a0_2 = some r) ∧ Aside0 (kq ≤ k) ∧ Aside0 (Kd.R (Kd.int .i64) 3 w' w.heap.size (fun _ => True) v5 x5_1) ∧ Aside0 (Kd.R k65 65 w' w.heap.size (fun _ => True) v435 t434) ∧ Aside0 (w'.heap[gb430]? = some (.cells #[.int .i64 a0_0, .int .i64 a0_1, .string a0_2] 28 (0, 0))) ∧ Aside0 (Below w.heap.size w w'))
  case atStart => exact ⟨(y431), (0), (by first | rfl | (simp; done) | (simp [*]; done)), H', ⟨Nat.le_refl _⟩, ⟨by (with_reducible repeat (first | apply Kd.R_alloc | apply Kd.R_drewN | apply Kd.R_drew)); exact HO433.out⟩, ⟨by (with_reducible repeat (first | apply Kd.R_alloc | apply Kd.R_drewN | apply Kd.R_drew)); exact HO436.out⟩, ⟨by (with_reducible repeat (first | refine blk_drewN ?_ _ | refine blk_drew ?_ | refine blk_alloc ?_ _)); exact BK430.out⟩, ⟨z19_0⟩⟩
  case round =>
   clear H'; try clear p2
   try clear c4
   try clear c8
   try clear hcz7_0 hcz7_1 hcz7_2 hfz7_0 hfz7_1 hfz7_2
   obtain ⟨x5_1, x7_1, rfl, HA, HK1, HO_5, HO_6, BK430, HB⟩ := hrel
   cases gk with
   | zero => exact absurd HA.out (by simp [spec_SlotsAt.l0])
   | succ k1 =>
    have H := HA.out; clear HA; simp only [spec_SlotsAt.l0] at H; by_cases c9 : x7_1 < (t434.length : Int)
    ·rw [if_pos c9] at H
     have c9b0 := decide_eq_true c9; clear c9; by_cases c10 : 0 ≤ x7_1
     ·rw [if_pos c10] at H
      have c10b0 := decide_eq_true c10; clear c10; replace H := Option.bind_eq_some_iff.mp H; obtain ⟨t438, A110, H⟩ := H; try dsimp only at H
      have A11 := Aside0.mk A110; clear A110; replace H := Option.bind_eq_some_iff.mp H; obtain ⟨t441, A120, H⟩ := H; try dsimp only at H
      have A12 := Aside0.mk A120; clear A120; by_cases c13 : t441 = true
      ·subst c13; rw [if_pos rfl] at H
       by_cases c14 : x5_1.length < 17592186044416
       ·rw [if_pos c14] at H
        have LMc14 := Aside0.mk c14; clear c14; obtain ⟨y442, hy442⟩ : ∃ y_ : List Int, y_ = (x5_1 ++ [x7_1]) := ⟨_, rfl⟩; replace H : (spec_SlotsAt.l0 k1 a1 y442 t434 (wrap64 (x7_1 + 1)) a0_0 a0_1 a0_2) = some r := by first | (rw [hy442]; with_reducible exact H) | (have H2_ := (Option.bind_some _ _).symm.trans H; rw [hy442]; with_reducible exact H2_) | (have H2_ := (Option.bind_some _ _).symm.trans H; with_reducible exact H2_) | with_reducible exact H | (rw [hy442]; exact H) | exact H
        have Ny442 := Aside0.mk hy442; clear hy442; have H' := Aside0.mk H
        clear H; obtain ⟨Ao15, co15, eo15⟩ := Kd.R_slice HO_6.out; subst eo15; try go_wp2
        replace HO_5 := Aside0.mk (Kd.R_drew HO_5.out); replace HO_6 := Aside0.mk (Kd.R_drew HO_6.out); replace BK430 := Aside0.mk (blk_drew BK430.out); replace HB := Aside0.mk (below_drew1 HB.out); have p437 : 0 ≤ (x7_1 : Int) := of_decide_eq_true (by first | (with_reducible assumption) | assumption)
        have q437 : x7_1 < (t434.length : Int) := of_decide_eq_true (by first | (with_reducible assumption) | assumption)
        obtain ⟨ad437, e437, hx437_0, hx437_1, hx437_2, hx437_3⟩ := at_T65 (Kd.R_reads' HO_6.out).2.2 x7_1 p437 q437
        cases e437; replace p437 := eq_true p437; replace q437 := eq_true q437; refine start_ (n := 8) (S := fun w' => w'.cell? ⟨gb430, 0, none⟩ = some (.int .i64 a0_0) ∧ w'.cell? ⟨gb430, 1, none⟩ = some (.int .i64 a0_1) ∧ w'.cell? ⟨gb430, 2, none⟩ = some (.string a0_2) ∧ w'.cell? (ad437.add ((x7_1).toNat * 4)) = some (.int .i64 ((rd_T65 t434 x7_1).f0)) ∧ w'.cell? ⟨(ad437.add ((x7_1).toNat * 4)).block, (ad437.add ((x7_1).toNat * 4)).off + 1, none⟩ = some (.bool ((rd_T65 t434 x7_1).f1)) ∧ w'.cell? ⟨(ad437.add ((x7_1).toNat * 4)).block, (ad437.add ((x7_1).toNat * 4)).off + 2, none⟩ = some (.int .i64 ((rd_T65 t434 x7_1).f2)) ∧ w'.cell? ⟨(ad437.add ((x7_1).toNat * 4)).block, (ad437.add ((x7_1).toNat * 4)).off + 3, none⟩ = some (.int .i64 ((rd_T65 t434 x7_1).f3))) (ds := []) #[false, false, false, false, false, false, false, false] (by kernel_rfl) rfl rfl ⟨(blk_cell BK430.out 0).trans rfl, (blk_cell BK430.out 1).trans rfl, (blk_cell BK430.out 2).trans rfl, hx437_0, hx437_1, hx437_2, hx437_3⟩ (fun hHeld => ?_); refine with_tabW spec_SlotsAt.tab6 spec_SlotsAt.bits6 (fun HT_ HW_ => ?_)
        generalize wr.drew = w16 at HO_5 HO_6 BK430 HB hx437_0 hx437_1 hx437_2 hx437_3 hHeld ⊢
        refine pu_g5 1 (some 18) (any_of HT_.out (by kernel_rfl)) ?_
        refine pu_g5 2 (some 19) (any_of HT_.out (by kernel_rfl)) ?_
        refine pu_g5 3 (some 20) (any_of HT_.out (by kernel_rfl)) ?_
        refine pu_g5 6 (some 23) (any_of HT_.out (by kernel_rfl)) ?_
        refine tk_g6 0 (some 17) rfl (take_ofW HT_.out HW_.out (by kernel_rfl)) (Or.inl ⟨by rfl, fun w' ⟨s0, s1, s2, s3, s4, s5, s6⟩ => by go_simp; with_reducible rfl⟩) hHeld ?_
        refine tk_g6 4 (some 21) rfl (take_ofW HT_.out HW_.out (by kernel_rfl)) (Or.inl ⟨by rfl, fun w' ⟨s0, s1, s2, s3, s4, s5, s6⟩ => by go_simp; with_reducible rfl⟩) hHeld ?_
        refine one_ (i := 5) (N := some 22) #[true, true, true, true, true, true, true, false] rfl rfl (one_of HT_.out (by kernel_rfl)) (by decide) (fun K hK => ?_)
        refine goes_ Try.func46 (by kernel_rfl) rfl #[.agg #[.int .i64 a0_0, .int .i64 a0_1, .string a0_2], .agg #[.int .i64 ((rd_T65 t434 x7_1).f0), .bool ((rd_T65 t434 x7_1).f1), .int .i64 ((rd_T65 t434 x7_1).f2), .int .i64 ((rd_T65 t434 x7_1).f3)]] (by rfl) rfl rfl z_g9 ?_
        with_reducible refine (spec_CellsOf.calls k1 a0_0 a0_1 a0_2 ((rd_T65 t434 x7_1).f0) ((rd_T65 t434 x7_1).f1) ((rd_T65 t434 x7_1).f2) ((rd_T65 t434 x7_1).f3) t438 _ A11.out).mono ?_
        rintro e w17 ⟨v439, rfl, ho0, hb⟩
        have HS3_ := (hb.cell (World.block_lt_of_cell? _ _ (hHeld.2.2.2.1))).trans (hHeld.2.2.2.1); have HS4_ := (hb.cell (World.block_lt_of_cell? _ _ (hHeld.2.2.2.2.1))).trans (hHeld.2.2.2.2.1); have HS5_ := (hb.cell (World.block_lt_of_cell? _ _ (hHeld.2.2.2.2.2.1))).trans (hHeld.2.2.2.2.2.1); have HS6_ := (hb.cell (World.block_lt_of_cell? _ _ (hHeld.2.2.2.2.2.2))).trans (hHeld.2.2.2.2.2.2); refine ⟨_, rfl, ?_⟩
        replace HO_6 := Aside0.mk (Kd.R_below (kd_g8 HO_6.out) hb); have HO440 := Aside0.mk (Kd.R_lower (Kd.R_new' ho0 (Kd.R_lt (kd_g8 HO_5.out))) (below_size z19_0)); replace HO_5 := Aside0.mk (Kd.R_elder' (kd_g8 HO_5.out) (Kd.R_base ho0) hb); replace BK430 := Aside0.mk (blk_below (g := gb430) (o := .cells #[.int .i64 a0_0, .int .i64 a0_1, .string a0_2] 28 (0, 0)) (bd_g7 BK430.out) hb); replace HB := Aside0.mk (below_step z19_0 hb); (try clear hb)
        (try clear hb2)
        (try clear hk)
        (try clear hi)
        (try clear ho0)
        obtain ⟨Ao18, co18, eo18⟩ := Kd.R_slice HO440.out; (first | subst eo18 | (injection eo18 with f1_ f2_ f3_; have f4_ := f1_.symm; have f5_ := f3_.symm; clear f1_ f2_ f3_; subst f4_; subst f5_))
        refine hK.out _ _ ⟨(blk_cell BK430.out 0).trans rfl, (blk_cell BK430.out 1).trans rfl, (blk_cell BK430.out 2).trans rfl, HS3_, HS4_, HS5_, HS6_⟩ (fun hHeld => ?_)
        clear hK K; refine norm_ (a' := ?_) ?_ ?_
        rotate_left
        ·show Act.put _ (some 22) _ = _
         simp only [Act.put, List.setIfInBounds_toArray, List.set_cons_zero, List.set_cons_succ, i64_w, i32_w]; rfl
        refine one_ (i := 7) (N := some 24) #[true, true, true, true, true, true, true, true] rfl rfl (one_of HT_.out (by kernel_rfl)) (by decide) (fun K hK => ?_)
        refine goes_ Try.func114 (by kernel_rfl) rfl #[.slice Ao18 t438.length co18, .int .i64 a1] (by rfl) rfl rfl z_g9 ?_
        with_reducible refine (spec_l8Has.calls k1 _ _ t438 a1 true _ ?side1 ?side2 A12.out).mono ?_
        (case side1 => repeat (first | exact (Kd.R_reads' HO440.out).2.2 | (with_reducible refine Kd.C_alloc ?_ _) | (with_reducible refine Kd.C_drewN ?_ _) | (with_reducible refine Kd.C_drew ?_)))
        (case side2 => exact (Kd.R_reads' HO440.out).2.1)
        rintro e w' ⟨rfl, ⟨nd, rfl⟩⟩
        refine ⟨_, rfl, ?_⟩
        refine hK.out _ _ ⟨(blk_cell BK430.out 0).trans rfl, (blk_cell BK430.out 1).trans rfl, (blk_cell BK430.out 2).trans rfl, hHeld.2.2.2.1, hHeld.2.2.2.2.1, hHeld.2.2.2.2.2.1, hHeld.2.2.2.2.2.2⟩ (fun hHeld => ?_)
        clear hK K; refine norm_ (a' := ?_) ?_ ?_
        rotate_left
        ·show Act.put _ (some 24) _ = _
         simp only [Act.put, List.setIfInBounds_toArray, List.set_cons_zero, List.set_cons_succ, i64_w, i32_w]; rfl
        refine done_ (done_of HT_.out (by kernel_rfl)) ?_
        try go_wp2_with (first | ((with_reducible refine gate_builtin (b := .append) (xs := #[.tmp 25, .tmp 27]) rfl ?_); at_builtin; refine Kd.R_append (Kd.int .i64) (w0 := w) w.heap.size rfl (.tmp 25) (.tmp 27) 62 3 (.int .i64 0) 8 rfl Try.underlying62 info3 rfl (by decide) (by omega) u5 x5_1 x7_1 [.int .i64 x7_1] (fun k_ => some k_ ≠ (.slice Ao18 t438.length co18 : Value).ownBlock) (fun _ => False) rfl rfl ?aP (fun _ hk => hk.elim) ?aF ?aO ?aB ?aS ?aL ?_; (case aP => exact rfl); (case aB => exact z19_0); (case aF => exact (fun k_ hk => Kd.fresh' (Kd.R_lt (kd_g8 HO440.out)) k_ hk)); (case aO => exact (by (with_reducible repeat (first | apply Kd.R_alloc | apply Kd.R_drewN | apply Kd.R_drew)); exact Kd.R_mono HO_5.out (fun _ hk => hk.2))); (case aS => exact (below_size z19_0)); (case aL => have := LMc14.out; omega); intro v443 w19 ho hb hg hat; rw [← Ny442.out] at ho; have n0_ := Aside0.mk (Kd.R_over' (kd_g8 HO_6.out) (Kd.R_typed (kd_g8 HO_5.out)) (by decide) hg); have n1_ := Aside0.mk (blk_grown (g := gb430) (o := .cells #[.int .i64 a0_0, .int .i64 a0_1, .string a0_2] 28 (0, 0)) (bd_g7 BK430.out) hg (Kd.R_ne HO_5.out BK430.out (by decide))); have n2_ := Aside0.mk (Kd.R_after (ok := (fun _ => True)) (kd_g8 HO440.out) hg hat); have n3_ := Aside0.mk (hb); have n4_ := Aside0.mk (ho); clear HO_6; clear BK430; clear HO440; clear HB; clear HO_5; have HO_6 := n0_; have BK430 := n1_; have HO440 := n2_; have HB := n3_; have HO444 := n4_; clear n0_ n1_ n2_ n3_ n4_; clear ho hb hg hat))
        go_roundg k1
        case measure => have := HK1.out; omega
        case rel => exact ⟨(y442), (wrap64 (x7_1 + 1)), (by first | rfl | (simp; done) | (simp [*]; done)), H', ⟨by have := HK1.out; omega⟩, ⟨by (with_reducible repeat (first | apply Kd.R_alloc | apply Kd.R_drewN | apply Kd.R_drew)); exact Kd.R_mono HO444.out (fun _ hk => trivial)⟩, ⟨by (with_reducible repeat (first | apply Kd.R_alloc | apply Kd.R_drewN | apply Kd.R_drew)); exact HO_6.out⟩, ⟨by (with_reducible repeat (first | refine blk_drewN ?_ _ | refine blk_drew ?_ | refine blk_alloc ?_ _)); exact BK430.out⟩, ⟨z19_0⟩⟩
       ·rw [if_neg c14] at H
        exact absurd H (by simp)
      ·replace c13 := Bool.eq_false_iff.mpr c13; subst c13; rw [if_neg (show ¬ (false = true) by decide)] at H
       have H' := Aside0.mk H
       clear H; obtain ⟨Ao20, co20, eo20⟩ := Kd.R_slice HO_6.out; subst eo20; try go_wp2
       replace HO_5 := Aside0.mk (Kd.R_drew HO_5.out); replace HO_6 := Aside0.mk (Kd.R_drew HO_6.out); replace BK430 := Aside0.mk (blk_drew BK430.out); replace HB := Aside0.mk (below_drew1 HB.out); have p437 : 0 ≤ (x7_1 : Int) := of_decide_eq_true (by first | (with_reducible assumption) | assumption)
       have q437 : x7_1 < (t434.length : Int) := of_decide_eq_true (by first | (with_reducible assumption) | assumption)
       obtain ⟨ad437, e437, hx437_0, hx437_1, hx437_2, hx437_3⟩ := at_T65 (Kd.R_reads' HO_6.out).2.2 x7_1 p437 q437
       cases e437; replace p437 := eq_true p437; replace q437 := eq_true q437; refine start_ (n := 8) (S := fun w' => w'.cell? ⟨gb430, 0, none⟩ = some (.int .i64 a0_0) ∧ w'.cell? ⟨gb430, 1, none⟩ = some (.int .i64 a0_1) ∧ w'.cell? ⟨gb430, 2, none⟩ = some (.string a0_2) ∧ w'.cell? (ad437.add ((x7_1).toNat * 4)) = some (.int .i64 ((rd_T65 t434 x7_1).f0)) ∧ w'.cell? ⟨(ad437.add ((x7_1).toNat * 4)).block, (ad437.add ((x7_1).toNat * 4)).off + 1, none⟩ = some (.bool ((rd_T65 t434 x7_1).f1)) ∧ w'.cell? ⟨(ad437.add ((x7_1).toNat * 4)).block, (ad437.add ((x7_1).toNat * 4)).off + 2, none⟩ = some (.int .i64 ((rd_T65 t434 x7_1).f2)) ∧ w'.cell? ⟨(ad437.add ((x7_1).toNat * 4)).block, (ad437.add ((x7_1).toNat * 4)).off + 3, none⟩ = some (.int .i64 ((rd_T65 t434 x7_1).f3))) (ds := []) #[false, false, false, false, false, false, false, false] (by kernel_rfl) rfl rfl ⟨(blk_cell BK430.out 0).trans rfl, (blk_cell BK430.out 1).trans rfl, (blk_cell BK430.out 2).trans rfl, hx437_0, hx437_1, hx437_2, hx437_3⟩ (fun hHeld => ?_); refine with_tabW spec_SlotsAt.tab6 spec_SlotsAt.bits6 (fun HT_ HW_ => ?_)
       generalize wr.drew = w21 at HO_5 HO_6 BK430 HB hx437_0 hx437_1 hx437_2 hx437_3 hHeld ⊢
       refine pu_g5 1 (some 18) (any_of HT_.out (by kernel_rfl)) ?_
       refine pu_g5 2 (some 19) (any_of HT_.out (by kernel_rfl)) ?_
       refine pu_g5 3 (some 20) (any_of HT_.out (by kernel_rfl)) ?_
       refine pu_g5 6 (some 23) (any_of HT_.out (by kernel_rfl)) ?_
       refine tk_g6 0 (some 17) rfl (take_ofW HT_.out HW_.out (by kernel_rfl)) (Or.inl ⟨by rfl, fun w' ⟨s0, s1, s2, s3, s4, s5, s6⟩ => by go_simp; with_reducible rfl⟩) hHeld ?_
       refine tk_g6 4 (some 21) rfl (take_ofW HT_.out HW_.out (by kernel_rfl)) (Or.inl ⟨by rfl, fun w' ⟨s0, s1, s2, s3, s4, s5, s6⟩ => by go_simp; with_reducible rfl⟩) hHeld ?_
       refine one_ (i := 5) (N := some 22) #[true, true, true, true, true, true, true, false] rfl rfl (one_of HT_.out (by kernel_rfl)) (by decide) (fun K hK => ?_)
       refine goes_ Try.func46 (by kernel_rfl) rfl #[.agg #[.int .i64 a0_0, .int .i64 a0_1, .string a0_2], .agg #[.int .i64 ((rd_T65 t434 x7_1).f0), .bool ((rd_T65 t434 x7_1).f1), .int .i64 ((rd_T65 t434 x7_1).f2), .int .i64 ((rd_T65 t434 x7_1).f3)]] (by rfl) rfl rfl z_g9 ?_
       with_reducible refine (spec_CellsOf.calls k1 a0_0 a0_1 a0_2 ((rd_T65 t434 x7_1).f0) ((rd_T65 t434 x7_1).f1) ((rd_T65 t434 x7_1).f2) ((rd_T65 t434 x7_1).f3) t438 _ A11.out).mono ?_
       rintro e w22 ⟨v439, rfl, ho0, hb⟩
       have HS3_ := (hb.cell (World.block_lt_of_cell? _ _ (hHeld.2.2.2.1))).trans (hHeld.2.2.2.1); have HS4_ := (hb.cell (World.block_lt_of_cell? _ _ (hHeld.2.2.2.2.1))).trans (hHeld.2.2.2.2.1); have HS5_ := (hb.cell (World.block_lt_of_cell? _ _ (hHeld.2.2.2.2.2.1))).trans (hHeld.2.2.2.2.2.1); have HS6_ := (hb.cell (World.block_lt_of_cell? _ _ (hHeld.2.2.2.2.2.2))).trans (hHeld.2.2.2.2.2.2); refine ⟨_, rfl, ?_⟩
       replace HO_6 := Aside0.mk (Kd.R_below (kd_g8 HO_6.out) hb); have HO440 := Aside0.mk (Kd.R_lower (Kd.R_new' ho0 (Kd.R_lt (kd_g8 HO_5.out))) (below_size z19_0)); replace HO_5 := Aside0.mk (Kd.R_elder' (kd_g8 HO_5.out) (Kd.R_base ho0) hb); replace BK430 := Aside0.mk (blk_below (g := gb430) (o := .cells #[.int .i64 a0_0, .int .i64 a0_1, .string a0_2] 28 (0, 0)) (bd_g7 BK430.out) hb); replace HB := Aside0.mk (below_step z19_0 hb); (try clear hb)
       (try clear hb2)
       (try clear hk)
       (try clear hi)
       (try clear ho0)
       obtain ⟨Ao23, co23, eo23⟩ := Kd.R_slice HO440.out; (first | subst eo23 | (injection eo23 with f1_ f2_ f3_; have f4_ := f1_.symm; have f5_ := f3_.symm; clear f1_ f2_ f3_; subst f4_; subst f5_))
       refine hK.out _ _ ⟨(blk_cell BK430.out 0).trans rfl, (blk_cell BK430.out 1).trans rfl, (blk_cell BK430.out 2).trans rfl, HS3_, HS4_, HS5_, HS6_⟩ (fun hHeld => ?_)
       clear hK K; refine norm_ (a' := ?_) ?_ ?_
       rotate_left
       ·show Act.put _ (some 22) _ = _
        simp only [Act.put, List.setIfInBounds_toArray, List.set_cons_zero, List.set_cons_succ, i64_w, i32_w]; rfl
       refine one_ (i := 7) (N := some 24) #[true, true, true, true, true, true, true, true] rfl rfl (one_of HT_.out (by kernel_rfl)) (by decide) (fun K hK => ?_)
       refine goes_ Try.func114 (by kernel_rfl) rfl #[.slice Ao23 t438.length co23, .int .i64 a1] (by rfl) rfl rfl z_g9 ?_
       with_reducible refine (spec_l8Has.calls k1 _ _ t438 a1 false _ ?side1 ?side2 A12.out).mono ?_
       (case side1 => repeat (first | exact (Kd.R_reads' HO440.out).2.2 | (with_reducible refine Kd.C_alloc ?_ _) | (with_reducible refine Kd.C_drewN ?_ _) | (with_reducible refine Kd.C_drew ?_)))
       (case side2 => exact (Kd.R_reads' HO440.out).2.1)
       rintro e w' ⟨rfl, ⟨nd, rfl⟩⟩
       refine ⟨_, rfl, ?_⟩
       refine hK.out _ _ ⟨(blk_cell BK430.out 0).trans rfl, (blk_cell BK430.out 1).trans rfl, (blk_cell BK430.out 2).trans rfl, hHeld.2.2.2.1, hHeld.2.2.2.2.1, hHeld.2.2.2.2.2.1, hHeld.2.2.2.2.2.2⟩ (fun hHeld => ?_)
       clear hK K; refine norm_ (a' := ?_) ?_ ?_
       rotate_left
       ·show Act.put _ (some 24) _ = _
        simp only [Act.put, List.setIfInBounds_toArray, List.set_cons_zero, List.set_cons_succ, i64_w, i32_w]; rfl
       refine done_ (done_of HT_.out (by kernel_rfl)) ?_
       try go_wp2
       go_roundg k1
       case measure => have := HK1.out; omega
       case rel => exact ⟨(x5_1), (wrap64 (x7_1 + 1)), (by first | rfl | (simp; done) | (simp [*]; done)), H', ⟨by have := HK1.out; omega⟩, ⟨by (with_reducible repeat (first | apply Kd.R_alloc | apply Kd.R_drewN | apply Kd.R_drew)); exact Kd.R_mono HO_5.out (fun _ hk => trivial)⟩, ⟨by (with_reducible repeat (first | apply Kd.R_alloc | apply Kd.R_drewN | apply Kd.R_drew)); exact HO_6.out⟩, ⟨by (with_reducible repeat (first | refine blk_drewN ?_ _ | refine blk_drew ?_ | refine blk_alloc ?_ _)); exact BK430.out⟩, ⟨z19_0⟩⟩
     ·rw [if_neg c10] at H
      exact absurd H (by simp)
    ·rw [if_neg c9] at H
     have c9b0 := decide_eq_false c9; clear c9; obtain rfl := Option.some.inj H; obtain ⟨Ao24, co24, eo24⟩ := Kd.R_slice HO_6.out; subst eo24; go_wp2
     go_ret
     exact ⟨_, by first | rfl | (simp [errW_none, errW_some] <;> rfl) | (simp [*, errW_none, errW_some] <;> rfl), by (with_reducible repeat (first | apply Kd.R_alloc | apply Kd.R_drewN | apply Kd.R_drew)); exact HO_5.out, z19_0⟩

/-! ### spec_l9Place: function 124 -/
def spec_l9Place.l0 : Nat → List Int → Int → Int → Option (Int)
  | 0, _, _, _ => none
  | k + 1, x0, x1, x5 => if x5 < (x0.length : Int) then (if 0 ≤ x5 then (if (rd x0 x5) = x1 then (some x5) else (spec_l9Place.l0 k x0 x1 (wrap64 (x5 + 1)))) else (none)) else (some (-1))
def spec_l9Place.f (k : Nat) (l0 : List Int) (a1 : Int) : Option (Int) := spec_l9Place.l0 k l0 a1 0
theorem spec_l9Place.calls (k : Nat) (A0 : Option Addr) (c0 : Nat) (l0 : List Int) (a1 : Int) (r : Int) (w : World) (hr0 : Kd.C (Kd.int .i64) w A0 l0.length l0) (hc0 : l0.length ≤ c0) (h : spec_l9Place.f k l0 a1 = some r) :
   Calls Try.prog 124 #[.slice A0 l0.length c0, .int .i64 a1] w fun e w' => e = .returned (.int .i64 r) ∧ Drawn0 w w' := by
  have HR0 := Aside0.mk hr0; have HC0 := Aside0.mk hc0; clear hr0 hc0; have H : (spec_l9Place.l0 k l0 a1 0) = some r := h; clear h; have H' := Aside0.mk H
  clear H; go_enter Try.func124, Try.ntmps124
  go_wp2
  go_loopg [5] k (fun kq v5 w' => ∃ (x5_1 : Int), v5 = .int .i64 x5_1 ∧ Aside0 (spec_l9Place.l0 kq l0 a1 x5_1 = some r) ∧ Aside0 (kq ≤ k) ∧ Drawn0 w w')
  case atStart => exact ⟨(0), (by first | rfl | (simp; done) | (simp [*]; done)), H', ⟨Nat.le_refl _⟩, by repeat (first | exact Drawn0.refl _ | apply Drawn0.step)⟩
  case round =>
   clear H'; try clear c1
   try clear p2
   obtain ⟨x5_1, rfl, HA, HK1, ⟨m1, rfl⟩⟩ := hrel
   cases gk with
   | zero => exact absurd HA.out (by simp [spec_l9Place.l0])
   | succ k1 =>
    have H := HA.out; clear HA; simp only [spec_l9Place.l0] at H; by_cases c3 : x5_1 < (l0.length : Int)
    ·rw [if_pos c3] at H
     have c3b0 := decide_eq_true c3; clear c3; by_cases c4 : 0 ≤ x5_1
     ·rw [if_pos c4] at H
      have c4b0 := decide_eq_true c4; clear c4; by_cases c5 : (rd l0 x5_1) = a1
      ·rw [if_pos c5] at H
       have c5b0 : ((rd l0 x5_1) == a1) = true := beq_iff_eq.mpr c5; have c5b1 : ((rd l0 x5_1) != a1) = false := bne_eq_false_iff_eq.mpr c5; clear c5; obtain rfl := Option.some.inj H; have p445 : 0 ≤ (x5_1 : Int) := of_decide_eq_true (by first | (with_reducible assumption) | assumption)
       have q445 : x5_1 < (l0.length : Int) := of_decide_eq_true (by first | (with_reducible assumption) | assumption)
       obtain ⟨ad445, e445, hx445_0⟩ := Kd.at_int HR0.out x5_1 p445 q445
       cases e445; replace p445 := eq_true p445; replace q445 := eq_true q445; go_wp2
       go_ret
       exact ⟨by first | rfl | (simp; done) | (simp [*]; done), by repeat (first | exact Drawn0.refl _ | apply Drawn0.step)⟩
      ·rw [if_neg c5] at H
       have c5b0 : ((rd l0 x5_1) == a1) = false := beq_eq_false_iff_ne.mpr c5; have c5b1 : ((rd l0 x5_1) != a1) = true := bne_iff_ne.mpr c5; have H' := Aside0.mk H
       clear H; have p445 : 0 ≤ (x5_1 : Int) := of_decide_eq_true (by first | (with_reducible assumption) | assumption)
       have q445 : x5_1 < (l0.length : Int) := of_decide_eq_true (by first | (with_reducible assumption) | assumption)
       obtain ⟨ad445, e445, hx445_0⟩ := Kd.at_int HR0.out x5_1 p445 q445
       cases e445; replace p445 := eq_true p445; replace q445 := eq_true q445; go_wp2
       go_roundg k1
       case measure => have := HK1.out; omega
       case rel => exact ⟨(wrap64 (x5_1 + 1)), (by first | rfl | (simp; done) | (simp [*]; done)), H', ⟨by have := HK1.out; omega⟩, by repeat (first | exact Drawn0.refl _ | apply Drawn0.step)⟩
     ·rw [if_neg c4] at H
      exact absurd H (by simp)
    ·rw [if_neg c3] at H
     have c3b0 := decide_eq_false c3; clear c3; obtain rfl := Option.some.inj H; go_wp2
     go_ret
     exact ⟨by first | rfl | (simp; done) | (simp [*]; done), by repeat (first | exact Drawn0.refl _ | apply Drawn0.step)⟩

end Go.Proofs.Ytodcckiphdnjeaa.QFnPruned
