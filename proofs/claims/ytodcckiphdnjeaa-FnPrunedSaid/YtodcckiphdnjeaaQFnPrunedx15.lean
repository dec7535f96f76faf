-- Written by a changed copy of the kit's printer (wip/mp.py of this repo), for this claim; Lean checks it.
import Derived.Test.YtodcckiphdnjeaaQFnPrunedx0
import Derived.Test.YtodcckiphdnjeaaQFnPrunedx7
import Derived.Test.YtodcckiphdnjeaaQFnPrunedx10
import Derived.Test.YtodcckiphdnjeaaQFnPrunedx11
import Derived.Test.YtodcckiphdnjeaaQFnPrunedx12
import Derived.Test.YtodcckiphdnjeaaQFnPrunedx13
namespace Go.Proofs.Ytodcckiphdnjeaa.QFnPruned
open Go.RowKit Go.Proofs.YtodcckiphdnjeaaW.PrintWords Go.Proofs.YtodcckiphdnjeaaW.PrintLast Go.Proofs.YtodcckiphdnjeaaW.PrintMore
attribute [local go_sem] max2_int min2_int max_two min_two max_three min_three max_four min_four   -- for this text's walks alone
set_option linter.unusedVariables false
set_option maxHeartbeats 8000000
set_option maxRecDepth 100000
set_option linter.unusedSimpArgs false
theorem yields_one {P : Program} {ops : Array Oper} {Q : Exit → Act → World → Prop} {oi : Oper} {N : Option Tmp} {v : Value} {a : Act} {w : World} {K : Act → World → Prop} (hw : Region.wanted oi (yielded ops a.tmps) = true) (hN : oi.dst = N) (hrun : (execOp a.eval oi).run P w = .ok (.value v) w) (h : K (a.put N v) w) : if Region.wanted oi (yielded ops a.tmps) = true then Oper.wp P oi a w K Q else K (a.put N undef) w := by
  rw [if_pos hw]
  subst hN; unfold Oper.wp
  rw [hrun, Oper.upon_value]
  exact h

theorem z15_0 {p : Prop} (h : p := by repeat (first | (with_reducible first | exact HB.out | apply below_alloc | apply pw_below_drewN | apply below_drew1 | refine below_set ?_ GE292.out) | exact HB.out)) : p := h
/-! ### spec_PutWord: function 98 -/
def spec_PutWord.l0 : Nat → ByteArray → ByteArray → List Int → Int → Option (ByteArray × Bool)
  | 0, _, _, _, _ => none
  | k + 1, x1, x3, x10, x11 => if x11 < (x10.length : Int) then (if 0 ≤ x11 then (if 0 ≤ (rd x10 x11) then (if (rd x10 x11) ≤ (x1.size : Int) then (if x11 ≤ (wrap64 (x11 + 1)) then (if (wrap64 (x11 + 1)) ≤ (x3.size : Int) then (if (x1.extract 0 ((rd x10 x11) : Int).toNat).size + (x3.extract (x11 : Int).toNat ((wrap64 (x11 + 1)) : Int).toNat).size ≤ 9223372036854775807 then (if 0 ≤ (wrap64 ((rd x10 x11) + 1)) then (if (wrap64 ((rd x10 x11) + 1)) ≤ (x1.size : Int) then (if ((x1.extract 0 ((rd x10 x11) : Int).toNat) ++ (x3.extract (x11 : Int).toNat ((wrap64 (x11 + 1)) : Int).toNat)).size + (x1.extract ((wrap64 ((rd x10 x11) + 1)) : Int).toNat x1.size).size ≤ 9223372036854775807 then (spec_PutWord.l0 k (((x1.extract 0 ((rd x10 x11) : Int).toNat) ++ (x3.extract (x11 : Int).toNat ((wrap64 (x11 + 1)) : Int).toNat)) ++ (x1.extract ((wrap64 ((rd x10 x11) + 1)) : Int).toNat x1.size)) x3 x10 (wrap64 (x11 + 1))) else (none)) else (none)) else (none)) else (none)) else (none)) else (none)) else (none)) else (none)) else (none)) else (some (x1, true))
def spec_PutWord.f (k : Nat) (a0_0 : Int) (a0_1 : Int) (a0_2 : ByteArray) (a1 : ByteArray) (a2 : Int) (a3 : ByteArray) : Option (ByteArray × Bool) := (spec_SlotPattern.f k a0_0 a0_1 a0_2 a1 a2).bind fun t293 => ((spec_FitsPattern.f k t293 a3).bind fun t294 => (if t294 = true then ((spec_SlotsOf.f k a0_0 a0_1 a0_2).bind fun t295 => (if 0 ≤ a2 then (if a2 < (t295.length : Int) then ((spec_CellsOf.f k a0_0 a0_1 a0_2 ((rd_T65 t295 a2).f0) ((rd_T65 t295 a2).f1) ((rd_T65 t295 a2).f2) ((rd_T65 t295 a2).f3)).bind fun t299 => (spec_PutWord.l0 k a1 a3 t299 0)) else (none)) else (none))) else (some (a1, false))))
def spec_PutWord.T3 : Bool × List (List Nat × List Nat) := (true, [([], []), ([], []), ([1], [1]), ([], []), ([2, 3], [2, 3]), ([4], [4]), ([0, 5, 2], [0, 5]), ([6, 6, 0, 1, 2, 3, 4, 5, 6], [6])])
def spec_PutWord.B3 : List Nat := [0, 0, 2, 0, 14, 30, 63, 127]
theorem spec_PutWord.tab3 : rtab .any (opsOf Try.f98 3) = spec_PutWord.T3 := by kernel_rfl
theorem spec_PutWord.bits3 : waitsOk spec_PutWord.T3.2 spec_PutWord.B3 = true := by kernel_rfl
def spec_PutWord.T7 : Bool × List (List Nat × List Nat) := (true, [([], []), ([], []), ([], []), ([1, 2], [1, 2]), ([3], [3]), ([0, 4], [0, 4]), ([], []), ([], []), ([], []), ([8], [8]), ([6, 7, 9], [6, 7, 9]), ([5, 10], [5, 10]), ([], []), ([], []), ([], []), ([13, 14], [13, 14]), ([15], [15]), ([16], [16]), ([12, 17], [12, 17]), ([11, 18], [11, 18]), ([19, 0, 1, 2, 3, 4, 5, 6, 7, 8, 9, 10, 11, 12, 13, 14, 15, 16, 17, 18, 19], [0, 12, 19])])
def spec_PutWord.B7 : List Nat := [0, 0, 0, 6, 14, 31, 0, 0, 0, 256, 960, 2047, 0, 0, 0, 24576, 57344, 122880, 258048, 524287, 1048575]
theorem spec_PutWord.tab7 : rtab .any (opsOf Try.f98 7) = spec_PutWord.T7 := by kernel_rfl
theorem spec_PutWord.bits7 : waitsOk spec_PutWord.T7.2 spec_PutWord.B7 = true := by kernel_rfl
theorem spec_PutWord.calls (k : Nat) (a0_0 : Int) (a0_1 : Int) (a0_2 : ByteArray) (a1 : ByteArray) (a2 : Int) (a3 : ByteArray) (r1 : ByteArray) (r2 : Bool) (w : World) (h : spec_PutWord.f k a0_0 a0_1 a0_2 a1 a2 a3 = some (r1, r2)) :
   Calls Try.prog 98 #[.agg #[.int .i64 a0_0, .int .i64 a0_1, .string a0_2], .string a1, .int .i64 a2, .string a3] w fun e w' => e = .returned (.tuple #[.string r1, .bool r2]) ∧ Below w.heap.size w w' := by
  have hu28 := Try.underlying28; have hu65 := Try.underlying65; have HB := Aside0.mk (Below.refl w.heap.size w); have H : ((spec_SlotPattern.f k a0_0 a0_1 a0_2 a1 a2).bind fun t293 => ((spec_FitsPattern.f k t293 a3).bind fun t294 => (if t294 = true then ((spec_SlotsOf.f k a0_0 a0_1 a0_2).bind fun t295 => (if 0 ≤ a2 then (if a2 < (t295.length : Int) then ((spec_CellsOf.f k a0_0 a0_1 a0_2 ((rd_T65 t295 a2).f0) ((rd_T65 t295 a2).f1) ((rd_T65 t295 a2).f2) ((rd_T65 t295 a2).f3)).bind fun t299 => (spec_PutWord.l0 k a1 a3 t299 0)) else (none)) else (none))) else (some (a1, false))))) = some (r1, r2) := h; clear h; replace H := Option.bind_eq_some_iff.mp H; obtain ⟨t293, A50, H⟩ := H; try dsimp only at H
  have A5 := Aside0.mk A50; clear A50; replace H := Option.bind_eq_some_iff.mp H; obtain ⟨t294, A60, H⟩ := H; try dsimp only at H
  have A6 := Aside0.mk A60; clear A60; by_cases c7 : t294 = true
  ·subst c7; rw [if_pos rfl] at H
   replace H := Option.bind_eq_some_iff.mp H; obtain ⟨t295, A80, H⟩ := H; try dsimp only at H
   have A8 := Aside0.mk A80; clear A80; by_cases c9 : 0 ≤ a2
   ·rw [if_pos c9] at H
    have c9b0 := decide_eq_true c9; clear c9; by_cases c10 : a2 < (t295.length : Int)
    ·rw [if_pos c10] at H
     have c10b0 := decide_eq_true c10; clear c10; replace H := Option.bind_eq_some_iff.mp H; obtain ⟨t299, A110, H⟩ := H; try dsimp only at H
     have A11 := Aside0.mk A110; clear A110; have H' := Aside0.mk H
     clear H; go_enter Try.func98, Try.ntmps98
     try go_wp2_with (first | ((with_reducible refine gate_dst (N := 4) rfl ?_); refine box_event ?hg (N := 4) ?hd (cs := #[.int .i64 a0_0, .int .i64 a0_1, .string a0_2]) (t := 28) ?hr ?_; (case hd => rfl); (case hg => rfl); (case hr => first | (go_simp; done) | (go_simp; rfl)); intro gb292 hg w12 hbox hb; have BK292 := Aside0.mk (hbox); have GW292 := Aside0.mk ((by rw [hg]; exact (below_size z_g4) : w.heap.size ≤ gb292)); have GE292 := Aside0.mk ((by rw [hg]; exact (below_size z_g4) : w.heap.size ≤ gb292)); replace HB := Aside0.mk (below_step z_g4 hb); clear hb hbox hg; obtain ⟨hcz13_0, hcz13_1, hcz13_2, hfz13_0, hfz13_1, hfz13_2⟩ := bc3_g0 BK292.out) | ((with_reducible refine gate_callee (f := 66) rfl ?_); refine goesL_ (some 15) rfl rfl Try.func66 (by kernel_rfl) rfl #[.agg #[.int .i64 a0_0, .int .i64 a0_1, .string a0_2], .string a1, .int .i64 a2] rfl z_g9 ?_; (with_reducible refine (spec_SlotPattern.calls k a0_0 a0_1 a0_2 a1 a2 t293 _ A5.out).mono ?_); rintro e w14 ⟨rfl, hb⟩; refine ⟨_, rfl, ?_⟩; replace BK292 := Aside0.mk (blk_below (g := gb292) (o := .cells #[.int .i64 a0_0, .int .i64 a0_1, .string a0_2] 28 (0, 0)) (bd_g7 BK292.out) hb); replace HB := Aside0.mk (below_step z15_0 hb); (try clear hb)) | ((with_reducible refine gate_callee (f := 101) rfl ?_); refine goesL_ (some 17) rfl rfl Try.func101 (by kernel_rfl) rfl #[.string t293, .string a3] rfl z_g9 ?_; (with_reducible refine (spec_FitsPattern.calls k t293 a3 true _ A6.out).mono ?_); rintro e w' ⟨rfl, ⟨nd, rfl⟩⟩; refine ⟨_, rfl, ?_⟩))
     (try (rw [drewN_self w14]; generalize hq_ : World.drewN w14 _ = w14; have n0_ : Aside0 (w14.heap[gb292]? = some (.cells #[.int .i64 a0_0, .int .i64 a0_1, .string a0_2] 28 (0, 0))) := ⟨by rw [← hq_]; exact (bd_g7 BK292.out)⟩; have n1_ : Aside0 (Below w.heap.size w w14) := ⟨by rw [← hq_]; exact z15_0⟩; clear BK292 HB hq_; have BK292 := n0_; have HB := n1_; clear n0_ n1_))
     replace BK292 := Aside0.mk (blk_drew BK292.out); replace HB := Aside0.mk (below_drew1 HB.out); refine start_ (n := 8) (S := fun w' => w'.cell? ⟨gb292, 0, none⟩ = some (.int .i64 a0_0) ∧ w'.cell? ⟨gb292, 1, none⟩ = some (.int .i64 a0_1) ∧ w'.cell? ⟨gb292, 2, none⟩ = some (.string a0_2)) (ds := []) #[false, false, false, false, false, false, false, false] (by kernel_rfl) rfl rfl ⟨(blk_cell BK292.out 0).trans rfl, (blk_cell BK292.out 1).trans rfl, (blk_cell BK292.out 2).trans rfl⟩ (fun hHeld => ?_); refine with_tabW spec_PutWord.tab3 spec_PutWord.bits3 (fun HT_ HW_ => ?_)
     generalize w14.drew = w15 at BK292 HB hHeld ⊢
     refine pu_g5 3 (some 23) (any_of HT_.out (by kernel_rfl)) ?_
     refine tk_g6 0 (some 20) rfl (take_ofW HT_.out HW_.out (by kernel_rfl)) (Or.inl ⟨by rfl, fun w' ⟨s0, s1, s2⟩ => by go_simp; with_reducible rfl⟩) hHeld ?_
     refine tk_g6 1 (some 21) rfl (take_ofW HT_.out HW_.out (by kernel_rfl)) (Or.inl ⟨by rfl, fun w' ⟨s0, s1, s2⟩ => by go_simp; with_reducible rfl⟩) hHeld ?_
     refine one_ (i := 2) (N := some 22) #[true, true, true, true, false, false, false, false] rfl rfl (one_of HT_.out (by kernel_rfl)) (by decide) (fun K hK => ?_)
     refine goes_ Try.func45 (by kernel_rfl) rfl #[.agg #[.int .i64 a0_0, .int .i64 a0_1, .string a0_2]] (by rfl) rfl rfl z_g9 ?_
     with_reducible refine (spec_SlotsOf.calls k a0_0 a0_1 a0_2 t295 _ A8.out).mono ?_
     rintro e w16 ⟨v296, rfl, ho0, hb⟩
     refine ⟨_, rfl, ?_⟩
     have HO297 := Aside0.mk (Kd.R_lower ho0 (below_size z15_0)); replace BK292 := Aside0.mk (blk_below (g := gb292) (o := .cells #[.int .i64 a0_0, .int .i64 a0_1, .string a0_2] 28 (0, 0)) (bd_g7 BK292.out) hb); replace HB := Aside0.mk (below_step z15_0 hb); (try clear hb)
     (try clear hb2)
     (try clear hk)
     (try clear hi)
     (try clear ho0)
     obtain ⟨Ao17, co17, eo17⟩ := Kd.R_slice HO297.out; (first | subst eo17 | (injection eo17 with f1_ f2_ f3_; have f4_ := f1_.symm; have f5_ := f3_.symm; clear f1_ f2_ f3_; subst f4_; subst f5_))
     have p298 : 0 ≤ (a2 : Int) := of_decide_eq_true z_g1; have q298 : a2 < (t295.length : Int) := of_decide_eq_true z_g1; obtain ⟨ad298, e298, hx298_0, hx298_1, hx298_2, hx298_3⟩ := at_T65 (Kd.R_reads' HO297.out).2.2 a2 p298 q298
     cases e298; replace p298 := eq_true p298; replace q298 := eq_true q298; refine hK.out _ _ ⟨(blk_cell BK292.out 0).trans rfl, (blk_cell BK292.out 1).trans rfl, (blk_cell BK292.out 2).trans rfl⟩ (fun hHeld => ?_)
     clear hK K; refine norm_ (a' := ?_) ?_ ?_
     rotate_left
     ·show Act.put _ (some 22) _ = _
      simp only [Act.put, List.setIfInBounds_toArray, List.set_cons_zero, List.set_cons_succ, i64_w, i32_w]; rfl
     refine pu_g5 4 (some 24) (any_of HT_.out (by kernel_rfl)) ?_
     refine one_ (i := 5) (N := some 25) #[true, true, true, true, true, true, false, false] rfl rfl (one_of HT_.out (by kernel_rfl)) (by decide) (fun K hK => ?_)
     refine yields_one (v := ?_) (by rfl) rfl ?_ ?_
     rotate_left
     ·go_simp; with_reducible rfl
     refine hK.out _ _ hHeld (fun hHeld => ?_)
     clear hK K; refine norm_ (a' := ?_) ?_ ?_
     rotate_left
     ·show Act.put _ (some 25) _ = _
      simp only [Act.put, List.setIfInBounds_toArray, List.set_cons_zero, List.set_cons_succ, i64_w, i32_w]; rfl
     refine one_ (i := 6) (N := some 26) #[true, true, true, true, true, true, true, false] rfl rfl (one_of HT_.out (by kernel_rfl)) (by decide) (fun K hK => ?_)
     refine goes_ Try.func46 (by kernel_rfl) rfl #[.agg #[.int .i64 a0_0, .int .i64 a0_1, .string a0_2], .agg #[.int .i64 ((rd_T65 t295 a2).f0), .bool ((rd_T65 t295 a2).f1), .int .i64 ((rd_T65 t295 a2).f2), .int .i64 ((rd_T65 t295 a2).f3)]] (by rfl) rfl rfl z_g9 ?_
     with_reducible refine (spec_CellsOf.calls k a0_0 a0_1 a0_2 ((rd_T65 t295 a2).f0) ((rd_T65 t295 a2).f1) ((rd_T65 t295 a2).f2) ((rd_T65 t295 a2).f3) t299 _ A11.out).mono ?_
     rintro e w18 ⟨v300, rfl, ho0, hb⟩
     refine ⟨_, rfl, ?_⟩
     replace HO297 := Aside0.mk (Kd.R_below (by (with_reducible repeat (first | apply Kd.R_alloc | apply Kd.R_drewN | apply Kd.R_drew)); exact HO297.out) hb)
     have HO301 := Aside0.mk (Kd.R_lower ho0 (below_size z15_0)); replace BK292 := Aside0.mk (blk_below (g := gb292) (o := .cells #[.int .i64 a0_0, .int .i64 a0_1, .string a0_2] 28 (0, 0)) (bd_g7 BK292.out) hb); replace HB := Aside0.mk (below_step z15_0 hb); (try clear hb)
     (try clear hb2)
     (try clear hk)
     (try clear hi)
     (try clear ho0)
     refine hK.out _ _ ⟨(blk_cell BK292.out 0).trans rfl, (blk_cell BK292.out 1).trans rfl, (blk_cell BK292.out 2).trans rfl⟩ (fun hHeld => ?_)
     clear hK K; refine norm_ (a' := ?_) ?_ ?_
     rotate_left
     ·show Act.put _ (some 26) _ = _
      simp only [Act.put, List.setIfInBounds_toArray, List.set_cons_zero, List.set_cons_succ, i64_w, i32_w]; rfl
     refine pu_g5 7 (some 10) (any_of HT_.out (by kernel_rfl)) ?_
     refine done_ (done_of HT_.out (by kernel_rfl)) ?_
     try go_wp2
     go_loopg [1, 11] k (fun kq v1 v11 w' => ∃ (x1_1 : ByteArray) (x11_1 : Int), v1 = .string x1_1 ∧ v11 = .int .i64 x11_1 ∧ Aside0 (spec_PutWord.l0 kq x1_1 a3 t299 x11_1 = some (r1, r2)) ∧ Aside0 (kq ≤ k) ∧ Aside0 (Kd.R (Kd.int .i64) 3 w' w.heap.size (fun _ => True) v300 t299) ∧ Aside0 (w'.heap[gb292]? = some (.cells #[.int .i64 a0_0, .int .i64 a0_1, .string a0_2] 28 (0, 0))) ∧ Aside0 (Below w.heap.size w w'))
     case atStart => exact ⟨(a1), (0), (by first | rfl | (simp; done) | (simp [*]; done)), (by first | rfl | (simp; done) | (simp [*]; done)), H', ⟨Nat.le_refl _⟩, ⟨by (with_reducible repeat (first | apply Kd.R_alloc | apply Kd.R_drewN | apply Kd.R_drew)); exact HO301.out⟩, ⟨by (with_reducible repeat (first | refine blk_drewN ?_ _ | refine blk_drew ?_ | refine blk_alloc ?_ _)); exact BK292.out⟩, ⟨z15_0⟩⟩
     case round =>
      clear H'; try clear c1
      try clear p2
      try clear q2
      try clear hx2
      try clear c4
      try clear c6
      try clear c7
      try clear c9
      try clear c9b0
      try clear c10
      try clear c10b0
      try clear hcz13_0 hcz13_1 hcz13_2 hfz13_0 hfz13_1 hfz13_2
      try clear hx298_0
      try clear hx298_1
      try clear hx298_2
      try clear hx298_3
      try clear p298
      try clear q298
      obtain ⟨x1_1, x11_1, rfl, rfl, HA, HK1, HO_10, BK292, HB⟩ := hrel
      cases gk with
      | zero => exact absurd HA.out (by simp [spec_PutWord.l0])
      | succ k1 =>
       have H := HA.out; clear HA; simp only [spec_PutWord.l0] at H; by_cases c19 : x11_1 < (t299.length : Int)
       ·rw [if_pos c19] at H
        have c19b0 := decide_eq_true c19; clear c19; by_cases c20 : 0 ≤ x11_1
        ·rw [if_pos c20] at H
         have c20b0 := decide_eq_true c20; clear c20; by_cases c21 : 0 ≤ (rd t299 x11_1)
         ·rw [if_pos c21] at H
          have c21b0 := eq_true c21; have c21b1 : decide (0 ≤ (rd t299 x11_1)) = true := decide_eq_true c21; clear c21; by_cases c22 : (rd t299 x11_1) ≤ (x1_1.size : Int)
          ·rw [if_pos c22] at H
           have c22b0 := eq_true c22; have c22b1 : decide ((rd t299 x11_1) ≤ (x1_1.size : Int)) = true := decide_eq_true c22; clear c22; have c23b0 := eq_true (of_decide_eq_true z_g1 : 0 ≤ x11_1); by_cases c24 : x11_1 ≤ (wrap64 (x11_1 + 1))
           ·rw [if_pos c24] at H
            have c24b0 := eq_true c24; have c24b1 : decide (x11_1 ≤ (wrap64 (x11_1 + 1))) = true := decide_eq_true c24; by_cases c25 : (wrap64 (x11_1 + 1)) ≤ (a3.size : Int)
            ·rw [if_pos c25] at H
             have c25b0 := eq_true c25; have c25b1 : decide ((wrap64 (x11_1 + 1)) ≤ (a3.size : Int)) = true := decide_eq_true c25; by_cases c26 : (x1_1.extract 0 ((rd t299 x11_1) : Int).toNat).size + (a3.extract (x11_1 : Int).toNat ((wrap64 (x11_1 + 1)) : Int).toNat).size ≤ 9223372036854775807
             ·rw [if_pos c26] at H
              have c26b0 := eq_true c26; have c26b1 : decide ((x1_1.extract 0 ((rd t299 x11_1) : Int).toNat).size + (a3.extract (x11_1 : Int).toNat ((wrap64 (x11_1 + 1)) : Int).toNat).size ≤ 9223372036854775807) = true := decide_eq_true c26; try have c26b2 : (9223372036854775807 < (x1_1.extract 0 ((rd t299 x11_1) : Int).toNat).size + (a3.extract (x11_1 : Int).toNat ((wrap64 (x11_1 + 1)) : Int).toNat).size) = False := eq_false (Nat.not_lt.2 c26)
              try have c26b3 : (9223372036854775807 < (rd t299 x11_1).toNat + ((wrap64 (x11_1 + 1)).toNat - x11_1.toNat)) = False := eq_false (by have q0_ : (wrap64 (x11_1 + 1) : Int) ≤ (a3.size : Int) := of_decide_eq_true z_g1; have q1_ : (rd t299 x11_1 : Int) ≤ (x1_1.size : Int) := of_decide_eq_true z_g1; have h_ := c26; simp only [ByteArray.size_append, ByteArray.size_extract] at h_; omega)
              obtain ⟨ji27, hji27⟩ : ∃ j_ : Int, (wrap64 ((rd t299 x11_1) + 1)) = j_ := ⟨_, rfl⟩; replace H : (if 0 ≤ (ji27) then (if (ji27) ≤ (x1_1.size : Int) then (if ((x1_1.extract 0 ((rd t299 x11_1) : Int).toNat) ++ (a3.extract (x11_1 : Int).toNat ((wrap64 (x11_1 + 1)) : Int).toNat)).size + (x1_1.extract ((ji27) : Int).toNat x1_1.size).size ≤ 9223372036854775807 then (spec_PutWord.l0 k1 (((x1_1.extract 0 ((rd t299 x11_1) : Int).toNat) ++ (a3.extract (x11_1 : Int).toNat ((wrap64 (x11_1 + 1)) : Int).toNat)) ++ (x1_1.extract ((ji27) : Int).toNat x1_1.size)) a3 t299 (wrap64 (x11_1 + 1))) else (none)) else (none)) else (none)) = some (r1, r2) := by first | (rw [hji27] at H; exact H) | (simp only [hji27] at H ⊢; exact H)
              have hji27w : (IntKind.i64.wrap ((rd t299 x11_1) + 1)) = ji27 := (i64_w _).trans hji27; by_cases c28 : 0 ≤ (ji27)
              ·rw [if_pos c28] at H
               have c28b0 := eq_true c28; have c28b1 : decide (0 ≤ (ji27)) = true := decide_eq_true c28; clear c28; by_cases c29 : (ji27) ≤ (x1_1.size : Int)
               ·rw [if_pos c29] at H
                have c29b0 := eq_true c29; have c29b1 : decide ((ji27) ≤ (x1_1.size : Int)) = true := decide_eq_true c29; clear c29; by_cases c30 : ((x1_1.extract 0 ((rd t299 x11_1) : Int).toNat) ++ (a3.extract (x11_1 : Int).toNat ((wrap64 (x11_1 + 1)) : Int).toNat)).size + (x1_1.extract ((ji27) : Int).toNat x1_1.size).size ≤ 9223372036854775807
                ·rw [if_pos c30] at H
                 have c30b0 := eq_true c30; have c30b1 : decide (((x1_1.extract 0 ((rd t299 x11_1) : Int).toNat) ++ (a3.extract (x11_1 : Int).toNat ((wrap64 (x11_1 + 1)) : Int).toNat)).size + (x1_1.extract ((ji27) : Int).toNat x1_1.size).size ≤ 9223372036854775807) = true := decide_eq_true c30; try have c30b2 : (9223372036854775807 < ((x1_1.extract 0 ((rd t299 x11_1) : Int).toNat) ++ (a3.extract (x11_1 : Int).toNat ((wrap64 (x11_1 + 1)) : Int).toNat)).size + (x1_1.extract ((ji27) : Int).toNat x1_1.size).size) = False := eq_false (Nat.not_lt.2 c30)
                 try have c30b3 : (9223372036854775807 < (rd t299 x11_1).toNat + ((wrap64 (x11_1 + 1)).toNat - x11_1.toNat) + (x1_1.size - ji27.toNat)) = False := eq_false (by have q0_ : (wrap64 (x11_1 + 1) : Int) ≤ (a3.size : Int) := of_decide_eq_true z_g1; have q1_ : (ji27 : Int) ≤ (x1_1.size : Int) := of_decide_eq_true z_g1; have q2_ : (rd t299 x11_1 : Int) ≤ (x1_1.size : Int) := of_decide_eq_true z_g1; have h_ := c30; simp only [ByteArray.size_append, ByteArray.size_extract] at h_; omega)
                 have H' := Aside0.mk H
                 clear H; obtain ⟨Ao31, co31, eo31⟩ := Kd.R_slice HO_10.out; subst eo31; try go_wp2
                 replace HO_10 := Aside0.mk (Kd.R_drew HO_10.out); replace BK292 := Aside0.mk (blk_drew BK292.out); replace HB := Aside0.mk (below_drew1 HB.out); have p302 : 0 ≤ (x11_1 : Int) := of_decide_eq_true z_g1; have q302 : x11_1 < (t299.length : Int) := of_decide_eq_true z_g1; obtain ⟨ad302, e302, hx302_0⟩ := Kd.at_int (Kd.R_reads' HO_10.out).2.2 x11_1 p302 q302
                 cases e302; replace p302 := eq_true p302; replace q302 := eq_true q302; have p303 : 0 ≤ (x11_1 : Int) := of_decide_eq_true z_g1; have q303 : x11_1 < (t299.length : Int) := of_decide_eq_true z_g1; obtain ⟨ad303, e303, hx303_0⟩ := Kd.at_int (Kd.R_reads' HO_10.out).2.2 x11_1 p303 q303; obtain rfl : ad302 = ad303 := (by injection e303); replace p303 := eq_true p303; replace q303 := eq_true q303; refine start_ (n := 21) (S := fun w' => w'.cell? (ad302.add (x11_1).toNat) = some (.int .i64 (rd t299 x11_1)) ∧ w'.cell? (ad302.add (x11_1).toNat) = some (.int .i64 (rd t299 x11_1))) (ds := []) #[false, false, false, false, false, false, false, false, false, false, false, false, false, false, false, false, false, false, false, false, false] (by kernel_rfl) rfl rfl ⟨hx302_0, hx303_0⟩ (fun hHeld => ?_); refine with_tabW spec_PutWord.tab7 spec_PutWord.bits7 (fun HT_ HW_ => ?_)
                 generalize wr.drew = w32 at HO_10 BK292 HB hx302_0 hx303_0 hHeld ⊢
                 refine pu_g5 0 (some 33) (any_of HT_.out (by kernel_rfl)) ?_
                 refine pu_g5 1 (some 34) (any_of HT_.out (by kernel_rfl)) ?_
                 refine pu_g5 2 (some 35) (any_of HT_.out (by kernel_rfl)) ?_
                 refine pu_g5 3 (some 36) (any_of HT_.out (by kernel_rfl)) ?_
                 refine pu_g5 6 (some 39) (any_of HT_.out (by kernel_rfl)) ?_
                 refine pu_g5 7 (some 40) (any_of HT_.out (by kernel_rfl)) ?_
                 refine pu_g5 8 (some 41) (any_of HT_.out (by kernel_rfl)) ?_
                 refine pu_g5 9 (some 42) (any_of HT_.out (by kernel_rfl)) ?_
                 refine pu_g5 10 (some 43) (any_of HT_.out (by kernel_rfl)) ?_
                 refine pu_g5 12 (some 45) (any_of HT_.out (by kernel_rfl)) ?_
                 refine pu_g5 13 (some 46) (any_of HT_.out (by kernel_rfl)) ?_
                 refine pu_g5 14 (some 47) (any_of HT_.out (by kernel_rfl)) ?_
                 refine pu_g5 15 (some 48) (any_of HT_.out (by kernel_rfl)) ?_
                 refine tk_g6 4 (some 37) rfl (take_ofW HT_.out HW_.out (by kernel_rfl)) (Or.inl ⟨by rfl, fun w' ⟨s0, s1⟩ => by go_simp; with_reducible rfl⟩) hHeld ?_
                 refine pu_g5 5 (some 38) (any_of HT_.out (by kernel_rfl)) ?_
                 refine pu_g5 11 (some 44) (any_of HT_.out (by kernel_rfl)) ?_
                 refine tk_g6 16 (some 49) rfl (take_ofW HT_.out HW_.out (by kernel_rfl)) (Or.inl ⟨by rfl, fun w' ⟨s0, s1⟩ => by go_simp; with_reducible rfl⟩) hHeld ?_
                 refine pu_g5 17 (some 50) (any_of HT_.out (by kernel_rfl)) ?_
                 refine pu_g5 18 (some 51) (any_of HT_.out (by kernel_rfl)) ?_
                 refine pu_g5 19 (some 52) (any_of HT_.out (by kernel_rfl)) ?_
                 refine pu_g5 20 (some 1) (any_of HT_.out (by kernel_rfl)) ?_
                 refine done_ (done_of HT_.out (by kernel_rfl)) ?_
                 try go_wp2
                 go_roundg k1
                 case measure => have := HK1.out; omega
                 case rel => exact ⟨(((x1_1.extract 0 ((rd t299 x11_1) : Int).toNat) ++ (a3.extract (x11_1 : Int).toNat ((wrap64 (x11_1 + 1)) : Int).toNat)) ++ (x1_1.extract ((ji27) : Int).toNat x1_1.size)), (wrap64 (x11_1 + 1)), (by first | rfl | (simp; done) | (simp only [← hji27] <;> (first | rfl | simp)) | (simp [*]; done)), (by first | rfl | (simp; done) | (simp [*]; done)), H', ⟨by have := HK1.out; omega⟩, ⟨by (with_reducible repeat (first | apply Kd.R_alloc | apply Kd.R_drewN | apply Kd.R_drew)); exact HO_10.out⟩, ⟨by (with_reducible repeat (first | refine blk_drewN ?_ _ | refine blk_drew ?_ | refine blk_alloc ?_ _)); exact BK292.out⟩, ⟨z15_0⟩⟩
                ·rw [if_neg c30] at H
                 exact absurd H (by simp)
               ·rw [if_neg c29] at H
                exact absurd H (by simp)
              ·rw [if_neg c28] at H
               exact absurd H (by simp)
             ·rw [if_neg c26] at H
              exact absurd H (by simp)
            ·rw [if_neg c25] at H
             exact absurd H (by simp)
           ·rw [if_neg c24] at H
            exact absurd H (by simp)
          ·rw [if_neg c22] at H
           exact absurd H (by simp)
         ·rw [if_neg c21] at H
          exact absurd H (by simp)
        ·rw [if_neg c20] at H
         exact absurd H (by simp)
       ·rw [if_neg c19] at H
        have c19b0 := decide_eq_false c19; clear c19; simp only [Option.some.injEq, Prod.mk.injEq] at H; obtain ⟨rfl, rfl⟩ := H; obtain ⟨Ao33, co33, eo33⟩ := Kd.R_slice HO_10.out; subst eo33; go_wp2
        go_ret2
        exact ⟨by first | rfl | (simp [errW_none, errW_some] <;> rfl) | (simp [*, errW_none, errW_some] <;> rfl), z15_0⟩
    ·rw [if_neg c10] at H
     exact absurd H (by simp)
   ·rw [if_neg c9] at H
    exact absurd H (by simp)
  ·replace c7 := Bool.eq_false_iff.mpr c7; subst c7; rw [if_neg (show ¬ (false = true) by decide)] at H
   simp only [Option.some.injEq, Prod.mk.injEq] at H; obtain ⟨rfl, rfl⟩ := H; go_enter Try.func98, Try.ntmps98
   go_wp2_with (first | ((with_reducible refine gate_dst (N := 4) rfl ?_); refine box_event ?hg (N := 4) ?hd (cs := #[.int .i64 a0_0, .int .i64 a0_1, .string a0_2]) (t := 28) ?hr ?_; (case hd => rfl); (case hg => rfl); (case hr => first | (go_simp; done) | (go_simp; rfl)); intro gb292 hg w34 hbox hb; have BK292 := Aside0.mk (hbox); have GW292 := Aside0.mk ((by rw [hg]; exact (below_size z_g4) : w.heap.size ≤ gb292)); have GE292 := Aside0.mk ((by rw [hg]; exact (below_size z_g4) : w.heap.size ≤ gb292)); replace HB := Aside0.mk (below_step z_g4 hb); clear hb hbox hg; obtain ⟨hcz35_0, hcz35_1, hcz35_2, hfz35_0, hfz35_1, hfz35_2⟩ := bc3_g0 BK292.out) | ((with_reducible refine gate_callee (f := 66) rfl ?_); refine goesL_ (some 15) rfl rfl Try.func66 (by kernel_rfl) rfl #[.agg #[.int .i64 a0_0, .int .i64 a0_1, .string a0_2], .string a1, .int .i64 a2] rfl z_g9 ?_; (with_reducible refine (spec_SlotPattern.calls k a0_0 a0_1 a0_2 a1 a2 t293 _ A5.out).mono ?_); rintro e w36 ⟨rfl, hb⟩; refine ⟨_, rfl, ?_⟩; replace BK292 := Aside0.mk (blk_below (g := gb292) (o := .cells #[.int .i64 a0_0, .int .i64 a0_1, .string a0_2] 28 (0, 0)) (bd_g7 BK292.out) hb); replace HB := Aside0.mk (below_step z15_0 hb); (try clear hb)) | ((with_reducible refine gate_callee (f := 101) rfl ?_); refine goesL_ (some 17) rfl rfl Try.func101 (by kernel_rfl) rfl #[.string t293, .string a3] rfl z_g9 ?_; (with_reducible refine (spec_FitsPattern.calls k t293 a3 false _ A6.out).mono ?_); rintro e w' ⟨rfl, ⟨nd, rfl⟩⟩; refine ⟨_, rfl, ?_⟩))
   go_ret2
   exact ⟨by first | rfl | (simp [errW_none, errW_some] <;> rfl) | (simp [*, errW_none, errW_some] <;> rfl), z15_0⟩

/-! ### spec_l4Words: function 123 -/
def spec_l4Words.f  : Option (List ByteArray) := some (([(⟨#[99, 97, 116]⟩ : ByteArray), (⟨#[97, 99, 116]⟩ : ByteArray), (⟨#[116, 97, 99]⟩ : ByteArray), (⟨#[97, 114, 99]⟩ : ByteArray), (⟨#[99, 97, 114]⟩ : ByteArray), (⟨#[101, 114, 97]⟩ : ByteArray), (⟨#[97, 114, 101]⟩ : ByteArray), (⟨#[101, 97, 114]⟩ : ByteArray), (⟨#[97, 116, 101]⟩ : ByteArray), (⟨#[116, 101, 97]⟩ : ByteArray), (⟨#[101, 97, 116]⟩ : ByteArray), (⟨#[115, 101, 97]⟩ : ByteArray), (⟨#[116, 97, 114]⟩ : ByteArray), (⟨#[114, 97, 116]⟩ : ByteArray), (⟨#[97, 114, 116]⟩ : ByteArray), (⟨#[97, 110, 116]⟩ : ByteArray), (⟨#[116, 97, 110]⟩ : ByteArray), (⟨#[110, 101, 116]⟩ : ByteArray), (⟨#[116, 101, 110]⟩ : ByteArray), (⟨#[114, 101, 115, 116]⟩ : ByteArray), (⟨#[116, 114, 101, 101]⟩ : ByteArray), (⟨#[115, 116, 97, 114]⟩ : ByteArray), (⟨#[114, 97, 116, 115]⟩ : ByteArray), (⟨#[97, 114, 116, 115]⟩ : ByteArray), (⟨#[101, 97, 115, 116]⟩ : ByteArray), (⟨#[115, 101, 97, 116]⟩ : ByteArray), (⟨#[116, 101, 97, 115]⟩ : ByteArray), (⟨#[110, 101, 116, 115]⟩ : ByteArray), (⟨#[116, 101, 110, 115]⟩ : ByteArray), (⟨#[115, 101, 110, 116]⟩ : ByteArray), (⟨#[116, 114, 97, 99, 101]⟩ : ByteArray), (⟨#[114, 101, 97, 99, 116]⟩ : ByteArray), (⟨#[99, 114, 97, 116, 101]⟩ : ByteArray), (⟨#[115, 116, 97, 114, 101]⟩ : ByteArray), (⟨#[116, 101, 97, 114, 115]⟩ : ByteArray)] : List ByteArray))
theorem spec_l4Words.calls  (r : List ByteArray) (w : World) (h : spec_l4Words.f  = some r) :
   Calls Try.prog 123 #[] w fun e w' => ∃ v0_ : Value, e = .returned (v0_) ∧ Kd.R Kd.string 9 w' w.heap.size (fun _ => True) v0_ r ∧ Below w.heap.size w w' := by
  have HB := Aside0.mk (Below.refl w.heap.size w); have H : (some (([(⟨#[99, 97, 116]⟩ : ByteArray), (⟨#[97, 99, 116]⟩ : ByteArray), (⟨#[116, 97, 99]⟩ : ByteArray), (⟨#[97, 114, 99]⟩ : ByteArray), (⟨#[99, 97, 114]⟩ : ByteArray), (⟨#[101, 114, 97]⟩ : ByteArray), (⟨#[97, 114, 101]⟩ : ByteArray), (⟨#[101, 97, 114]⟩ : ByteArray), (⟨#[97, 116, 101]⟩ : ByteArray), (⟨#[116, 101, 97]⟩ : ByteArray), (⟨#[101, 97, 116]⟩ : ByteArray), (⟨#[115, 101, 97]⟩ : ByteArray), (⟨#[116, 97, 114]⟩ : ByteArray), (⟨#[114, 97, 116]⟩ : ByteArray), (⟨#[97, 114, 116]⟩ : ByteArray), (⟨#[97, 110, 116]⟩ : ByteArray), (⟨#[116, 97, 110]⟩ : ByteArray), (⟨#[110, 101, 116]⟩ : ByteArray), (⟨#[116, 101, 110]⟩ : ByteArray), (⟨#[114, 101, 115, 116]⟩ : ByteArray), (⟨#[116, 114, 101, 101]⟩ : ByteArray), (⟨#[115, 116, 97, 114]⟩ : ByteArray), (⟨#[114, 97, 116, 115]⟩ : ByteArray), (⟨#[97, 114, 116, 115]⟩ : ByteArray), (⟨#[101, 97, 115, 116]⟩ : ByteArray), (⟨#[115, 101, 97, 116]⟩ : ByteArray), (⟨#[116, 101, 97, 115]⟩ : ByteArray), (⟨#[110, 101, 116, 115]⟩ : ByteArray), (⟨#[116, 101, 110, 115]⟩ : ByteArray), (⟨#[115, 101, 110, 116]⟩ : ByteArray), (⟨#[116, 114, 97, 99, 101]⟩ : ByteArray), (⟨#[114, 101, 97, 99, 116]⟩ : ByteArray), (⟨#[99, 114, 97, 116, 101]⟩ : ByteArray), (⟨#[115, 116, 97, 114, 101]⟩ : ByteArray), (⟨#[116, 101, 97, 114, 115]⟩ : ByteArray)] : List ByteArray))) = some r := h; clear h; obtain ⟨y304, hy304⟩ : ∃ y_ : List ByteArray, y_ = (([(⟨#[99, 97, 116]⟩ : ByteArray), (⟨#[97, 99, 116]⟩ : ByteArray), (⟨#[116, 97, 99]⟩ : ByteArray), (⟨#[97, 114, 99]⟩ : ByteArray), (⟨#[99, 97, 114]⟩ : ByteArray), (⟨#[101, 114, 97]⟩ : ByteArray), (⟨#[97, 114, 101]⟩ : ByteArray), (⟨#[101, 97, 114]⟩ : ByteArray), (⟨#[97, 116, 101]⟩ : ByteArray), (⟨#[116, 101, 97]⟩ : ByteArray), (⟨#[101, 97, 116]⟩ : ByteArray), (⟨#[115, 101, 97]⟩ : ByteArray), (⟨#[116, 97, 114]⟩ : ByteArray), (⟨#[114, 97, 116]⟩ : ByteArray), (⟨#[97, 114, 116]⟩ : ByteArray), (⟨#[97, 110, 116]⟩ : ByteArray), (⟨#[116, 97, 110]⟩ : ByteArray), (⟨#[110, 101, 116]⟩ : ByteArray), (⟨#[116, 101, 110]⟩ : ByteArray), (⟨#[114, 101, 115, 116]⟩ : ByteArray), (⟨#[116, 114, 101, 101]⟩ : ByteArray), (⟨#[115, 116, 97, 114]⟩ : ByteArray), (⟨#[114, 97, 116, 115]⟩ : ByteArray), (⟨#[97, 114, 116, 115]⟩ : ByteArray), (⟨#[101, 97, 115, 116]⟩ : ByteArray), (⟨#[115, 101, 97, 116]⟩ : ByteArray), (⟨#[116, 101, 97, 115]⟩ : ByteArray), (⟨#[110, 101, 116, 115]⟩ : ByteArray), (⟨#[116, 101, 110, 115]⟩ : ByteArray), (⟨#[115, 101, 110, 116]⟩ : ByteArray), (⟨#[116, 114, 97, 99, 101]⟩ : ByteArray), (⟨#[114, 101, 97, 99, 116]⟩ : ByteArray), (⟨#[99, 114, 97, 116, 101]⟩ : ByteArray), (⟨#[115, 116, 97, 114, 101]⟩ : ByteArray), (⟨#[116, 101, 97, 114, 115]⟩ : ByteArray)] : List ByteArray)) := ⟨_, rfl⟩; replace H : (some y304) = some r := by first | (rw [hy304]; with_reducible exact H) | (have H2_ := (Option.bind_some _ _).symm.trans H; rw [hy304]; with_reducible exact H2_) | (have H2_ := (Option.bind_some _ _).symm.trans H; with_reducible exact H2_) | with_reducible exact H | (rw [hy304]; exact H) | exact H
  have Ny304 := Aside0.mk hy304; clear hy304; obtain rfl := Option.some.inj H; go_enter Try.func123, Try.ntmps123
  go_wp2_with (first | ((with_reducible refine gate_dst (N := 1) rfl ?_); refine Kd.R_lit Kd.string _ 9 ?hg (N := 1) ?hd (xs := ([(⟨#[99, 97, 116]⟩ : ByteArray), (⟨#[97, 99, 116]⟩ : ByteArray), (⟨#[116, 97, 99]⟩ : ByteArray), (⟨#[97, 114, 99]⟩ : ByteArray), (⟨#[99, 97, 114]⟩ : ByteArray), (⟨#[101, 114, 97]⟩ : ByteArray), (⟨#[97, 114, 101]⟩ : ByteArray), (⟨#[101, 97, 114]⟩ : ByteArray), (⟨#[97, 116, 101]⟩ : ByteArray), (⟨#[116, 101, 97]⟩ : ByteArray), (⟨#[101, 97, 116]⟩ : ByteArray), (⟨#[115, 101, 97]⟩ : ByteArray), (⟨#[116, 97, 114]⟩ : ByteArray), (⟨#[114, 97, 116]⟩ : ByteArray), (⟨#[97, 114, 116]⟩ : ByteArray), (⟨#[97, 110, 116]⟩ : ByteArray), (⟨#[116, 97, 110]⟩ : ByteArray), (⟨#[110, 101, 116]⟩ : ByteArray), (⟨#[116, 101, 110]⟩ : ByteArray), (⟨#[114, 101, 115, 116]⟩ : ByteArray), (⟨#[116, 114, 101, 101]⟩ : ByteArray), (⟨#[115, 116, 97, 114]⟩ : ByteArray), (⟨#[114, 97, 116, 115]⟩ : ByteArray), (⟨#[97, 114, 116, 115]⟩ : ByteArray), (⟨#[101, 97, 115, 116]⟩ : ByteArray), (⟨#[115, 101, 97, 116]⟩ : ByteArray), (⟨#[116, 101, 97, 115]⟩ : ByteArray), (⟨#[110, 101, 116, 115]⟩ : ByteArray), (⟨#[116, 101, 110, 115]⟩ : ByteArray), (⟨#[115, 101, 110, 116]⟩ : ByteArray), (⟨#[116, 114, 97, 99, 101]⟩ : ByteArray), (⟨#[114, 101, 97, 99, 116]⟩ : ByteArray), (⟨#[99, 114, 97, 116, 101]⟩ : ByteArray), (⟨#[115, 116, 97, 114, 101]⟩ : ByteArray), (⟨#[116, 101, 97, 114, 115]⟩ : ByteArray)] : List ByteArray)) (inner := [.string (⟨#[99, 97, 116]⟩ : ByteArray), .string (⟨#[97, 99, 116]⟩ : ByteArray), .string (⟨#[116, 97, 99]⟩ : ByteArray), .string (⟨#[97, 114, 99]⟩ : ByteArray), .string (⟨#[99, 97, 114]⟩ : ByteArray), .string (⟨#[101, 114, 97]⟩ : ByteArray), .string (⟨#[97, 114, 101]⟩ : ByteArray), .string (⟨#[101, 97, 114]⟩ : ByteArray), .string (⟨#[97, 116, 101]⟩ : ByteArray), .string (⟨#[116, 101, 97]⟩ : ByteArray), .string (⟨#[101, 97, 116]⟩ : ByteArray), .string (⟨#[115, 101, 97]⟩ : ByteArray), .string (⟨#[116, 97, 114]⟩ : ByteArray), .string (⟨#[114, 97, 116]⟩ : ByteArray), .string (⟨#[97, 114, 116]⟩ : ByteArray), .string (⟨#[97, 110, 116]⟩ : ByteArray), .string (⟨#[116, 97, 110]⟩ : ByteArray), .string (⟨#[110, 101, 116]⟩ : ByteArray), .string (⟨#[116, 101, 110]⟩ : ByteArray), .string (⟨#[114, 101, 115, 116]⟩ : ByteArray), .string (⟨#[116, 114, 101, 101]⟩ : ByteArray), .string (⟨#[115, 116, 97, 114]⟩ : ByteArray), .string (⟨#[114, 97, 116, 115]⟩ : ByteArray), .string (⟨#[97, 114, 116, 115]⟩ : ByteArray), .string (⟨#[101, 97, 115, 116]⟩ : ByteArray), .string (⟨#[115, 101, 97, 116]⟩ : ByteArray), .string (⟨#[116, 101, 97, 115]⟩ : ByteArray), .string (⟨#[110, 101, 116, 115]⟩ : ByteArray), .string (⟨#[116, 101, 110, 115]⟩ : ByteArray), .string (⟨#[115, 101, 110, 116]⟩ : ByteArray), .string (⟨#[116, 114, 97, 99, 101]⟩ : ByteArray), .string (⟨#[114, 101, 97, 99, 116]⟩ : ByteArray), .string (⟨#[99, 114, 97, 116, 101]⟩ : ByteArray), .string (⟨#[115, 116, 97, 114, 101]⟩ : ByteArray), .string (⟨#[116, 101, 97, 114, 115]⟩ : ByteArray)]) (ok := fun _ => True) (okp := fun _ => True) ?hr ?hp (fun _ hk => hk) trivial (Below.refl _ _) (Nat.le_refl _) (by simp) ?_; (case hd => rfl); (case hg => rfl); (case hr => first | (go_simp; done) | (go_simp; rfl)); (case hp => exact (Reps.one (show Kd.M Kd.string _ _ _ (⟨#[99, 97, 116]⟩ : ByteArray) [.string (⟨#[99, 97, 116]⟩ : ByteArray)] from rfl) (Reps.one (show Kd.M Kd.string _ _ _ (⟨#[97, 99, 116]⟩ : ByteArray) [.string (⟨#[97, 99, 116]⟩ : ByteArray)] from rfl) (Reps.one (show Kd.M Kd.string _ _ _ (⟨#[116, 97, 99]⟩ : ByteArray) [.string (⟨#[116, 97, 99]⟩ : ByteArray)] from rfl) (Reps.one (show Kd.M Kd.string _ _ _ (⟨#[97, 114, 99]⟩ : ByteArray) [.string (⟨#[97, 114, 99]⟩ : ByteArray)] from rfl) (Reps.one (show Kd.M Kd.string _ _ _ (⟨#[99, 97, 114]⟩ : ByteArray) [.string (⟨#[99, 97, 114]⟩ : ByteArray)] from rfl) (Reps.one (show Kd.M Kd.string _ _ _ (⟨#[101, 114, 97]⟩ : ByteArray) [.string (⟨#[101, 114, 97]⟩ : ByteArray)] from rfl) (Reps.one (show Kd.M Kd.string _ _ _ (⟨#[97, 114, 101]⟩ : ByteArray) [.string (⟨#[97, 114, 101]⟩ : ByteArray)] from rfl) (Reps.one (show Kd.M Kd.string _ _ _ (⟨#[101, 97, 114]⟩ : ByteArray) [.string (⟨#[101, 97, 114]⟩ : ByteArray)] from rfl) (Reps.one (show Kd.M Kd.string _ _ _ (⟨#[97, 116, 101]⟩ : ByteArray) [.string (⟨#[97, 116, 101]⟩ : ByteArray)] from rfl) (Reps.one (show Kd.M Kd.string _ _ _ (⟨#[116, 101, 97]⟩ : ByteArray) [.string (⟨#[116, 101, 97]⟩ : ByteArray)] from rfl) (Reps.one (show Kd.M Kd.string _ _ _ (⟨#[101, 97, 116]⟩ : ByteArray) [.string (⟨#[101, 97, 116]⟩ : ByteArray)] from rfl) (Reps.one (show Kd.M Kd.string _ _ _ (⟨#[115, 101, 97]⟩ : ByteArray) [.string (⟨#[115, 101, 97]⟩ : ByteArray)] from rfl) (Reps.one (show Kd.M Kd.string _ _ _ (⟨#[116, 97, 114]⟩ : ByteArray) [.string (⟨#[116, 97, 114]⟩ : ByteArray)] from rfl) (Reps.one (show Kd.M Kd.string _ _ _ (⟨#[114, 97, 116]⟩ : ByteArray) [.string (⟨#[114, 97, 116]⟩ : ByteArray)] from rfl) (Reps.one (show Kd.M Kd.string _ _ _ (⟨#[97, 114, 116]⟩ : ByteArray) [.string (⟨#[97, 114, 116]⟩ : ByteArray)] from rfl) (Reps.one (show Kd.M Kd.string _ _ _ (⟨#[97, 110, 116]⟩ : ByteArray) [.string (⟨#[97, 110, 116]⟩ : ByteArray)] from rfl) (Reps.one (show Kd.M Kd.string _ _ _ (⟨#[116, 97, 110]⟩ : ByteArray) [.string (⟨#[116, 97, 110]⟩ : ByteArray)] from rfl) (Reps.one (show Kd.M Kd.string _ _ _ (⟨#[110, 101, 116]⟩ : ByteArray) [.string (⟨#[110, 101, 116]⟩ : ByteArray)] from rfl) (Reps.one (show Kd.M Kd.string _ _ _ (⟨#[116, 101, 110]⟩ : ByteArray) [.string (⟨#[116, 101, 110]⟩ : ByteArray)] from rfl) (Reps.one (show Kd.M Kd.string _ _ _ (⟨#[114, 101, 115, 116]⟩ : ByteArray) [.string (⟨#[114, 101, 115, 116]⟩ : ByteArray)] from rfl) (Reps.one (show Kd.M Kd.string _ _ _ (⟨#[116, 114, 101, 101]⟩ : ByteArray) [.string (⟨#[116, 114, 101, 101]⟩ : ByteArray)] from rfl) (Reps.one (show Kd.M Kd.string _ _ _ (⟨#[115, 116, 97, 114]⟩ : ByteArray) [.string (⟨#[115, 116, 97, 114]⟩ : ByteArray)] from rfl) (Reps.one (show Kd.M Kd.string _ _ _ (⟨#[114, 97, 116, 115]⟩ : ByteArray) [.string (⟨#[114, 97, 116, 115]⟩ : ByteArray)] from rfl) (Reps.one (show Kd.M Kd.string _ _ _ (⟨#[97, 114, 116, 115]⟩ : ByteArray) [.string (⟨#[97, 114, 116, 115]⟩ : ByteArray)] from rfl) (Reps.one (show Kd.M Kd.string _ _ _ (⟨#[101, 97, 115, 116]⟩ : ByteArray) [.string (⟨#[101, 97, 115, 116]⟩ : ByteArray)] from rfl) (Reps.one (show Kd.M Kd.string _ _ _ (⟨#[115, 101, 97, 116]⟩ : ByteArray) [.string (⟨#[115, 101, 97, 116]⟩ : ByteArray)] from rfl) (Reps.one (show Kd.M Kd.string _ _ _ (⟨#[116, 101, 97, 115]⟩ : ByteArray) [.string (⟨#[116, 101, 97, 115]⟩ : ByteArray)] from rfl) (Reps.one (show Kd.M Kd.string _ _ _ (⟨#[110, 101, 116, 115]⟩ : ByteArray) [.string (⟨#[110, 101, 116, 115]⟩ : ByteArray)] from rfl) (Reps.one (show Kd.M Kd.string _ _ _ (⟨#[116, 101, 110, 115]⟩ : ByteArray) [.string (⟨#[116, 101, 110, 115]⟩ : ByteArray)] from rfl) (Reps.one (show Kd.M Kd.string _ _ _ (⟨#[115, 101, 110, 116]⟩ : ByteArray) [.string (⟨#[115, 101, 110, 116]⟩ : ByteArray)] from rfl) (Reps.one (show Kd.M Kd.string _ _ _ (⟨#[116, 114, 97, 99, 101]⟩ : ByteArray) [.string (⟨#[116, 114, 97, 99, 101]⟩ : ByteArray)] from rfl) (Reps.one (show Kd.M Kd.string _ _ _ (⟨#[114, 101, 97, 99, 116]⟩ : ByteArray) [.string (⟨#[114, 101, 97, 99, 116]⟩ : ByteArray)] from rfl) (Reps.one (show Kd.M Kd.string _ _ _ (⟨#[99, 114, 97, 116, 101]⟩ : ByteArray) [.string (⟨#[99, 114, 97, 116, 101]⟩ : ByteArray)] from rfl) (Reps.one (show Kd.M Kd.string _ _ _ (⟨#[115, 116, 97, 114, 101]⟩ : ByteArray) [.string (⟨#[115, 116, 97, 114, 101]⟩ : ByteArray)] from rfl) (Reps.one (show Kd.M Kd.string _ _ _ (⟨#[116, 101, 97, 114, 115]⟩ : ByteArray) [.string (⟨#[116, 101, 97, 114, 115]⟩ : ByteArray)] from rfl) (Reps.none _ _))))))))))))))))))))))))))))))))))))); intro v305 w1 ho2 hb hg_ hnew_; clear hg_ hnew_; (first | rw [← Ny304.out] at ho2 | (simp only [Int.reduceToNat] at ho2; rw [← Ny304.out] at ho2)); have HO306 := Aside0.mk (Kd.R_lower ho2 (below_size z_g4)); replace HB := Aside0.mk (below_step z_g4 hb); clear hb ho2))
  go_ret
  exact ⟨_, by first | rfl | (simp [errW_none, errW_some] <;> rfl) | (simp [*, errW_none, errW_some] <;> rfl), by (with_reducible repeat (first | apply Kd.R_alloc | apply Kd.R_drewN | apply Kd.R_drew)); exact HO306.out, z_g4⟩

/-! ### spec_l4Word: function 122 -/
def spec_l4Word.f (s0_0 : List Int) (s0_1 : Int) (s0_2 : Int) : Option (ByteArray × Int × Int) := (spec_l4Words.f).bind fun t307 => ((spec_l1Str.f s0_0 s0_1 s0_2 t307).bind fun bt310 => (some (bt310.1, bt310.2.1, bt310.2.2)))
theorem spec_l4Word.calls (g : Nat) (s0_0 : List Int) (s0_1 : Int) (s0_2 : Int) (r1 : ByteArray) (r2 : Int) (r3 : Int) (w0 w : World) (hI : IsS103 w0 w g s0_0 s0_1 s0_2) (hB : Below w0.heap.size w0 w) (h : spec_l4Word.f s0_0 s0_1 s0_2 = some (r1, r2, r3)) :
   Calls Try.prog 122 #[.pointer (some ⟨g, 0, none⟩)] w fun e w' => e = .returned (.string r1) ∧ IsS103 w0 w' g s0_0 r2 r3 ∧ Below w0.heap.size w0 w' ∧ KeepBut w w' g none := by
  have HI0 := Aside0.mk hI; have HK := Aside0.mk (KeepBut.refl w g none); have HL := Aside0.mk hB.size; clear hI; have HW0 := Aside0.mk hB.size; have HB := Aside0.mk hB; clear hB; have H : ((spec_l4Words.f).bind fun t307 => ((spec_l1Str.f s0_0 s0_1 s0_2 t307).bind fun bt310 => (some (bt310.1, bt310.2.1, bt310.2.2)))) = some (r1, r2, r3) := h; clear h; replace H := Option.bind_eq_some_iff.mp H; obtain ⟨t307, A20, H⟩ := H; try dsimp only at H
  have A2 := Aside0.mk A20; clear A20; replace H := Option.bind_eq_some_iff.mp H; obtain ⟨⟨t310, t311, t312⟩, A30, H⟩ := H; try dsimp only at H
  have A3 := Aside0.mk A30; clear A30; simp only [Option.some.injEq, Prod.mk.injEq] at H; obtain ⟨rfl, rfl, rfl⟩ := H; go_enter Try.func122, Try.ntmps122
  go_wp2_with (first | ((with_reducible refine gate_callee (f := 123) rfl ?_); refine goesL_ (some 4) rfl rfl Try.func123 (by kernel_rfl) rfl #[] rfl z_g9 ?_; (with_reducible refine (spec_l4Words.calls  t307 _ A2.out).mono ?_); rintro e w4 ⟨v308, rfl, ho0, hb⟩; refine ⟨_, rfl, ?_⟩; have HO309 := Aside0.mk (Kd.R_lower ho0 (keep_size (w := w) (g := g) (row := none) (by repeat (first | (with_reducible first | exact HK.out | apply KeepBut.set_ | apply keep_drewN | apply keep_drew | apply keep_alloc) | exact HK.out)))); replace HK := Aside0.mk (KeepBut.trans (by repeat (first | (with_reducible first | exact HK.out | apply KeepBut.set_ | apply keep_drewN | apply keep_drew | apply keep_alloc) | exact HK.out)) (KeepBut.of_below hb g none) (.inl rfl)); replace HB := Aside0.mk (below_step (by repeat (first | (with_reducible first | exact HB.out | apply below_alloc | apply pw_below_drewN | apply below_drew1 | refine below_set ?_ (IsS103.ge HI0.out)) | exact HB.out)) hb); replace HI0 := Aside0.mk (IsS103.below (by repeat (first | (with_reducible first | exact HI0.out | apply IsS103.alloc | apply IsS103.drewN | apply IsS103.drew | apply IsS103.set_1 | apply IsS103.set_2) | exact HI0.out)) hb); (try clear hb); (try clear ho0); obtain ⟨Ao5, co5, eo5⟩ := Kd.R_slice HO309.out; subst eo5) | ((with_reducible refine gate_callee (f := 93) rfl ?_); refine goesL_ (some 5) rfl rfl Try.func93 (by kernel_rfl) rfl #[.pointer (some ⟨g, 0, none⟩), .slice Ao5 t307.length co5] rfl z_g9 ?_; (with_reducible refine (spec_l1Str.calls g s0_0 s0_1 s0_2 _ _ t307 t310 t311 t312 w0 _ ?side1 ?side2 ?side3 ?side4 ?side5 A3.out).mono ?_); (case side1 => repeat (first | (with_reducible first | exact HI0.out | apply IsS103.alloc | apply IsS103.drewN | apply IsS103.drew | apply IsS103.set_1 | apply IsS103.set_2) | exact HI0.out)); (case side2 => repeat (first | (with_reducible first | exact HB.out | apply below_alloc | apply pw_below_drewN | apply below_drew1 | refine below_set ?_ (IsS103.ge HI0.out)) | exact HB.out)); (case side3 => repeat (first | exact (Kd.R_reads' HO309.out).2.2 | (with_reducible refine Kd.C_alloc ?_ _) | (with_reducible refine Kd.C_drewN ?_ _) | (with_reducible refine Kd.C_drew ?_))); (case side4 => exact (Kd.R_reads' HO309.out).2.1); (case side5 => exact far_slice (IsS103.own_ne HI0.out HO309.out (by decide))); rintro e w6 ⟨rfl, hi, hb, hk⟩; refine ⟨_, rfl, ?_⟩; replace HO309 := Aside0.mk (Kd.R_mono (Kd.R_keep (IsS103.apart (show IsS103 w0 _ g s0_0 s0_1 s0_2 from by repeat (first | (with_reducible first | exact HI0.out | apply IsS103.alloc | apply IsS103.drewN | apply IsS103.drew | apply IsS103.set_1 | apply IsS103.set_2) | exact HI0.out)) (by (with_reducible repeat (first | apply Kd.R_alloc | apply Kd.R_drewN | apply Kd.R_drew)); exact HO309.out) (by decide)) hk (fun _ h => h.2)) (fun _ h => h.1)); replace HK := Aside0.mk (KeepBut.trans (by repeat (first | (with_reducible first | exact HK.out | apply KeepBut.set_ | apply keep_drewN | apply keep_drew | apply keep_alloc) | exact HK.out)) hk (.inl rfl)); replace HB := Aside0.mk (hb); replace HI0 := Aside0.mk (hi); (try clear hb)))
  go_ret
  exact ⟨by first | rfl | (simp [errW_none, errW_some] <;> rfl) | (simp [*, errW_none, errW_some] <;> rfl), by repeat (first | (with_reducible first | exact HI0.out | apply IsS103.alloc | apply IsS103.drewN | apply IsS103.drew | apply IsS103.set_1 | apply IsS103.set_2) | exact HI0.out), by repeat (first | (with_reducible first | exact HB.out | apply below_alloc | apply pw_below_drewN | apply below_drew1 | refine below_set ?_ (IsS103.ge HI0.out)) | exact HB.out), by repeat (first | (with_reducible first | exact HK.out | apply KeepBut.set_ | apply keep_drewN | apply keep_drew | apply keep_alloc) | exact HK.out)⟩

end Go.Proofs.Ytodcckiphdnjeaa.QFnPruned
