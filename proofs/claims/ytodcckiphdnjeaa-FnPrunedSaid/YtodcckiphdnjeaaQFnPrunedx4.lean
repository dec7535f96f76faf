-- Written by a changed copy of the kit's printer (wip/mp.py of this repo), for this claim; Lean checks it.
import Derived.Test.YtodcckiphdnjeaaQFnPrunedx0
import Derived.Test.YtodcckiphdnjeaaQFnPrunedx2
import Derived.Test.YtodcckiphdnjeaaQFnPrunedx3
namespace Go.Proofs.Ytodcckiphdnjeaa.QFnPruned
open Go.RowKit Go.Proofs.YtodcckiphdnjeaaW.PrintWords Go.Proofs.YtodcckiphdnjeaaW.PrintLast Go.Proofs.YtodcckiphdnjeaaW.PrintMore
attribute [local go_sem] max2_int min2_int max_two min_two max_three min_three max_four min_four   -- for this text's walks alone
set_option linter.unusedVariables false
set_option maxHeartbeats 8000000
set_option maxRecDepth 100000
set_option linter.unusedSimpArgs false

theorem z4_0 {p : Prop} (h : p := by repeat (first | (with_reducible first | exact HB.out | apply below_alloc | apply pw_below_drewN | apply below_drew1 | refine below_set ?_ GE105.out) | exact HB.out)) : p := h
theorem z4_4 {p : Prop} (h : p := by (with_reducible repeat (first | refine blk_drewN ?_ _ | refine blk_drew ?_ | refine blk_alloc ?_ _)); exact BK105.out) : p := h
/-! ### impl_SlotsOf: function 26 -/
mutual
def impl_SlotsOf.l0 : Nat → List (S65) → Int → Int → Int → Int → Int → ByteArray → Option ((List (S65)))
  | 0, _, _, _, _, _, _, _ => none
  | k + 1, x3, x4, x13, x14, x106000, x106001, x106002 => if x14 < x13 then ((impl_run.f k x106000 x106001 x106002 x14 false).bind fun t107 => ((impl_run.f k x106000 x106001 x106002 x14 true).bind fun t108 => (if t107 ≥ 2 then (impl_SlotsOf.j1 k x3 x4 x14 t107 t108 x13 x14 true x106000 x106001 x106002) else (impl_SlotsOf.j1 k x3 x4 x14 t107 t108 x13 x14 (decide (t108 ≥ 2)) x106000 x106001 x106002)))) else (some x3)
def impl_SlotsOf.j1 : Nat → List (S65) → Int → Int → Int → Int → Int → Int → Bool → Int → Int → ByteArray → Option ((List (S65)))
  | 0, _, _, _, _, _, _, _, _, _, _, _ => none
  | k + 1, x3, x4, x5, x6, x7, x13, x14, x28, x106000, x106001, x106002 => if x28 = true then (impl_SlotsOf.j2 k x3 (wrap64 (x4 + 1)) x5 x6 x7 x13 x14 x106000 x106001 x106002) else (impl_SlotsOf.j2 k x3 x4 x5 x6 x7 x13 x14 x106000 x106001 x106002)
def impl_SlotsOf.j2 : Nat → List (S65) → Int → Int → Int → Int → Int → Int → Int → Int → ByteArray → Option ((List (S65)))
  | 0, _, _, _, _, _, _, _, _, _, _ => none
  | k + 1, x3, x4, x5, x6, x7, x13, x14, x106000, x106001, x106002 => if x6 ≥ 2 then (if x3.length < 4398046511104 then ((some (x3 ++ [(⟨x4, false, x5, x6⟩ : S65)] : List (S65))).bind fun y109 => (if x7 ≥ 2 then (if y109.length < 4398046511104 then (impl_SlotsOf.l0 k (y109 ++ [(⟨x4, true, x5, x7⟩ : S65)]) x4 x13 (wrap64 (x14 + 1)) x106000 x106001 x106002) else (none)) else (impl_SlotsOf.l0 k y109 x4 x13 (wrap64 (x14 + 1)) x106000 x106001 x106002))) else (none)) else (if x7 ≥ 2 then (if x3.length < 4398046511104 then (impl_SlotsOf.l0 k (x3 ++ [(⟨x4, true, x5, x7⟩ : S65)]) x4 x13 (wrap64 (x14 + 1)) x106000 x106001 x106002) else (none)) else (impl_SlotsOf.l0 k x3 x4 x13 (wrap64 (x14 + 1)) x106000 x106001 x106002))
end
def impl_SlotsOf.f (k : Nat) (a0_0 : Int) (a0_1 : Int) (a0_2 : ByteArray) : Option ((List (S65))) := (impl_IsGrid.f k a0_0 a0_1 a0_2).bind fun t106 => (if t106 = true then (impl_SlotsOf.l0 k ([] : List (S65)) 0 (a0_2.size : Int) 0 a0_0 a0_1 a0_2) else (some ([] : List (S65))))
def impl_SlotsOf.T8 : Bool × List (List Nat × List Nat) := (true, [([], []), ([], []), ([0, 1], [0, 1]), ([], []), ([], []), ([3, 4, 2], [3, 4]), ([2, 5, 0, 1, 2], [2]), ([5, 6, 0, 1, 2, 3, 4, 5, 6], [5])])
def impl_SlotsOf.B8 : List Nat := [0, 0, 3, 0, 0, 31, 63, 127]
theorem impl_SlotsOf.tab8 : rtab .any (opsOf Try.f26 8) = impl_SlotsOf.T8 := by kernel_rfl
theorem impl_SlotsOf.bits8 : waitsOk impl_SlotsOf.T8.2 impl_SlotsOf.B8 = true := by kernel_rfl
theorem impl_SlotsOf.calls (k : Nat) (a0_0 : Int) (a0_1 : Int) (a0_2 : ByteArray) (r : List (S65)) (w : World) (h : impl_SlotsOf.f k a0_0 a0_1 a0_2 = some r) :
   Calls Try.prog 26 #[.agg #[.int .i64 a0_0, .int .i64 a0_1, .string a0_2]] w fun e w' => ∃ v0_ : Value, e = .returned (v0_) ∧ Kd.R k65 65 w' w.heap.size (fun _ => True) v0_ r ∧ Below w.heap.size w w' := by
  have hu28 := Try.underlying28; have hu65 := Try.underlying65; have HB := Aside0.mk (Below.refl w.heap.size w); have H : ((impl_IsGrid.f k a0_0 a0_1 a0_2).bind fun t106 => (if t106 = true then (impl_SlotsOf.l0 k ([] : List (S65)) 0 (a0_2.size : Int) 0 a0_0 a0_1 a0_2) else (some ([] : List (S65))))) = some r := h; clear h; replace H := Option.bind_eq_some_iff.mp H; obtain ⟨t106, A20, H⟩ := H; try dsimp only at H
  have A2 := Aside0.mk A20; clear A20; by_cases c3 : t106 = true
  ·subst c3; rw [if_pos rfl] at H
   have H' := Aside0.mk H
   clear H; go_enter Try.func26, Try.ntmps26
   go_wp2_with (first | ((with_reducible refine gate_dst (N := 1) rfl ?_); refine box_event ?hg (N := 1) ?hd (cs := #[.int .i64 a0_0, .int .i64 a0_1, .string a0_2]) (t := 28) ?hr ?_; (case hd => rfl); (case hg => rfl); (case hr => first | (go_simp; done) | (go_simp; rfl)); intro gb105 hg w4 hbox hb; have BK105 := Aside0.mk (hbox); have GW105 := Aside0.mk ((by rw [hg]; exact (below_size z_g4) : w.heap.size ≤ gb105)); have GE105 := Aside0.mk ((by rw [hg]; exact (below_size z_g4) : w.heap.size ≤ gb105)); replace HB := Aside0.mk (below_step z_g4 hb); clear hb hbox hg; obtain ⟨hcz5_0, hcz5_1, hcz5_2, hfz5_0, hfz5_1, hfz5_2⟩ := bc3_g0 BK105.out) | ((with_reducible refine gate_callee (f := 61) rfl ?_); refine goesL_ (some 9) rfl rfl Try.func61 (by kernel_rfl) rfl #[.agg #[.int .i64 a0_0, .int .i64 a0_1, .string a0_2]] rfl z_g9 ?_; (with_reducible refine (impl_IsGrid.calls k a0_0 a0_1 a0_2 true _ A2.out).mono ?_); rintro e w6 ⟨rfl, hb⟩; refine ⟨_, rfl, ?_⟩; replace BK105 := Aside0.mk (blk_below (g := gb105) (o := .cells #[.int .i64 a0_0, .int .i64 a0_1, .string a0_2] 28 (0, 0)) (bd_g7 BK105.out) hb); replace HB := Aside0.mk (below_step z4_0 hb); (try clear hb); obtain ⟨hcz7_0, hcz7_1, hcz7_2, hfz7_0, hfz7_1, hfz7_2⟩ := bc3_g0 BK105.out))
   go_loopg [3, 4, 14] k (fun kq v3 v4 v14 w' => ∃ (x3_1 : List (S65)) (x4_1 : Int) (x14_1 : Int), v4 = .int .i64 x4_1 ∧ v14 = .int .i64 x14_1 ∧ Aside0 (impl_SlotsOf.l0 kq x3_1 x4_1 (a0_2.size : Int) x14_1 a0_0 a0_1 a0_2 = some r) ∧ Aside0 (kq ≤ k) ∧ Aside0 (Kd.R k65 65 w' w.heap.size (fun _ => True) v3 x3_1) ∧ Aside0 (w'.heap[gb105]? = some (.cells #[.int .i64 a0_0, .int .i64 a0_1, .string a0_2] 28 (0, 0))) ∧ Aside0 (Below w.heap.size w w'))
   case atStart => exact ⟨(([] : List (S65))), (0), (0), z_g2, z_g2, H', ⟨Nat.le_refl _⟩, ⟨by first | exact Kd.R_nil _ _ _ _ _ | exact Kd.N_nil _ _ _ _ _ | exact Kd.V_nil _ _ _ _ _ | exact Kd.Q_nil _ _ _ _ _ | exact Kd.S_nil _ _ _ _ _⟩, ⟨z4_4⟩, ⟨z4_0⟩⟩
   case round =>
    clear H'; try clear c2
    try clear p2
    try clear c3
    try clear c6
    try clear hcz5_0 hcz5_1 hcz5_2
    try clear hcz7_0 hcz7_1 hcz7_2
    try clear hfz5_0 hfz5_1 hfz5_2
    try clear hfz7_0 hfz7_1 hfz7_2
    obtain ⟨x3_1, x4_1, x14_1, rfl, rfl, HA, HK1, HO_3, BK105, HB⟩ := hrel
    cases gk with
    | zero => exact absurd HA.out (by simp [impl_SlotsOf.l0])
    | succ k1 =>
     have H := HA.out; clear HA; simp only [impl_SlotsOf.l0] at H; by_cases c8 : x14_1 < (a0_2.size : Int)
     ·rw [if_pos c8] at H
      have c8b0 := decide_eq_true c8; clear c8; replace H := Option.bind_eq_some_iff.mp H; obtain ⟨t107, A90, H⟩ := H; try dsimp only at H
      have A9 := Aside0.mk A90; clear A90; replace H := Option.bind_eq_some_iff.mp H; obtain ⟨t108, A100, H⟩ := H; try dsimp only at H
      have A10 := Aside0.mk A100; clear A100; have HC11 := Aside0.mk H; clear H; try go_wp2
      replace HO_3 := Aside0.mk (Kd.R_drew HO_3.out); replace BK105 := Aside0.mk (blk_drew BK105.out); replace HB := Aside0.mk (below_drew1 HB.out); refine start_ (n := 8) (S := fun w' => w'.cell? ⟨gb105, 0, none⟩ = some (.int .i64 a0_0) ∧ w'.cell? ⟨gb105, 1, none⟩ = some (.int .i64 a0_1) ∧ w'.cell? ⟨gb105, 2, none⟩ = some (.string a0_2)) (ds := []) #[false, false, false, false, false, false, false, false] (by kernel_rfl) rfl rfl ⟨(blk_cell BK105.out 0).trans rfl, (blk_cell BK105.out 1).trans rfl, (blk_cell BK105.out 2).trans rfl⟩ (fun hHeld => ?_); refine with_tabW impl_SlotsOf.tab8 impl_SlotsOf.bits8 (fun HT_ HW_ => ?_)
      generalize wr.drew = w12 at HO_3 BK105 HB hHeld ⊢
      refine pu_g5 1 (some 18) (any_of HT_.out (by kernel_rfl)) ?_
      refine pu_g5 4 (some 21) (any_of HT_.out (by kernel_rfl)) ?_
      refine tk_g6 0 (some 17) rfl (take_ofW HT_.out HW_.out (by kernel_rfl)) (Or.inl ⟨by rfl, fun w' ⟨s0, s1, s2⟩ => by go_simp; with_reducible rfl⟩) hHeld ?_
      refine tk_g6 3 (some 20) rfl (take_ofW HT_.out HW_.out (by kernel_rfl)) (Or.inl ⟨by rfl, fun w' ⟨s0, s1, s2⟩ => by go_simp; with_reducible rfl⟩) hHeld ?_
      refine one_ (i := 2) (N := some 19) #[true, true, true, true, true, false, false, false] rfl rfl (one_of HT_.out (by kernel_rfl)) (by decide) (fun K hK => ?_)
      refine goes_ Try.func62 (by kernel_rfl) rfl #[.agg #[.int .i64 a0_0, .int .i64 a0_1, .string a0_2], .int .i64 x14_1, .bool false] (by rfl) rfl rfl z_g9 ?_
      with_reducible refine (impl_run.calls k1 a0_0 a0_1 a0_2 x14_1 false t107 _ A9.out).mono ?_
      rintro e w13 ⟨rfl, hb⟩
      refine ⟨_, rfl, ?_⟩
      replace HO_3 := Aside0.mk (Kd.R_below (kd_g8 HO_3.out) hb); replace BK105 := Aside0.mk (blk_below (g := gb105) (o := .cells #[.int .i64 a0_0, .int .i64 a0_1, .string a0_2] 28 (0, 0)) (bd_g7 BK105.out) hb); replace HB := Aside0.mk (below_step z4_0 hb); (try clear hb)
      (try clear hb2)
      (try clear hk)
      (try clear hi)
      refine hK.out _ _ ⟨(blk_cell BK105.out 0).trans rfl, (blk_cell BK105.out 1).trans rfl, (blk_cell BK105.out 2).trans rfl⟩ (fun hHeld => ?_)
      clear hK K; refine norm_ (a' := ?_) ?_ ?_
      rotate_left
      ·show Act.put _ (some 19) _ = _
       simp only [Act.put, List.setIfInBounds_toArray, List.set_cons_zero, List.set_cons_succ, i64_w, i32_w]; rfl
      refine one_ (i := 5) (N := some 22) #[true, true, true, true, true, true, false, false] rfl rfl (one_of HT_.out (by kernel_rfl)) (by decide) (fun K hK => ?_)
      refine goes_ Try.func62 (by kernel_rfl) rfl #[.agg #[.int .i64 a0_0, .int .i64 a0_1, .string a0_2], .int .i64 x14_1, .bool true] (by rfl) rfl rfl z_g9 ?_
      with_reducible refine (impl_run.calls k1 a0_0 a0_1 a0_2 x14_1 true t108 _ A10.out).mono ?_
      rintro e w14 ⟨rfl, hb⟩
      refine ⟨_, rfl, ?_⟩
      replace HO_3 := Aside0.mk (Kd.R_below (kd_g8 HO_3.out) hb); replace BK105 := Aside0.mk (blk_below (g := gb105) (o := .cells #[.int .i64 a0_0, .int .i64 a0_1, .string a0_2] 28 (0, 0)) (bd_g7 BK105.out) hb); replace HB := Aside0.mk (below_step z4_0 hb); (try clear hb)
      (try clear hb2)
      (try clear hk)
      (try clear hi)
      refine hK.out _ _ ⟨(blk_cell BK105.out 0).trans rfl, (blk_cell BK105.out 1).trans rfl, (blk_cell BK105.out 2).trans rfl⟩ (fun hHeld => ?_)
      clear hK K; refine norm_ (a' := ?_) ?_ ?_
      rotate_left
      ·show Act.put _ (some 22) _ = _
       simp only [Act.put, List.setIfInBounds_toArray, List.set_cons_zero, List.set_cons_succ, i64_w, i32_w]; rfl
      refine pu_g5 6 (some 6) (any_of HT_.out (by kernel_rfl)) ?_
      refine pu_g5 7 (some 7) (any_of HT_.out (by kernel_rfl)) ?_
      refine done_ (done_of HT_.out (by kernel_rfl)) ?_
      go_upto_region 9 with (fail)
      go_cut [28] (fun v28 wc => ∃ (kq : Nat) (x28_10 : Bool), v28 = .bool x28_10 ∧ Aside0 (impl_SlotsOf.j1 kq x3_1 x4_1 x14_1 t107 t108 (a0_2.size : Int) x14_1 x28_10 a0_0 a0_1 a0_2 = some r) ∧ Aside0 (kq ≤ k1) ∧ Aside0 (Kd.R k65 65 wc w.heap.size (fun _ => True) u3 x3_1) ∧ Aside0 (wc.heap[gb105]? = some (.cells #[.int .i64 a0_0, .int .i64 a0_1, .string a0_2] 28 (0, 0))) ∧ Aside0 (Below w.heap.size w wc))
      case first =>
       have H := HC11.out; clear HC11; by_cases c15 : t107 ≥ 2
       ·rw [if_pos c15] at H
        have c15b0 := decide_eq_true c15; clear c15; (first | rw [c15b0] | (simp only [i64_w, i32_w]; rw [c15b0]) | skip)
        have H' := Aside0.mk H
        clear H; go_wp2
        go_meet
        case rel => exact ⟨_, (true), z_g2, H', ⟨by have := HK1.out; first | omega | exact Nat.le_refl _⟩, ⟨z_g10⟩, ⟨z4_4⟩, ⟨z4_0⟩⟩
       ·rw [if_neg c15] at H
        have c15b0 := decide_eq_false c15; clear c15; (first | rw [c15b0] | (simp only [i64_w, i32_w]; rw [c15b0]) | skip)
        have H' := Aside0.mk H
        clear H; go_wp2
        go_meet
        case rel => exact ⟨_, (decide (t108 ≥ 2)), z_g2, H', ⟨by have := HK1.out; first | omega | exact Nat.le_refl _⟩, ⟨z_g10⟩, ⟨z4_4⟩, ⟨z4_0⟩⟩
      case rest =>
       clear HC11; try clear c1
       try clear c2
       try clear p2
       try clear c3
       try clear c6
       try clear c8
       try clear c8b0
       try clear c15
       try clear c15b0
       try clear hcz5_0 hcz5_1 hcz5_2
       try clear hcz7_0 hcz7_1 hcz7_2
       try clear hfz5_0 hfz5_1 hfz5_2
       try clear hfz7_0 hfz7_1 hfz7_2
       try clear p2
       obtain ⟨kq, x28_10, rfl, HA, HJ10, HO_3, BK105, HB⟩ := hcut
       cases kq with
       | zero => exact absurd HA.out (by simp [impl_SlotsOf.j1])
       | succ kj10 =>
        have H := HA.out; clear HA; simp only [impl_SlotsOf.j1] at H; have HC16 := Aside0.mk H; clear H; go_upto_if 28 with (fail)
        go_cut [4] (fun v4 wc => ∃ (kq : Nat) (x4_15 : Int), v4 = .int .i64 x4_15 ∧ Aside0 (impl_SlotsOf.j2 kq x3_1 x4_15 x14_1 t107 t108 (a0_2.size : Int) x14_1 a0_0 a0_1 a0_2 = some r) ∧ Aside0 (kq ≤ kj10) ∧ Aside0 (Kd.R k65 65 wc w.heap.size (fun _ => True) u3 x3_1) ∧ Aside0 (wc.heap[gb105]? = some (.cells #[.int .i64 a0_0, .int .i64 a0_1, .string a0_2] 28 (0, 0))) ∧ Aside0 (Below w.heap.size w wc))
        case first =>
         have H := HC16.out; clear HC16; by_cases c17 : x28_10 = true
         ·subst c17; rw [if_pos rfl] at H
          have H' := Aside0.mk H
          clear H; go_wp2
          go_meet
          case rel => exact ⟨_, (wrap64 (x4_1 + 1)), z_g2, H', ⟨by have := HK1.out; have := HJ10.out; first | omega | exact Nat.le_refl _⟩, ⟨z_g10⟩, ⟨z4_4⟩, ⟨z4_0⟩⟩
         ·replace c17 := Bool.eq_false_iff.mpr c17; subst c17; rw [if_neg (show ¬ (false = true) by decide)] at H
          have H' := Aside0.mk H
          clear H; go_wp2
          go_meet
          case rel => exact ⟨_, (x4_1), z_g2, H', ⟨by have := HK1.out; have := HJ10.out; first | omega | exact Nat.le_refl _⟩, ⟨z_g10⟩, ⟨z4_4⟩, ⟨z4_0⟩⟩
        case rest =>
         clear HC16; try clear c1
         try clear c2
         try clear p2
         try clear c3
         try clear c6
         try clear p6
         try clear c8
         try clear c8b0
         try clear c15
         try clear c15b0
         try clear c17
         try clear hcz5_0 hcz5_1 hcz5_2
         try clear hcz7_0 hcz7_1 hcz7_2
         try clear hfz5_0 hfz5_1 hfz5_2
         try clear hfz7_0 hfz7_1 hfz7_2
         try clear p2
         obtain ⟨kq, x4_15, rfl, HA, HJ15, HO_3, BK105, HB⟩ := hcut
         cases kq with
         | zero => exact absurd HA.out (by simp [impl_SlotsOf.j2])
         | succ kj15 =>
          have H := HA.out; clear HA; simp only [impl_SlotsOf.j2] at H; by_cases c18 : t107 ≥ 2
          ·rw [if_pos c18] at H
           have c18b0 := decide_eq_true c18; clear c18; by_cases c19 : x3_1.length < 4398046511104
           ·rw [if_pos c19] at H
            have LMc19 := Aside0.mk c19; clear c19; obtain ⟨y109, hy109⟩ : ∃ y_ : List (S65), y_ = (x3_1 ++ [(⟨x4_15, false, x14_1, t107⟩ : S65)]) := ⟨_, rfl⟩; replace H : (if t108 ≥ 2 then (if y109.length < 4398046511104 then (impl_SlotsOf.l0 kj15 (y109 ++ [(⟨x4_15, true, x14_1, t108⟩ : S65)]) x4_15 (a0_2.size : Int) (wrap64 (x14_1 + 1)) a0_0 a0_1 a0_2) else (none)) else (impl_SlotsOf.l0 kj15 y109 x4_15 (a0_2.size : Int) (wrap64 (x14_1 + 1)) a0_0 a0_1 a0_2)) = some r := by first | (rw [hy109]; with_reducible exact H) | (have H2_ := (Option.bind_some _ _).symm.trans H; rw [hy109]; with_reducible exact H2_) | (have H2_ := (Option.bind_some _ _).symm.trans H; with_reducible exact H2_) | with_reducible exact H | (rw [hy109]; exact H) | exact H
            have Ny109 := Aside0.mk hy109; clear hy109; by_cases c20 : t108 ≥ 2
            ·rw [if_pos c20] at H
             have c20b0 := decide_eq_true c20; clear c20; by_cases c21 : y109.length < 4398046511104
             ·rw [if_pos c21] at H
              have LMc21 := Aside0.mk c21; clear c21; obtain ⟨y112, hy112⟩ : ∃ y_ : List (S65), y_ = (y109 ++ [(⟨x4_15, true, x14_1, t108⟩ : S65)]) := ⟨_, rfl⟩; replace H : (impl_SlotsOf.l0 kj15 y112 x4_15 (a0_2.size : Int) (wrap64 (x14_1 + 1)) a0_0 a0_1 a0_2) = some r := by first | (rw [hy112]; with_reducible exact H) | (have H2_ := (Option.bind_some _ _).symm.trans H; rw [hy112]; with_reducible exact H2_) | (have H2_ := (Option.bind_some _ _).symm.trans H; with_reducible exact H2_) | with_reducible exact H | (rw [hy112]; exact H) | exact H
              have Ny112 := Aside0.mk hy112; clear hy112; have H' := Aside0.mk H
              clear H; go_wp2_with (first | ((with_reducible refine gate_builtin (b := .append) (xs := #[.tmp 33, .tmp 38]) rfl ?_); at_builtin; refine Kd.R_append k65 (w0 := w) w.heap.size rfl (.tmp 33) (.tmp 38) 44 65 (.agg #[(.int .i64 0), (.bool false), (.int .i64 0), (.int .i64 0)]) 32 rfl Try.underlying44 info65 rfl (by decide) (by omega) u3 x3_1 (⟨x4_15, false, x14_1, t107⟩ : S65) [.int .i64 x4_15, .bool false, .int .i64 x14_1, .int .i64 t107] (fun _ => True) (fun _ => False) rfl rfl ?aP (fun _ hk => hk.elim) ?aF ?aO ?aB ?aS ?aL ?_; (case aP => exact k65_mkM _ _ _ (⟨x4_15, false, x14_1, t107⟩ : S65)); (case aB => exact z4_0); (case aF => exact (fun _ _ => trivial)); (case aO => exact (kd_g8 HO_3.out)); (case aS => exact (below_size z4_0)); (case aL => have := LMc19.out; omega); intro v110 w22 ho hb hg hat; rw [← Ny109.out] at ho; have n0_ := Aside0.mk (blk_grown (g := gb105) (o := .cells #[.int .i64 a0_0, .int .i64 a0_1, .string a0_2] 28 (0, 0)) (bd_g7 BK105.out) hg (Kd.R_ne HO_3.out BK105.out (by decide))); have n1_ := Aside0.mk (hb); have n2_ := Aside0.mk (ho); clear BK105; clear HB; clear HO_3; have BK105 := n0_; have HB := n1_; have HO111 := n2_; clear n0_ n1_ n2_; clear ho hb hg hat) | ((with_reducible refine gate_builtin (b := .append) (xs := #[.tmp 42, .tmp 47]) rfl ?_); at_builtin; refine Kd.R_append k65 (w0 := w) w.heap.size rfl (.tmp 42) (.tmp 47) 44 65 (.agg #[(.int .i64 0), (.bool false), (.int .i64 0), (.int .i64 0)]) 32 rfl Try.underlying44 info65 rfl (by decide) (by omega) v110 y109 (⟨x4_15, true, x14_1, t108⟩ : S65) [.int .i64 x4_15, .bool true, .int .i64 x14_1, .int .i64 t108] (fun _ => True) (fun _ => False) rfl rfl ?aP (fun _ hk => hk.elim) ?aF ?aO ?aB ?aS ?aL ?_; (case aP => exact k65_mkM _ _ _ (⟨x4_15, true, x14_1, t108⟩ : S65)); (case aB => exact z4_0); (case aF => exact (fun _ _ => trivial)); (case aO => exact (kd_g8 HO111.out)); (case aS => exact (below_size z4_0)); (case aL => have := LMc21.out; omega); intro v113 w23 ho hb hg hat; rw [← Ny112.out] at ho; have n0_ := Aside0.mk (blk_grown (g := gb105) (o := .cells #[.int .i64 a0_0, .int .i64 a0_1, .string a0_2] 28 (0, 0)) (bd_g7 BK105.out) hg (Kd.R_ne HO111.out BK105.out (by decide))); have n1_ := Aside0.mk (hb); have n2_ := Aside0.mk (ho); clear BK105; clear HB; clear HO111; have BK105 := n0_; have HB := n1_; have HO114 := n2_; clear n0_ n1_ n2_; clear ho hb hg hat))
              go_roundg kj15
              case measure => have := HK1.out; have := HJ10.out; have := HJ15.out; omega
              case rel => exact ⟨(y112), (x4_15), (wrap64 (x14_1 + 1)), z_g2, z_g2, H', ⟨by have := HK1.out; have := HJ10.out; have := HJ15.out; omega⟩, ⟨by (with_reducible repeat (first | apply Kd.R_alloc | apply Kd.R_drewN | apply Kd.R_drew)); exact HO114.out⟩, ⟨z4_4⟩, ⟨z4_0⟩⟩
             ·rw [if_neg c21] at H
              exact absurd H (by simp)
            ·rw [if_neg c20] at H
             have c20b0 := decide_eq_false c20; clear c20; have H' := Aside0.mk H
             clear H; go_wp2_with (first | ((with_reducible refine gate_builtin (b := .append) (xs := #[.tmp 33, .tmp 38]) rfl ?_); at_builtin; refine Kd.R_append k65 (w0 := w) w.heap.size rfl (.tmp 33) (.tmp 38) 44 65 (.agg #[(.int .i64 0), (.bool false), (.int .i64 0), (.int .i64 0)]) 32 rfl Try.underlying44 info65 rfl (by decide) (by omega) u3 x3_1 (⟨x4_15, false, x14_1, t107⟩ : S65) [.int .i64 x4_15, .bool false, .int .i64 x14_1, .int .i64 t107] (fun _ => True) (fun _ => False) rfl rfl ?aP (fun _ hk => hk.elim) ?aF ?aO ?aB ?aS ?aL ?_; (case aP => exact k65_mkM _ _ _ (⟨x4_15, false, x14_1, t107⟩ : S65)); (case aB => exact z4_0); (case aF => exact (fun _ _ => trivial)); (case aO => exact (kd_g8 HO_3.out)); (case aS => exact (below_size z4_0)); (case aL => have := LMc19.out; omega); intro v110 w24 ho hb hg hat; rw [← Ny109.out] at ho; have n0_ := Aside0.mk (blk_grown (g := gb105) (o := .cells #[.int .i64 a0_0, .int .i64 a0_1, .string a0_2] 28 (0, 0)) (bd_g7 BK105.out) hg (Kd.R_ne HO_3.out BK105.out (by decide))); have n1_ := Aside0.mk (hb); have n2_ := Aside0.mk (ho); clear BK105; clear HB; clear HO_3; have BK105 := n0_; have HB := n1_; have HO111 := n2_; clear n0_ n1_ n2_; clear ho hb hg hat))
             go_roundg kj15
             case measure => have := HK1.out; have := HJ10.out; have := HJ15.out; omega
             case rel => exact ⟨(y109), (x4_15), (wrap64 (x14_1 + 1)), z_g2, z_g2, H', ⟨by have := HK1.out; have := HJ10.out; have := HJ15.out; omega⟩, ⟨by (with_reducible repeat (first | apply Kd.R_alloc | apply Kd.R_drewN | apply Kd.R_drew)); exact HO111.out⟩, ⟨z4_4⟩, ⟨z4_0⟩⟩
           ·rw [if_neg c19] at H
            exact absurd H (by simp)
          ·rw [if_neg c18] at H
           have c18b0 := decide_eq_false c18; clear c18; by_cases c25 : t108 ≥ 2
           ·rw [if_pos c25] at H
            have c25b0 := decide_eq_true c25; clear c25; by_cases c26 : x3_1.length < 4398046511104
            ·rw [if_pos c26] at H
             have LMc26 := Aside0.mk c26; clear c26; obtain ⟨y115, hy115⟩ : ∃ y_ : List (S65), y_ = (x3_1 ++ [(⟨x4_15, true, x14_1, t108⟩ : S65)]) := ⟨_, rfl⟩; replace H : (impl_SlotsOf.l0 kj15 y115 x4_15 (a0_2.size : Int) (wrap64 (x14_1 + 1)) a0_0 a0_1 a0_2) = some r := by first | (rw [hy115]; with_reducible exact H) | (have H2_ := (Option.bind_some _ _).symm.trans H; rw [hy115]; with_reducible exact H2_) | (have H2_ := (Option.bind_some _ _).symm.trans H; with_reducible exact H2_) | with_reducible exact H | (rw [hy115]; exact H) | exact H
             have Ny115 := Aside0.mk hy115; clear hy115; have H' := Aside0.mk H
             clear H; go_wp2_with (first | ((with_reducible refine gate_builtin (b := .append) (xs := #[.tmp 42, .tmp 47]) rfl ?_); at_builtin; refine Kd.R_append k65 (w0 := w) w.heap.size rfl (.tmp 42) (.tmp 47) 44 65 (.agg #[(.int .i64 0), (.bool false), (.int .i64 0), (.int .i64 0)]) 32 rfl Try.underlying44 info65 rfl (by decide) (by omega) u3 x3_1 (⟨x4_15, true, x14_1, t108⟩ : S65) [.int .i64 x4_15, .bool true, .int .i64 x14_1, .int .i64 t108] (fun _ => True) (fun _ => False) rfl rfl ?aP (fun _ hk => hk.elim) ?aF ?aO ?aB ?aS ?aL ?_; (case aP => exact k65_mkM _ _ _ (⟨x4_15, true, x14_1, t108⟩ : S65)); (case aB => exact z4_0); (case aF => exact (fun _ _ => trivial)); (case aO => exact (kd_g8 HO_3.out)); (case aS => exact (below_size z4_0)); (case aL => have := LMc26.out; omega); intro v116 w27 ho hb hg hat; rw [← Ny115.out] at ho; have n0_ := Aside0.mk (blk_grown (g := gb105) (o := .cells #[.int .i64 a0_0, .int .i64 a0_1, .string a0_2] 28 (0, 0)) (bd_g7 BK105.out) hg (Kd.R_ne HO_3.out BK105.out (by decide))); have n1_ := Aside0.mk (hb); have n2_ := Aside0.mk (ho); clear BK105; clear HB; clear HO_3; have BK105 := n0_; have HB := n1_; have HO117 := n2_; clear n0_ n1_ n2_; clear ho hb hg hat))
             go_roundg kj15
             case measure => have := HK1.out; have := HJ10.out; have := HJ15.out; omega
             case rel => exact ⟨(y115), (x4_15), (wrap64 (x14_1 + 1)), z_g2, z_g2, H', ⟨by have := HK1.out; have := HJ10.out; have := HJ15.out; omega⟩, ⟨by (with_reducible repeat (first | apply Kd.R_alloc | apply Kd.R_drewN | apply Kd.R_drew)); exact HO117.out⟩, ⟨z4_4⟩, ⟨z4_0⟩⟩
            ·rw [if_neg c26] at H
             exact absurd H (by simp)
           ·rw [if_neg c25] at H
            have c25b0 := decide_eq_false c25; clear c25; have H' := Aside0.mk H
            clear H; go_wp2
            go_roundg kj15
            case measure => have := HK1.out; have := HJ10.out; have := HJ15.out; omega
            case rel => exact ⟨(x3_1), (x4_15), (wrap64 (x14_1 + 1)), z_g2, z_g2, H', ⟨by have := HK1.out; have := HJ10.out; have := HJ15.out; omega⟩, ⟨z_g10⟩, ⟨z4_4⟩, ⟨z4_0⟩⟩
     ·rw [if_neg c8] at H
      have c8b0 := decide_eq_false c8; clear c8; obtain rfl := Option.some.inj H; go_wp2
      go_ret
      exact ⟨_, by first | rfl | (simp [errW_none, errW_some] <;> rfl) | (simp [*, errW_none, errW_some] <;> rfl), z_g10, z4_0⟩
  ·replace c3 := Bool.eq_false_iff.mpr c3; subst c3; rw [if_neg (show ¬ (false = true) by decide)] at H
   obtain rfl := Option.some.inj H; go_enter Try.func26, Try.ntmps26
   go_wp2_with (first | ((with_reducible refine gate_dst (N := 1) rfl ?_); refine box_event ?hg (N := 1) ?hd (cs := #[.int .i64 a0_0, .int .i64 a0_1, .string a0_2]) (t := 28) ?hr ?_; (case hd => rfl); (case hg => rfl); (case hr => first | (go_simp; done) | (go_simp; rfl)); intro gb105 hg w28 hbox hb; have BK105 := Aside0.mk (hbox); have GW105 := Aside0.mk ((by rw [hg]; exact (below_size z_g4) : w.heap.size ≤ gb105)); have GE105 := Aside0.mk ((by rw [hg]; exact (below_size z_g4) : w.heap.size ≤ gb105)); replace HB := Aside0.mk (below_step z_g4 hb); clear hb hbox hg; obtain ⟨hcz29_0, hcz29_1, hcz29_2, hfz29_0, hfz29_1, hfz29_2⟩ := bc3_g0 BK105.out) | ((with_reducible refine gate_callee (f := 61) rfl ?_); refine goesL_ (some 9) rfl rfl Try.func61 (by kernel_rfl) rfl #[.agg #[.int .i64 a0_0, .int .i64 a0_1, .string a0_2]] rfl z_g9 ?_; (with_reducible refine (impl_IsGrid.calls k a0_0 a0_1 a0_2 false _ A2.out).mono ?_); rintro e w30 ⟨rfl, hb⟩; refine ⟨_, rfl, ?_⟩; replace BK105 := Aside0.mk (blk_below (g := gb105) (o := .cells #[.int .i64 a0_0, .int .i64 a0_1, .string a0_2] 28 (0, 0)) (bd_g7 BK105.out) hb); replace HB := Aside0.mk (below_step z4_0 hb); (try clear hb)))
   go_ret
   exact ⟨_, by first | rfl | (simp [errW_none, errW_some] <;> rfl) | (simp [*, errW_none, errW_some] <;> rfl), by first | exact Kd.R_nil _ _ _ _ _ | exact Kd.N_nil _ _ _ _ _ | exact Kd.V_nil _ _ _ _ _ | exact Kd.Q_nil _ _ _ _ _ | exact Kd.S_nil _ _ _ _ _, z4_0⟩

/-! ### slices_Index_string_string: function 99 -/
def slices_Index_string_string.l0 : Nat → List ByteArray → ByteArray → Int → Int → Option (Int)
  | 0, _, _, _, _ => none
  | k + 1, x0, x1, x7, x8 => if x8 < x7 then (if 0 ≤ x8 then (if x8 < (x0.length : Int) then (if x1.toList = (rdOf ByteArray.empty x0 x8).toList then (some x8) else (slices_Index_string_string.l0 k x0 x1 x7 (wrap64 (x8 + 1)))) else (none)) else (none)) else (some (-1))
def slices_Index_string_string.f (k : Nat) (l0 : List ByteArray) (a1 : ByteArray) : Option (Int) := slices_Index_string_string.l0 k l0 a1 (l0.length : Int) 0
theorem slices_Index_string_string.calls (k : Nat) (A0 : Option Addr) (c0 : Nat) (l0 : List ByteArray) (a1 : ByteArray) (r : Int) (w : World) (hr0 : Kd.C Kd.string w A0 l0.length l0) (hc0 : l0.length ≤ c0) (h : slices_Index_string_string.f k l0 a1 = some r) :
   Calls Try.prog 99 #[.slice A0 l0.length c0, .string a1] w fun e w' => e = .returned (.int .i64 r) ∧ Drawn0 w w' := by
  have HR0 := Aside0.mk hr0; have HC0 := Aside0.mk hc0; clear hr0 hc0; have H : (slices_Index_string_string.l0 k l0 a1 (l0.length : Int) 0) = some r := h; clear h; have H' := Aside0.mk H
  clear H; go_enter Try.func99, Try.ntmps99
  go_wp2
  go_loopg [8] k (fun kq v8 w' => ∃ (x8_1 : Int), v8 = .int .i64 x8_1 ∧ Aside0 (slices_Index_string_string.l0 kq l0 a1 (l0.length : Int) x8_1 = some r) ∧ Aside0 (kq ≤ k) ∧ Drawn0 w w')
  case atStart => exact ⟨(0), z_g2, H', ⟨Nat.le_refl _⟩, z_g3⟩
  case round =>
   clear H'; try clear p2
   obtain ⟨x8_1, rfl, HA, HK1, ⟨m1, rfl⟩⟩ := hrel
   cases gk with
   | zero => exact absurd HA.out (by simp [slices_Index_string_string.l0])
   | succ k1 =>
    have H := HA.out; clear HA; simp only [slices_Index_string_string.l0] at H; by_cases c3 : x8_1 < (l0.length : Int)
    ·rw [if_pos c3] at H
     have c3b0 := decide_eq_true c3; clear c3; by_cases c4 : 0 ≤ x8_1
     ·rw [if_pos c4] at H
      have c4b0 := decide_eq_true c4; clear c4; by_cases c5 : x8_1 < (l0.length : Int)
      ·rw [if_pos c5] at H
       have c5b0 := decide_eq_true c5; clear c5; by_cases c6 : a1.toList = (rdOf ByteArray.empty l0 x8_1).toList
       ·rw [if_pos c6] at H
        have c6b0 : (a1.toList == (rdOf ByteArray.empty l0 x8_1).toList) = true := beq_iff_eq.mpr c6; have c6b1 : (a1.toList != (rdOf ByteArray.empty l0 x8_1).toList) = false := bne_eq_false_iff_eq.mpr c6; clear c6; obtain rfl := Option.some.inj H; have p118 : 0 ≤ (x8_1 : Int) := of_decide_eq_true (by first | (with_reducible assumption) | assumption)
        have q118 : x8_1 < (l0.length : Int) := of_decide_eq_true (by first | (with_reducible assumption) | assumption)
        obtain ⟨ad118, e118, hx118_0⟩ := Kd.at_string HR0.out x8_1 p118 q118
        cases e118; replace p118 := eq_true p118; replace q118 := eq_true q118; go_wp2
        go_ret
        exact ⟨z_g2, z_g3⟩
       ·rw [if_neg c6] at H
        have c6b0 : (a1.toList == (rdOf ByteArray.empty l0 x8_1).toList) = false := beq_eq_false_iff_ne.mpr c6; have c6b1 : (a1.toList != (rdOf ByteArray.empty l0 x8_1).toList) = true := bne_iff_ne.mpr c6; have H' := Aside0.mk H
        clear H; have p118 : 0 ≤ (x8_1 : Int) := of_decide_eq_true (by first | (with_reducible assumption) | assumption)
        have q118 : x8_1 < (l0.length : Int) := of_decide_eq_true (by first | (with_reducible assumption) | assumption)
        obtain ⟨ad118, e118, hx118_0⟩ := Kd.at_string HR0.out x8_1 p118 q118
        cases e118; replace p118 := eq_true p118; replace q118 := eq_true q118; go_wp2
        go_roundg k1
        case measure => have := HK1.out; omega
        case rel => exact ⟨(wrap64 (x8_1 + 1)), z_g2, H', ⟨by have := HK1.out; omega⟩, z_g3⟩
      ·rw [if_neg c5] at H
       exact absurd H (by simp)
     ·rw [if_neg c4] at H
      exact absurd H (by simp)
    ·rw [if_neg c3] at H
     have c3b0 := decide_eq_false c3; clear c3; obtain rfl := Option.some.inj H; go_wp2
     go_ret
     exact ⟨z_g2, z_g3⟩

/-! ### slices_Contains_string_string: function 63 -/
def slices_Contains_string_string.f (k : Nat) (l0 : List ByteArray) (a1 : ByteArray) : Option (Bool) := (slices_Index_string_string.f k l0 a1).bind fun t119 => (some (decide (t119 ≥ 0)))
theorem slices_Contains_string_string.calls (k : Nat) (A0 : Option Addr) (c0 : Nat) (l0 : List ByteArray) (a1 : ByteArray) (r : Bool) (w : World) (hr0 : Kd.C Kd.string w A0 l0.length l0) (hc0 : l0.length ≤ c0) (h : slices_Contains_string_string.f k l0 a1 = some r) :
   Calls Try.prog 63 #[.slice A0 l0.length c0, .string a1] w fun e w' => e = .returned (.bool r) ∧ Drawn0 w w' := by
  have HR0 := Aside0.mk hr0; have HC0 := Aside0.mk hc0; clear hr0 hc0; have H : ((slices_Index_string_string.f k l0 a1).bind fun t119 => (some (decide (t119 ≥ 0)))) = some r := h; clear h; replace H := Option.bind_eq_some_iff.mp H; obtain ⟨t119, A30, H⟩ := H; try dsimp only at H
  have A3 := Aside0.mk A30; clear A30; obtain rfl := Option.some.inj H; go_enter Try.func63, Try.ntmps63
  go_wp2_with (first | ((with_reducible refine gate_callee (f := 99) rfl ?_); refine goesL_ (some 7) rfl rfl Try.func99 (by kernel_rfl) rfl #[.slice A0 l0.length c0, .string a1] rfl z_g9 ?_; (with_reducible refine (slices_Index_string_string.calls k _ _ l0 a1 t119 _ ?side1 ?side2 A3.out).mono ?_); (case side1 => repeat (first | exact HR0.out | (with_reducible refine Kd.C_alloc ?_ _) | (with_reducible refine Kd.C_drewN ?_ _) | (with_reducible refine Kd.C_drew ?_))); (case side2 => exact HC0.out); rintro e w' ⟨rfl, ⟨nd, rfl⟩⟩; refine ⟨_, rfl, ?_⟩))
  go_ret
  exact ⟨z_g2, z_g3⟩

/-! ### impl_HasWord: function 29 -/
def impl_HasWord.f (k : Nat) (l0 : List ByteArray) (a1 : ByteArray) : Option (Bool) := (slices_Contains_string_string.f k l0 a1).bind fun t120 => (some t120)
theorem impl_HasWord.calls (k : Nat) (A0 : Option Addr) (c0 : Nat) (l0 : List ByteArray) (a1 : ByteArray) (r : Bool) (w : World) (hr0 : Kd.C Kd.string w A0 l0.length l0) (hc0 : l0.length ≤ c0) (h : impl_HasWord.f k l0 a1 = some r) :
   Calls Try.prog 29 #[.slice A0 l0.length c0, .string a1] w fun e w' => e = .returned (.bool r) ∧ Drawn0 w w' := by
  have HR0 := Aside0.mk hr0; have HC0 := Aside0.mk hc0; clear hr0 hc0; have H : ((slices_Contains_string_string.f k l0 a1).bind fun t120 => (some t120)) = some r := h; clear h; replace H := Option.bind_eq_some_iff.mp H; obtain ⟨t120, A30, H⟩ := H; replace H : (some t120) = some r := H; have A3 := Aside0.mk A30; clear A30; obtain rfl := Option.some.inj H; go_enter Try.func29, Try.ntmps29
  go_wp2_with (first | ((with_reducible refine gate_callee (f := 63) rfl ?_); refine goesL_ (some 7) rfl rfl Try.func63 (by kernel_rfl) rfl #[.slice A0 l0.length c0, .string a1] rfl z_g9 ?_; (with_reducible refine (slices_Contains_string_string.calls k _ _ l0 a1 t120 _ ?side1 ?side2 A3.out).mono ?_); (case side1 => repeat (first | exact HR0.out | (with_reducible refine Kd.C_alloc ?_ _) | (with_reducible refine Kd.C_drewN ?_ _) | (with_reducible refine Kd.C_drew ?_))); (case side2 => exact HC0.out); rintro e w' ⟨rfl, ⟨nd, rfl⟩⟩; refine ⟨_, rfl, ?_⟩))
  go_ret
  exact ⟨z_g2, z_g3⟩

/-! ### laws_within: function 28 -/
def laws_within.l0 : Nat → List ByteArray → List ByteArray → Int → Option (Bool)
  | 0, _, _, _ => none
  | k + 1, x0, x1, x5 => if x5 < (x0.length : Int) then (if 0 ≤ x5 then ((impl_HasWord.f k x1 (rdOf ByteArray.empty x0 x5)).bind fun t122 => (if t122 = true then (laws_within.l0 k x0 x1 (wrap64 (x5 + 1))) else (some false))) else (none)) else (some true)
def laws_within.f (k : Nat) (l0 : List ByteArray) (l1 : List ByteArray) : Option (Bool) := laws_within.l0 k l0 l1 0
theorem laws_within.calls (k : Nat) (A0 : Option Addr) (c0 : Nat) (l0 : List ByteArray) (A1 : Option Addr) (c1 : Nat) (l1 : List ByteArray) (r : Bool) (w : World) (hr0 : Kd.C Kd.string w A0 l0.length l0) (hc0 : l0.length ≤ c0) (hr1 : Kd.C Kd.string w A1 l1.length l1) (hc1 : l1.length ≤ c1) (h : laws_within.f k l0 l1 = some r) :
   Calls Try.prog 28 #[.slice A0 l0.length c0, .slice A1 l1.length c1] w fun e w' => e = .returned (.bool r) ∧ Drawn0 w w' := by
  have HR0 := Aside0.mk hr0; have HC0 := Aside0.mk hc0; clear hr0 hc0; have HR1 := Aside0.mk hr1; have HC1 := Aside0.mk hc1; clear hr1 hc1; have H : (laws_within.l0 k l0 l1 0) = some r := h; clear h; have H' := Aside0.mk H
  clear H; go_enter Try.func28, Try.ntmps28
  go_wp2
  go_loopg [5] k (fun kq v5 w' => ∃ (x5_1 : Int), v5 = .int .i64 x5_1 ∧ Aside0 (laws_within.l0 kq l0 l1 x5_1 = some r) ∧ Aside0 (kq ≤ k) ∧ Drawn0 w w')
  case atStart => exact ⟨(0), z_g2, H', ⟨Nat.le_refl _⟩, z_g3⟩
  case round =>
   clear H'; try clear c1
   try clear c2
   try clear p2
   obtain ⟨x5_1, rfl, HA, HK1, ⟨m1, rfl⟩⟩ := hrel
   cases gk with
   | zero => exact absurd HA.out (by simp [laws_within.l0])
   | succ k1 =>
    have H := HA.out; clear HA; simp only [laws_within.l0] at H; by_cases c3 : x5_1 < (l0.length : Int)
    ·rw [if_pos c3] at H
     have c3b0 := decide_eq_true c3; clear c3; by_cases c4 : 0 ≤ x5_1
     ·rw [if_pos c4] at H
      have c4b0 := decide_eq_true c4; clear c4; replace H := Option.bind_eq_some_iff.mp H; obtain ⟨t122, A50, H⟩ := H; try dsimp only at H
      have A5 := Aside0.mk A50; clear A50; by_cases c6 : t122 = true
      ·subst c6; rw [if_pos rfl] at H
       have H' := Aside0.mk H
       clear H; have p121 : 0 ≤ (x5_1 : Int) := of_decide_eq_true (by first | (with_reducible assumption) | assumption)
       have q121 : x5_1 < (l0.length : Int) := of_decide_eq_true (by first | (with_reducible assumption) | assumption)
       obtain ⟨ad121, e121, hx121_0⟩ := Kd.at_string HR0.out x5_1 p121 q121
       cases e121; replace p121 := eq_true p121; replace q121 := eq_true q121; go_wp2_with (first | ((with_reducible refine gate_callee (f := 29) rfl ?_); refine goesL_ (some 17) rfl rfl Try.func29 (by kernel_rfl) rfl #[.slice A1 l1.length c1, .string (rdOf ByteArray.empty l0 x5_1)] rfl z_g9 ?_; (with_reducible refine (impl_HasWord.calls k1 _ _ l1 (rdOf ByteArray.empty l0 x5_1) true _ ?side1 ?side2 A5.out).mono ?_); (case side1 => repeat (first | exact HR1.out | (with_reducible refine Kd.C_alloc ?_ _) | (with_reducible refine Kd.C_drewN ?_ _) | (with_reducible refine Kd.C_drew ?_))); (case side2 => exact HC1.out); rintro e w' ⟨rfl, ⟨nd, rfl⟩⟩; refine ⟨_, rfl, ?_⟩))
       go_roundg k1
       case measure => have := HK1.out; omega
       case rel => exact ⟨(wrap64 (x5_1 + 1)), z_g2, H', ⟨by have := HK1.out; omega⟩, z_g3⟩
      ·replace c6 := Bool.eq_false_iff.mpr c6; subst c6; rw [if_neg (show ¬ (false = true) by decide)] at H
       obtain rfl := Option.some.inj H; have p121 : 0 ≤ (x5_1 : Int) := of_decide_eq_true (by first | (with_reducible assumption) | assumption)
       have q121 : x5_1 < (l0.length : Int) := of_decide_eq_true (by first | (with_reducible assumption) | assumption)
       obtain ⟨ad121, e121, hx121_0⟩ := Kd.at_string HR0.out x5_1 p121 q121
       cases e121; replace p121 := eq_true p121; replace q121 := eq_true q121; go_wp2_with (first | ((with_reducible refine gate_callee (f := 29) rfl ?_); refine goesL_ (some 17) rfl rfl Try.func29 (by kernel_rfl) rfl #[.slice A1 l1.length c1, .string (rdOf ByteArray.empty l0 x5_1)] rfl z_g9 ?_; (with_reducible refine (impl_HasWord.calls k1 _ _ l1 (rdOf ByteArray.empty l0 x5_1) false _ ?side1 ?side2 A5.out).mono ?_); (case side1 => repeat (first | exact HR1.out | (with_reducible refine Kd.C_alloc ?_ _) | (with_reducible refine Kd.C_drewN ?_ _) | (with_reducible refine Kd.C_drew ?_))); (case side2 => exact HC1.out); rintro e w' ⟨rfl, ⟨nd, rfl⟩⟩; refine ⟨_, rfl, ?_⟩))
       go_ret
       exact ⟨z_g2, z_g3⟩
     ·rw [if_neg c4] at H
      exact absurd H (by simp)
    ·rw [if_neg c3] at H
     have c3b0 := decide_eq_false c3; clear c3; obtain rfl := Option.some.inj H; go_wp2
     go_ret
     exact ⟨z_g2, z_g3⟩

-- NOT PRINTED: function 57 (impl_those)

/-! ### slices_Clone_string_string: function 91 (given) -/
theorem clone_equalIn {P : Program} (w : World) (d : Nat) (t e : TypeId) (a : Option Addr) (n c n' c' : Nat) (h : P.underlying t = some (.slice e)) : (Op.equalIn (d + 1) t (.slice a n c) (.slice none n' c')).run P w = .ok a.isNone w := by
  cases a <;> simp [Op.equalIn, run_underlying h]
theorem clone_eql {P : Program} (w : World) (t e : TypeId) (a : Option Addr) (n c n' c' : Nat) (h : P.underlying t = some (.slice e)) : (binOp .eql t (.slice a n c) (.slice none n' c')).run P w = .ok (.bool a.isNone) w := by
  simp only [binOp]; simp [Op.equal, Op.maxDepth, clone_equalIn w 9999 t e a n c n' c' h]
def slices_Clone_string_string.f (l0 : List ByteArray) : Option (List ByteArray) := if l0.length < 8796093022208 then some l0 else none
set_option maxHeartbeats 1600000 in
set_option maxRecDepth 100000 in
theorem slices_Clone_string_string.calls (A0 : Option Addr) (c0 : Nat) (l0 : List ByteArray) (r : List ByteArray) (w : World) (hr0 : Kd.C Kd.string w A0 l0.length l0) (hc0 : l0.length ≤ c0) (h : slices_Clone_string_string.f l0 = some r) :
    Calls Try.prog 91 #[.slice A0 l0.length c0] w fun e w' => ∃ v0_ : Value, e = .returned (v0_) ∧ Kd.R Kd.string 9 w' w.heap.size (fun _ => True) v0_ r ∧ Below w.heap.size w w' := by
  unfold slices_Clone_string_string.f at h
  by_cases hl : l0.length < 8796093022208
  · rw [if_pos hl] at h
    injection h with h
    subst h; have hnil := fun (W : World) => clone_eql W 24 9 A0 l0.length c0 0 0 Try.underlying24
    cases A0 with
    | none =>
      have h0 : l0 = [] := by
        cases l0 with
        | nil => rfl
        | cons x l =>
          obtain ⟨a, ha, _⟩ := hr0.2.2 (by simp)
          cases ha
      subst h0; clear hr0 hnil; have hnil := fun (W : World) => clone_eql W 24 9 none 0 c0 0 0 Try.underlying24
      go_enter Try.func91, Try.ntmps91
      go_wp2
      go_ret
      exact ⟨_, rfl, Kd.R_nil _ _ _ _ _, Below.refl _ _⟩
    | some ad =>
      have HR0 := Aside0.mk hr0; have LM := Aside0.mk hl; clear hr0 hl; have HB := Aside0.mk (Below.refl w.heap.size w); go_enter Try.func91, Try.ntmps91
      go_wp2_with (first | ((with_reducible refine gate_dst (N := 5) rfl ?_); refine Kd.R_lit Kd.string _ 9 ?hg (N := 5) ?hd (xs := ([] : List ByteArray)) (inner := []) (ok := fun _ => True) (okp := fun _ => True) ?hr ?hp (fun _ hk => hk) trivial (Below.refl _ _) (Nat.le_refl _) (by simp) ?_; (case hd => rfl); (case hg => rfl); (case hr => first | (go_simp; done) | (go_simp; rfl)); (case hp => exact (Reps.none _ _)); intro v1 w1 ho1 hb hg_ hnew_; clear hg_ hnew_; have n1_ := Aside0.mk (Kd.R_lower ho1 (below_size z_g4)); have n2_ := Aside0.mk (below_step z_g4 hb); clear HB; have HO1 := n1_; have HB := n2_; clear n1_ n2_; clear hb ho1) | ((with_reducible refine gate_builtin (b := .append) (xs := #[.tmp 5, .tmp 6]) rfl ?_); at_builtin; refine Kd.R_append_rows Kd.string (w0 := w) w.heap.size rfl (.tmp 5) (.tmp 6) 24 9 (.string ⟨#[]⟩) 16 rfl Try.underlying24 info9 rfl (by decide) (by omega) v1 ([] : List ByteArray) l0 _ _ _ (fun _ => True) (fun _ => False) rfl rfl ?aO ?aR (fun _ _ h => h) (fun _ h => h.elim) ?aF ?aB ?aS ?aL ?_; (case aR => repeat (first | exact (Kd.C_below HR0.out HB.out) | (with_reducible refine Kd.C_alloc ?_ _) | (with_reducible refine Kd.C_drewN ?_ _) | (with_reducible refine Kd.C_drew ?_))); (case aB => exact z_g4); (case aF => exact (fun _ _ => trivial)); (case aO => exact (kd_g8 HO1.out)); (case aS => exact (below_size z_g4)); (case aL => have := LM.out; simp; omega); intro v2 w2 ho hb hg hat; have HO2 := Aside0.mk ho; have HB2 := Aside0.mk hb; clear ho hb hg hat HB HO1))
      go_ret
      exact ⟨_, rfl, by have := HO2.out; rw [List.nil_append] at this; exact this, HB2.out⟩
  · rw [if_neg hl] at h
    cases h


end Go.Proofs.Ytodcckiphdnjeaa.QFnPruned
