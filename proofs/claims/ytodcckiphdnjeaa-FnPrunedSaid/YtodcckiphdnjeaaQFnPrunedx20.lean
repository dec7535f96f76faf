-- Written by a changed copy of the kit's printer (wip/mp.py of this repo), for this claim; Lean checks it.
import Derived.Test.YtodcckiphdnjeaaQFnPrunedx0
import Derived.Test.YtodcckiphdnjeaaQFnPrunedx8
import Derived.Test.YtodcckiphdnjeaaQFnPrunedx10
import Derived.Test.YtodcckiphdnjeaaQFnPrunedx11
import Derived.Test.YtodcckiphdnjeaaQFnPrunedx19
namespace Go.Proofs.Ytodcckiphdnjeaa.QFnPruned
open Go.RowKit Go.Proofs.YtodcckiphdnjeaaW.PrintWords Go.Proofs.YtodcckiphdnjeaaW.PrintLast Go.Proofs.YtodcckiphdnjeaaW.PrintMore
attribute [local go_sem] max2_int min2_int max_two min_two max_three min_three max_four min_four   -- for this text's walks alone
set_option linter.unusedVariables false
set_option linter.unusedSimpArgs false

theorem pu20_ {P : Program} {md : Region.Mode} {ops : Array Oper} {Q : Exit → Act → World → Prop} {S : World → Prop} {ds : List Nat} {oi : Oper} {v : Value} {fuel : Nat} {l : Array Bool} {a a' : Act} {w : World} (i : Nat) (N : Option Tmp) (hc : anyB md ops l (l.setIfInBounds i true) i = true) (h : wpAnyLast P md ops Q S ds fuel (l.setIfInBounds i true) a' w) (hi : ops[i]? = some oi := by rfl) (hN : oi.dst = N := by rfl) (hQ : ∀ c a w, Q (.panic c) (a.put oi.dst v) w → Q (.panic c) a w := by exact fun _ _ _ h => h) (hy : Yields P ops oi v a := by exact Or.inl ⟨by rfl, fun w' => by go_simp; with_reducible rfl⟩) (ha : a.put N v = a' := by simp only [Act.put, pt_g16, i64_w, i32_w]; rfl) : wpAnyLast P md ops Q S ds (fuel + 1) l a w   := pure_ _ hi hN hc hQ hy ha h
theorem tk20_ {P : Program} {md : Region.Mode} {ops : Array Oper} {Q : Exit → Act → World → Prop} {S : World → Prop} {ds : List Nat} {oi : Oper} {v : Value} {fuel : Nat} {l : Array Bool} {a a' : Act} {w : World} (i : Nat) (N : Option Tmp) (hi : ops[i]? = some oi) (hc : takeB md ops ds l (l.setIfInBounds i true) i = true) (hy : YieldsIf P ops S oi v a) (hS : S w) (h : wpAnyLast P md ops Q S ds fuel (l.setIfInBounds i true) a' w) (hN : oi.dst = N := by rfl) (hQ : ∀ c a w, Q (.panic c) (a.put oi.dst v) w → Q (.panic c) a w := by exact fun _ _ _ h => h) (ha : a.put N v = a' := by simp only [Act.put, pt_g16, i64_w, i32_w]; rfl) : wpAnyLast P md ops Q S ds (fuel + 1) l a w   := take_ _ hi hN hc hQ hy hS ha h
theorem z20_0 {p : Prop} (h : p := by repeat (first | (with_reducible first | exact HB.out | apply below_alloc | apply pw_below_drewN | apply below_drew1 | refine below_set ?_ GE446.out) | exact HB.out)) : p := h
theorem z20_2 {p : Prop} (h : p := by (with_reducible repeat (first | refine blk_drewN ?_ _ | refine blk_drew ?_ | refine blk_alloc ?_ _)); exact BK446.out) : p := h
/-! ### spec_CrossingsOf: function 110 -/
mutual
def spec_CrossingsOf.l0 : Nat → List (S114) → List (S65) → Int → Int → Int → ByteArray → Option ((List (S114)))
  | 0, _, _, _, _, _, _ => none
  | k + 1, x3, x4, x5, x447000, x447001, x447002 => if x5 < (x447002.size : Int) then ((spec_IsGrid.f k x447000 x447001 x447002).bind fun t453 => (spec_CrossingsOf.j1 k x3 x4 x5 t453 x447000 x447001 x447002)) else (spec_CrossingsOf.j1 k x3 x4 x5 false x447000 x447001 x447002)
def spec_CrossingsOf.j1 : Nat → List (S114) → List (S65) → Int → Bool → Int → Int → ByteArray → Option ((List (S114)))
  | 0, _, _, _, _, _, _, _ => none
  | k + 1, x3, x4, x5, x18, x447000, x447001, x447002 => if x18 = true then ((spec_SlotsAt.f k x447000 x447001 x447002 x5).bind fun t454 => (if (t454.length : Int) = 2 then (if 0 < (t454.length : Int) then (if 1 < (t454.length : Int) then (if 0 ≤ (rd t454 0) then (if (rd t454 0) < (x4.length : Int) then ((spec_CellsOf.f k x447000 x447001 x447002 ((rd_T65 x4 (rd t454 0)).f0) ((rd_T65 x4 (rd t454 0)).f1) ((rd_T65 x4 (rd t454 0)).f2) ((rd_T65 x4 (rd t454 0)).f3)).bind fun t461 => ((spec_l9Place.f k t461 x5).bind fun t464 => (if 0 ≤ (rd t454 1) then (if (rd t454 1) < (x4.length : Int) then ((spec_CellsOf.f k x447000 x447001 x447002 ((rd_T65 x4 (rd t454 1)).f0) ((rd_T65 x4 (rd t454 1)).f1) ((rd_T65 x4 (rd t454 1)).f2) ((rd_T65 x4 (rd t454 1)).f3)).bind fun t467 => ((spec_l9Place.f k t467 x5).bind fun t470 => (if x3.length < 3518437208883 then (spec_CrossingsOf.l0 k (x3 ++ [(⟨rd t454 0, rd t454 1, t464, t470, x5⟩ : S114)]) x4 (wrap64 (x5 + 1)) x447000 x447001 x447002) else (none)))) else (none)) else (none)))) else (none)) else (none)) else (none)) else (none)) else (spec_CrossingsOf.l0 k x3 x4 (wrap64 (x5 + 1)) x447000 x447001 x447002))) else (some x3)
end
def spec_CrossingsOf.f (k : Nat) (a0_0 : Int) (a0_1 : Int) (a0_2 : ByteArray) : Option ((List (S114))) := (spec_SlotsOf.f k a0_0 a0_1 a0_2).bind fun t450 => (spec_CrossingsOf.l0 k (([] : List (S114))) t450 0 a0_0 a0_1 a0_2)
def spec_CrossingsOf.T8 : Bool × List (List Nat × List Nat) := (true, [([], []), ([], []), ([1], [1]), ([2], [2]), ([], []), ([4], [4]), ([5], [5]), ([], []), ([], []), ([], []), ([9], [9]), ([10], [10]), ([8, 11], [8, 11]), ([12], [12]), ([7, 13], [7, 13]), ([], []), ([14, 15, 14], [14, 15]), ([], []), ([], []), ([], []), ([19], [19]), ([20], [20]), ([18, 21], [18, 21]), ([22], [22]), ([17, 23, 16], [17, 23]), ([], []), ([24, 25, 24], [24, 25]), ([], []), ([3, 6, 16, 26, 27], [3, 6, 16, 26, 27]), ([28], [28]), ([0, 29, 26], [0, 29]), ([30, 30, 0, 1, 2, 3, 4, 5, 6, 7, 8, 9, 10, 11, 12, 13, 14, 15, 16, 17, 18, 19, 20, 21, 22, 23, 24, 25, 26, 27, 28, 29, 30], [0, 30])])
def spec_CrossingsOf.B8 : List Nat := [0, 0, 2, 6, 0, 16, 48, 0, 0, 0, 512, 1536, 3840, 7936, 16256, 0, 65408, 0, 0, 0, 524288, 1572864, 3932160, 8126464, 16777088, 0, 67108736, 0, 268435454, 536870910, 1073741823, 2147483647]
theorem spec_CrossingsOf.tab8 : rtab .any (opsOf Try.f110 8) = spec_CrossingsOf.T8 := by kernel_rfl
theorem spec_CrossingsOf.bits8 : waitsOk spec_CrossingsOf.T8.2 spec_CrossingsOf.B8 = true := by kernel_rfl
set_option maxHeartbeats 8000000 in
set_option maxRecDepth 100000 in
theorem spec_CrossingsOf.calls (k : Nat) (a0_0 : Int) (a0_1 : Int) (a0_2 : ByteArray) (r : List (S114)) (w : World) (h : spec_CrossingsOf.f k a0_0 a0_1 a0_2 = some r) :
   Calls Try.prog 110 #[.agg #[.int .i64 a0_0, .int .i64 a0_1, .string a0_2]] w fun e w' => ∃ v0_ : Value, e = .returned (v0_) ∧ Kd.R k114 114 w' w.heap.size (fun _ => True) v0_ r ∧ Below w.heap.size w w' := by
  have hu28 := Try.underlying28; have hu65 := Try.underlying65; have hu114 := Try.underlying114; have HB := Aside0.mk (Below.refl w.heap.size w); have H : ((spec_SlotsOf.f k a0_0 a0_1 a0_2).bind fun t450 => (spec_CrossingsOf.l0 k (([] : List (S114))) t450 0 a0_0 a0_1 a0_2)) = some r := h; clear h; obtain ⟨y447, hy447⟩ : ∃ y_ : List (S114), y_ = (([] : List (S114))) := ⟨_, rfl⟩; replace H : ((spec_SlotsOf.f k a0_0 a0_1 a0_2).bind fun t450 => (spec_CrossingsOf.l0 k y447 t450 0 a0_0 a0_1 a0_2)) = some r := by first | (rw [hy447]; with_reducible exact H) | (have H2_ := (Option.bind_some _ _).symm.trans H; rw [hy447]; with_reducible exact H2_) | (have H2_ := (Option.bind_some _ _).symm.trans H; with_reducible exact H2_) | with_reducible exact H | (rw [hy447]; exact H) | exact H
  have Ny447 := Aside0.mk hy447; clear hy447; replace H := Option.bind_eq_some_iff.mp H; obtain ⟨t450, A20, H⟩ := H; try dsimp only at H
  have A2 := Aside0.mk A20; clear A20; have H' := Aside0.mk H
  clear H; go_enter Try.func110, Try.ntmps110
  go_wp2_with (first | ((with_reducible refine gate_dst (N := 1) rfl ?_); refine box_event ?hg (N := 1) ?hd (cs := #[.int .i64 a0_0, .int .i64 a0_1, .string a0_2]) (t := 28) ?hr ?_; (case hd => rfl); (case hg => rfl); (case hr => first | (go_simp; done) | (go_simp; rfl)); intro gb446 hg w3 hbox hb; have BK446 := Aside0.mk (hbox); have GW446 := Aside0.mk ((by rw [hg]; exact (below_size (by repeat (first | (with_reducible first | exact HB.out | apply below_alloc | apply pw_below_drewN | apply below_drew1) | exact HB.out))) : w.heap.size ≤ gb446)); have GE446 := Aside0.mk ((by rw [hg]; exact (below_size (by repeat (first | (with_reducible first | exact HB.out | apply below_alloc | apply pw_below_drewN | apply below_drew1) | exact HB.out))) : w.heap.size ≤ gb446)); replace HB := Aside0.mk (below_step (by repeat (first | (with_reducible first | exact HB.out | apply below_alloc | apply pw_below_drewN | apply below_drew1) | exact HB.out)) hb); clear hb hbox hg) | ((with_reducible refine gate_dst (N := 7) rfl ?_); refine Kd.R_lit k114 _ 114 ?hg (N := 7) ?hd (xs := ([] : List (S114))) (inner := []) (ok := fun _ => True) (okp := fun _ => True) ?hr ?hp (fun _ hk => hk) trivial (Below.refl _ _) (Nat.le_refl _) (by simp) ?_; (case hd => rfl); (case hg => rfl); (case hr => first | (go_simp; done) | (go_simp; rfl)); (case hp => exact (Reps.none _ _)); intro v448 w4 ho5 hb hg_ hnew_; clear hg_ hnew_; (first | rw [← Ny447.out] at ho5 | (simp only [Int.reduceToNat] at ho5; rw [← Ny447.out] at ho5)); have HO449 := Aside0.mk (Kd.R_lower ho5 (below_size z20_0)); replace BK446 := Aside0.mk (blk_below (g := gb446) (o := .cells #[.int .i64 a0_0, .int .i64 a0_1, .string a0_2] 28 (0, 0)) (bd_g7 BK446.out) hb); replace HB := Aside0.mk (below_step z20_0 hb); clear hb ho5; obtain ⟨hcz6_0, hcz6_1, hcz6_2, hfz6_0, hfz6_1, hfz6_2⟩ := bc3_g0 BK446.out) | ((with_reducible refine gate_callee (f := 45) rfl ?_); refine goesL_ (some 9) rfl rfl Try.func45 (by kernel_rfl) rfl #[.agg #[.int .i64 a0_0, .int .i64 a0_1, .string a0_2]] rfl z_g9 ?_; (with_reducible refine (spec_SlotsOf.calls k a0_0 a0_1 a0_2 t450 _ A2.out).mono ?_); rintro e w7 ⟨v451, rfl, ho0, hb⟩; refine ⟨_, rfl, ?_⟩; replace HO449 := Aside0.mk (Kd.R_below (kd_g8 HO449.out) hb); have HO452 := Aside0.mk (Kd.R_lower ho0 (below_size z20_0)); replace BK446 := Aside0.mk (blk_below (g := gb446) (o := .cells #[.int .i64 a0_0, .int .i64 a0_1, .string a0_2] 28 (0, 0)) (bd_g7 BK446.out) hb); replace HB := Aside0.mk (below_step z20_0 hb); (try clear hb); (try clear ho0)))
  go_loopg [3, 5] k (fun kq v3 v5 w' => ∃ (x3_1 : List (S114)) (x5_1 : Int), v5 = .int .i64 x5_1 ∧ Aside0 (spec_CrossingsOf.l0 kq x3_1 t450 x5_1 a0_0 a0_1 a0_2 = some r) ∧ Aside0 (kq ≤ k) ∧ Aside0 (Kd.R k114 114 w' w.heap.size (fun _ => True) v3 x3_1) ∧ Aside0 (Kd.R k65 65 w' w.heap.size (fun _ => True) v451 t450) ∧ Aside0 (w'.heap[gb446]? = some (.cells #[.int .i64 a0_0, .int .i64 a0_1, .string a0_2] 28 (0, 0))) ∧ Aside0 (Below w.heap.size w w'))
  case atStart => exact ⟨(y447), (0), (by first | rfl | (simp; done) | (simp [*]; done)), H', ⟨Nat.le_refl _⟩, ⟨by (with_reducible repeat (first | apply Kd.R_alloc | apply Kd.R_drewN | apply Kd.R_drew)); exact HO449.out⟩, ⟨by (with_reducible repeat (first | apply Kd.R_alloc | apply Kd.R_drewN | apply Kd.R_drew)); exact HO452.out⟩, ⟨z20_2⟩, ⟨z20_0⟩⟩
  case round =>
   clear H'; try clear c1
   try clear p2
   try clear c4
   try clear hcz6_0 hcz6_1 hcz6_2 hfz6_0 hfz6_1 hfz6_2
   obtain ⟨x3_1, x5_1, rfl, HA, HK1, HO_3, HO_4, BK446, HB⟩ := hrel
   cases gk with
   | zero => exact absurd HA.out (by simp [spec_CrossingsOf.l0])
   | succ k1 =>
    have H := HA.out; clear HA; simp only [spec_CrossingsOf.l0] at H; have HC8 := Aside0.mk H; clear H; go_upto_region 4 with (fail)
    go_cut [18] (fun v18 wc => ∃ (kq : Nat) (x18_7 : Bool), v18 = .bool x18_7 ∧ Aside0 (spec_CrossingsOf.j1 kq x3_1 t450 x5_1 x18_7 a0_0 a0_1 a0_2 = some r) ∧ Aside0 (kq ≤ k1) ∧ Aside0 (Kd.R k114 114 wc w.heap.size (fun _ => True) u3 x3_1) ∧ Aside0 (Kd.R k65 65 wc w.heap.size (fun _ => True) v451 t450) ∧ Aside0 (wc.heap[gb446]? = some (.cells #[.int .i64 a0_0, .int .i64 a0_1, .string a0_2] 28 (0, 0))) ∧ Aside0 (Below w.heap.size w wc))
    case first =>
     have H := HC8.out; clear HC8; by_cases c9 : x5_1 < (a0_2.size : Int)
     ·rw [if_pos c9] at H
      have c9b0 := decide_eq_true c9; clear c9; (first | rw [c9b0] | (simp only [i64_w, i32_w]; rw [c9b0]) | skip)
      replace H := Option.bind_eq_some_iff.mp H; obtain ⟨t453, A100, H⟩ := H; try dsimp only at H
      have A10 := Aside0.mk A100; clear A100; have H' := Aside0.mk H
      clear H; obtain ⟨hcz11_0, hcz11_1, hcz11_2, hfz11_0, hfz11_1, hfz11_2⟩ := bc3_g0 BK446.out; go_wp2_with (first | (go_at_call 80; (with_reducible refine (spec_IsGrid.calls k1 a0_0 a0_1 a0_2 t453 _ A10.out).mono ?_); rintro e w12 ⟨rfl, hb⟩; replace HO_3 := Aside0.mk (Kd.R_below (kd_g8 HO_3.out) hb); replace HO_4 := Aside0.mk (Kd.R_below (kd_g8 HO_4.out) hb); replace BK446 := Aside0.mk (blk_below (g := gb446) (o := .cells #[.int .i64 a0_0, .int .i64 a0_1, .string a0_2] 28 (0, 0)) (bd_g7 BK446.out) hb); replace HB := Aside0.mk (below_step z20_0 hb); (try clear hb)))
      go_meet
      case rel => exact ⟨_, (t453), (by first | rfl | (simp; done) | (simp [*]; done)), H', ⟨by have := HK1.out; first | omega | exact Nat.le_refl _⟩, ⟨by (with_reducible repeat (first | apply Kd.R_alloc | apply Kd.R_drewN | apply Kd.R_drew)); exact HO_3.out⟩, ⟨by (with_reducible repeat (first | apply Kd.R_alloc | apply Kd.R_drewN | apply Kd.R_drew)); exact HO_4.out⟩, ⟨z20_2⟩, ⟨z20_0⟩⟩
     ·rw [if_neg c9] at H
      have c9b0 := decide_eq_false c9; clear c9; (first | rw [c9b0] | (simp only [i64_w, i32_w]; rw [c9b0]) | skip)
      have H' := Aside0.mk H
      clear H; obtain ⟨hcz13_0, hcz13_1, hcz13_2, hfz13_0, hfz13_1, hfz13_2⟩ := bc3_g0 BK446.out; go_wp2
      go_meet
      case rel => exact ⟨_, (false), (by first | rfl | (simp; done) | (simp [*]; done)), H', ⟨by have := HK1.out; first | omega | exact Nat.le_refl _⟩, ⟨by (with_reducible repeat (first | apply Kd.R_alloc | apply Kd.R_drewN | apply Kd.R_drew)); exact HO_3.out⟩, ⟨by (with_reducible repeat (first | apply Kd.R_alloc | apply Kd.R_drewN | apply Kd.R_drew)); exact HO_4.out⟩, ⟨z20_2⟩, ⟨z20_0⟩⟩
    case rest =>
     clear HC8; try clear c1
     try clear p2
     try clear c4
     try clear c9
     try clear c9b0
     try clear c11
     try clear hcz11_0 hcz11_1 hcz11_2
     try clear hcz13_0 hcz13_1 hcz13_2
     try clear hcz6_0 hcz6_1 hcz6_2
     try clear hfz11_0 hfz11_1 hfz11_2
     try clear hfz13_0 hfz13_1 hfz13_2
     try clear hfz6_0 hfz6_1 hfz6_2
     try clear p2
     obtain ⟨kq, x18_7, rfl, HA, HJ7, HO_3, HO_4, BK446, HB⟩ := hcut
     cases kq with
     | zero => exact absurd HA.out (by simp [spec_CrossingsOf.j1])
     | succ kj7 =>
      have H := HA.out; clear HA; simp only [spec_CrossingsOf.j1] at H; by_cases c14 : x18_7 = true
      ·subst c14; rw [if_pos rfl] at H
       replace H := Option.bind_eq_some_iff.mp H; obtain ⟨t454, A150, H⟩ := H; try dsimp only at H
       have A15 := Aside0.mk A150; clear A150; by_cases c16 : (t454.length : Int) = 2
       ·rw [if_pos c16] at H
        have c16b0 : ((t454.length : Int) == 2) = true := beq_iff_eq.mpr c16; have c16b1 : ((t454.length : Int) != 2) = false := bne_eq_false_iff_eq.mpr c16; clear c16; by_cases c17 : 0 < (t454.length : Int)
        ·rw [if_pos c17] at H
         have c17b0 := decide_eq_true c17; have c17b1 : decide (0 < t454.length) = true := decide_eq_true (by omega); clear c17; by_cases c18 : 1 < (t454.length : Int)
         ·rw [if_pos c18] at H
          have c18b0 := decide_eq_true c18; have c18b1 : decide (1 < t454.length) = true := decide_eq_true (by omega); clear c18; by_cases c19 : 0 ≤ (rd t454 0)
          ·rw [if_pos c19] at H
           have c19b0 := decide_eq_true c19; clear c19; by_cases c20 : (rd t454 0) < (t450.length : Int)
           ·rw [if_pos c20] at H
            have c20b0 := decide_eq_true c20; clear c20; replace H := Option.bind_eq_some_iff.mp H; obtain ⟨t461, A210, H⟩ := H; try dsimp only at H
            have A21 := Aside0.mk A210; clear A210; replace H := Option.bind_eq_some_iff.mp H; obtain ⟨t464, A220, H⟩ := H; try dsimp only at H
            have A22 := Aside0.mk A220; clear A220; by_cases c23 : 0 ≤ (rd t454 1)
            ·rw [if_pos c23] at H
             have c23b0 := decide_eq_true c23; clear c23; by_cases c24 : (rd t454 1) < (t450.length : Int)
             ·rw [if_pos c24] at H
              have c24b0 := decide_eq_true c24; clear c24; replace H := Option.bind_eq_some_iff.mp H; obtain ⟨t467, A250, H⟩ := H; try dsimp only at H
              have A25 := Aside0.mk A250; clear A250; replace H := Option.bind_eq_some_iff.mp H; obtain ⟨t470, A260, H⟩ := H; try dsimp only at H
              have A26 := Aside0.mk A260; clear A260; by_cases c27 : x3_1.length < 3518437208883
              ·rw [if_pos c27] at H
               have LMc27 := Aside0.mk c27; clear c27; obtain ⟨y471, hy471⟩ : ∃ y_ : List (S114), y_ = (x3_1 ++ [(⟨rd t454 0, rd t454 1, t464, t470, x5_1⟩ : S114)]) := ⟨_, rfl⟩; replace H : (spec_CrossingsOf.l0 kj7 y471 t450 (wrap64 (x5_1 + 1)) a0_0 a0_1 a0_2) = some r := by first | (rw [hy471]; with_reducible exact H) | (have H2_ := (Option.bind_some _ _).symm.trans H; rw [hy471]; with_reducible exact H2_) | (have H2_ := (Option.bind_some _ _).symm.trans H; with_reducible exact H2_) | with_reducible exact H | (rw [hy471]; exact H) | exact H
               have Ny471 := Aside0.mk hy471; clear hy471; have H' := Aside0.mk H
               clear H; obtain ⟨hcz28_0, hcz28_1, hcz28_2, hfz28_0, hfz28_1, hfz28_2⟩ := bc3_g0 BK446.out; try go_wp2_with (first | ((with_reducible refine gate_callee (f := 81) rfl ?_); refine goesL_ (some 23) rfl rfl Try.func81 (by kernel_rfl) rfl #[.agg #[.int .i64 a0_0, .int .i64 a0_1, .string a0_2], .int .i64 x5_1] rfl z_g9 ?_; (with_reducible refine (spec_SlotsAt.calls kj7 a0_0 a0_1 a0_2 x5_1 t454 _ A15.out).mono ?_); rintro e w29 ⟨v455, rfl, ho0, hb⟩; refine ⟨_, rfl, ?_⟩; replace HO_3 := Aside0.mk (Kd.R_below (kd_g8 HO_3.out) hb); replace HO_4 := Aside0.mk (Kd.R_below (kd_g8 HO_4.out) hb); have HO456 := Aside0.mk (Kd.R_lower ho0 (below_size z20_0)); replace BK446 := Aside0.mk (blk_below (g := gb446) (o := .cells #[.int .i64 a0_0, .int .i64 a0_1, .string a0_2] 28 (0, 0)) (bd_g7 BK446.out) hb); replace HB := Aside0.mk (below_step z20_0 hb); (try clear hb); (try clear ho0); obtain ⟨Ao30, co30, eo30⟩ := Kd.R_slice HO456.out; subst eo30))
               replace HO_3 := Aside0.mk (Kd.R_drew HO_3.out); replace HO_4 := Aside0.mk (Kd.R_drew HO_4.out); replace HO456 := Aside0.mk (Kd.R_drew HO456.out); replace BK446 := Aside0.mk (blk_drew BK446.out); replace HB := Aside0.mk (below_drew1 HB.out); have p457 : 0 ≤ (0 : Int) := (by omega); have q457 : 0 < (t454.length : Int) := of_decide_eq_true (by first | (with_reducible assumption) | assumption)
               obtain ⟨ad457, e457, hx457_0⟩ := Kd.at_int (Kd.R_reads' HO456.out).2.2 0 p457 q457
               cases e457; have qi457 : (0 < t454.length) = True := eq_true (by omega); (try rw [show ((0 : Int)).toNat = 0 from rfl] at hx457_0)
               (try rw [Addr.add_zero'] at hx457_0)
               replace p457 := eq_true p457; replace q457 := eq_true q457; have p458 : 0 ≤ (1 : Int) := (by omega); have q458 : 1 < (t454.length : Int) := of_decide_eq_true (by first | (with_reducible assumption) | assumption)
               obtain ⟨ad458, e458, hx458_0⟩ := Kd.at_int (Kd.R_reads' HO456.out).2.2 1 p458 q458; obtain rfl : ad457 = ad458 := (by injection e458); (try simp only [show (1 : Int).toNat = 1 from rfl, Nat.reduceMul, Nat.reduceEqDiff, Go.Addr.add, ↓reduceIte] at hx458_0)
               have qi458 : (1 < t454.length) = True := eq_true (by omega); (try rw [show ((1 : Int)).toNat = 1 from rfl] at hx458_0)
               replace p458 := eq_true p458; replace q458 := eq_true q458; have p459 : 0 ≤ (0 : Int) := (by omega); have q459 : 0 < (t454.length : Int) := of_decide_eq_true (by first | (with_reducible assumption) | assumption)
               obtain ⟨ad459, e459, hx459_0⟩ := Kd.at_int (Kd.R_reads' HO456.out).2.2 0 p459 q459; obtain rfl : ad457 = ad459 := (by injection e459); have qi459 : (0 < t454.length) = True := eq_true (by omega); (try rw [show ((0 : Int)).toNat = 0 from rfl] at hx459_0)
               (try rw [Addr.add_zero'] at hx459_0)
               replace p459 := eq_true p459; replace q459 := eq_true q459; obtain ⟨Ao32, co32, eo32⟩ := Kd.R_slice HO_4.out; (first | subst eo32 | (injection eo32 with f1_ f2_ f3_; have f4_ := f1_.symm; have f5_ := f3_.symm; clear f1_ f2_ f3_; subst f4_; subst f5_))
               have p460 : 0 ≤ ((rd t454 0) : Int) := of_decide_eq_true (by first | (with_reducible assumption) | assumption)
               have q460 : (rd t454 0) < (t450.length : Int) := of_decide_eq_true (by first | (with_reducible assumption) | assumption)
               obtain ⟨ad460, e460, hx460_0, hx460_1, hx460_2, hx460_3⟩ := at_T65 (Kd.R_reads' HO_4.out).2.2 (rd t454 0) p460 q460
               cases e460; replace p460 := eq_true p460; replace q460 := eq_true q460; have p465 : 0 ≤ (1 : Int) := (by omega); have q465 : 1 < (t454.length : Int) := of_decide_eq_true (by first | (with_reducible assumption) | assumption)
               obtain ⟨ad465, e465, hx465_0⟩ := Kd.at_int (Kd.R_reads' HO456.out).2.2 1 p465 q465; obtain rfl : ad457 = ad465 := (by injection e465); (try simp only [show (1 : Int).toNat = 1 from rfl, Nat.reduceMul, Nat.reduceEqDiff, Go.Addr.add, ↓reduceIte] at hx465_0)
               have qi465 : (1 < t454.length) = True := eq_true (by omega); (try rw [show ((1 : Int)).toNat = 1 from rfl] at hx465_0)
               replace p465 := eq_true p465; replace q465 := eq_true q465; have p466 : 0 ≤ ((rd t454 1) : Int) := of_decide_eq_true (by first | (with_reducible assumption) | assumption)
               have q466 : (rd t454 1) < (t450.length : Int) := of_decide_eq_true (by first | (with_reducible assumption) | assumption)
               obtain ⟨ad466, e466, hx466_0, hx466_1, hx466_2, hx466_3⟩ := at_T65 (Kd.R_reads' HO_4.out).2.2 (rd t454 1) p466 q466; obtain rfl : ad460 = ad466 := (by injection e466); replace p466 := eq_true p466; replace q466 := eq_true q466; refine start_ (n := 32) (S := fun w' => w'.cell? ⟨gb446, 0, none⟩ = some (.int .i64 a0_0) ∧ w'.cell? ⟨gb446, 1, none⟩ = some (.int .i64 a0_1) ∧ w'.cell? ⟨gb446, 2, none⟩ = some (.string a0_2) ∧ w'.cell? ad457 = some (.int .i64 (rd t454 0)) ∧ w'.cell? ⟨ad457.block, ad457.off + 1, none⟩ = some (.int .i64 (rd t454 1)) ∧ w'.cell? ad457 = some (.int .i64 (rd t454 0)) ∧ w'.cell? (ad460.add (((rd t454 0)).toNat * 4)) = some (.int .i64 ((rd_T65 t450 (rd t454 0)).f0)) ∧ w'.cell? ⟨(ad460.add (((rd t454 0)).toNat * 4)).block, (ad460.add (((rd t454 0)).toNat * 4)).off + 1, none⟩ = some (.bool ((rd_T65 t450 (rd t454 0)).f1)) ∧ w'.cell? ⟨(ad460.add (((rd t454 0)).toNat * 4)).block, (ad460.add (((rd t454 0)).toNat * 4)).off + 2, none⟩ = some (.int .i64 ((rd_T65 t450 (rd t454 0)).f2)) ∧ w'.cell? ⟨(ad460.add (((rd t454 0)).toNat * 4)).block, (ad460.add (((rd t454 0)).toNat * 4)).off + 3, none⟩ = some (.int .i64 ((rd_T65 t450 (rd t454 0)).f3)) ∧ w'.cell? ⟨ad457.block, ad457.off + 1, none⟩ = some (.int .i64 (rd t454 1)) ∧ w'.cell? (ad460.add (((rd t454 1)).toNat * 4)) = some (.int .i64 ((rd_T65 t450 (rd t454 1)).f0)) ∧ w'.cell? ⟨(ad460.add (((rd t454 1)).toNat * 4)).block, (ad460.add (((rd t454 1)).toNat * 4)).off + 1, none⟩ = some (.bool ((rd_T65 t450 (rd t454 1)).f1)) ∧ w'.cell? ⟨(ad460.add (((rd t454 1)).toNat * 4)).block, (ad460.add (((rd t454 1)).toNat * 4)).off + 2, none⟩ = some (.int .i64 ((rd_T65 t450 (rd t454 1)).f2)) ∧ w'.cell? ⟨(ad460.add (((rd t454 1)).toNat * 4)).block, (ad460.add (((rd t454 1)).toNat * 4)).off + 3, none⟩ = some (.int .i64 ((rd_T65 t450 (rd t454 1)).f3))) (ds := [29, 30]) #[false, false, false, false, false, false, false, false, false, false, false, false, false, false, false, false, false, false, false, false, false, false, false, false, false, false, false, false, false, false, false, false] (by kernel_rfl) rfl rfl ⟨(blk_cell BK446.out 0).trans rfl, (blk_cell BK446.out 1).trans rfl, (blk_cell BK446.out 2).trans rfl, hx457_0, hx458_0, hx459_0, hx460_0, hx460_1, hx460_2, hx460_3, hx465_0, hx466_0, hx466_1, hx466_2, hx466_3⟩ (fun hHeld => ?_); refine with_tabW spec_CrossingsOf.tab8 spec_CrossingsOf.bits8 (fun HT_ HW_ => ?_)
               generalize w29.drew = w31 at HO_3 HO_4 HO456 BK446 HB hx457_0 hx458_0 hx459_0 hx460_0 hx460_1 hx460_2 hx460_3 hx465_0 hx466_0 hx466_1 hx466_2 hx466_3 hHeld ⊢
               refine pu20_ 0 (some 27) (any_of HT_.out (by kernel_rfl)) ?_
               refine pu20_ 1 (some 28) (any_of HT_.out (by kernel_rfl)) ?_
               refine pu20_ 2 (some 29) (any_of HT_.out (by kernel_rfl)) ?_
               refine pu20_ 4 (some 31) (any_of HT_.out (by kernel_rfl)) ?_
               refine pu20_ 5 (some 32) (any_of HT_.out (by kernel_rfl)) ?_
               refine pu20_ 8 (some 35) (any_of HT_.out (by kernel_rfl)) ?_
               refine pu20_ 9 (some 36) (any_of HT_.out (by kernel_rfl)) ?_
               refine pu20_ 10 (some 37) (any_of HT_.out (by kernel_rfl)) ?_
               refine pu20_ 15 (some 42) (any_of HT_.out (by kernel_rfl)) ?_
               refine pu20_ 18 (some 45) (any_of HT_.out (by kernel_rfl)) ?_
               refine pu20_ 19 (some 46) (any_of HT_.out (by kernel_rfl)) ?_
               refine pu20_ 20 (some 47) (any_of HT_.out (by kernel_rfl)) ?_
               refine pu20_ 25 (some 52) (any_of HT_.out (by kernel_rfl)) ?_
               refine pu20_ 27 (some 54) (any_of HT_.out (by kernel_rfl)) ?_
               refine tk20_ 3 (some 30) rfl (take_ofW HT_.out HW_.out (by kernel_rfl)) (Or.inl ⟨by rfl, fun w' ⟨s0, s1, s2, s3, s4, s5, s6, s7, s8, s9, s10, s11, s12, s13, s14⟩ => by go_simp; with_reducible rfl⟩) hHeld ?_
               refine tk20_ 6 (some 33) rfl (take_ofW HT_.out HW_.out (by kernel_rfl)) (Or.inl ⟨by rfl, fun w' ⟨s0, s1, s2, s3, s4, s5, s6, s7, s8, s9, s10, s11, s12, s13, s14⟩ => by go_simp; with_reducible rfl⟩) hHeld ?_
               refine tk20_ 7 (some 34) rfl (take_ofW HT_.out HW_.out (by kernel_rfl)) (Or.inl ⟨by rfl, fun w' ⟨s0, s1, s2, s3, s4, s5, s6, s7, s8, s9, s10, s11, s12, s13, s14⟩ => by go_simp; with_reducible rfl⟩) hHeld ?_
               refine tk20_ 11 (some 38) rfl (take_ofW HT_.out HW_.out (by kernel_rfl)) (Or.inl ⟨by rfl, fun w' ⟨s0, s1, s2, s3, s4, s5, s6, s7, s8, s9, s10, s11, s12, s13, s14⟩ => by go_simp; with_reducible rfl⟩) hHeld ?_
               refine pu20_ 12 (some 39) (any_of HT_.out (by kernel_rfl)) ?_
               refine tk20_ 13 (some 40) rfl (take_ofW HT_.out HW_.out (by kernel_rfl)) (Or.inl ⟨by rfl, fun w' ⟨s0, s1, s2, s3, s4, s5, s6, s7, s8, s9, s10, s11, s12, s13, s14⟩ => by go_simp; with_reducible rfl⟩) hHeld ?_
               refine tk20_ 17 (some 44) rfl (take_ofW HT_.out HW_.out (by kernel_rfl)) (Or.inl ⟨by rfl, fun w' ⟨s0, s1, s2, s3, s4, s5, s6, s7, s8, s9, s10, s11, s12, s13, s14⟩ => by go_simp; with_reducible rfl⟩) hHeld ?_
               refine tk20_ 21 (some 48) rfl (take_ofW HT_.out HW_.out (by kernel_rfl)) (Or.inl ⟨by rfl, fun w' ⟨s0, s1, s2, s3, s4, s5, s6, s7, s8, s9, s10, s11, s12, s13, s14⟩ => by go_simp; with_reducible rfl⟩) hHeld ?_
               refine pu20_ 22 (some 49) (any_of HT_.out (by kernel_rfl)) ?_
               refine tk20_ 23 (some 50) rfl (take_ofW HT_.out HW_.out (by kernel_rfl)) (Or.inl ⟨by rfl, fun w' ⟨s0, s1, s2, s3, s4, s5, s6, s7, s8, s9, s10, s11, s12, s13, s14⟩ => by go_simp; with_reducible rfl⟩) hHeld ?_
               refine one_ (i := 14) (N := some 41) #[true, true, true, true, true, true, true, true, true, true, true, true, true, true, true, true, false, true, true, true, true, true, true, true, false, true, false, true, false, false, false, false] rfl rfl (one_of HT_.out (by kernel_rfl)) (by decide) (fun K hK => ?_)
               refine goes_ Try.func46 (by kernel_rfl) rfl #[.agg #[.int .i64 a0_0, .int .i64 a0_1, .string a0_2], .agg #[.int .i64 ((rd_T65 t450 (rd t454 0)).f0), .bool ((rd_T65 t450 (rd t454 0)).f1), .int .i64 ((rd_T65 t450 (rd t454 0)).f2), .int .i64 ((rd_T65 t450 (rd t454 0)).f3)]] (by rfl) rfl rfl z_g9 ?_
               with_reducible refine (spec_CellsOf.calls kj7 a0_0 a0_1 a0_2 ((rd_T65 t450 (rd t454 0)).f0) ((rd_T65 t450 (rd t454 0)).f1) ((rd_T65 t450 (rd t454 0)).f2) ((rd_T65 t450 (rd t454 0)).f3) t461 _ A21.out).mono ?_
               rintro e w33 ⟨v462, rfl, ho0, hb⟩
               have HS3_ := (hb.cell (World.block_lt_of_cell? _ _ (hHeld.2.2.2.1))).trans (hHeld.2.2.2.1); have HS4_ := (hb.cell (World.block_lt_of_cell? _ _ (hHeld.2.2.2.2.1))).trans (hHeld.2.2.2.2.1); have HS5_ := (hb.cell (World.block_lt_of_cell? _ _ (hHeld.2.2.2.2.2.1))).trans (hHeld.2.2.2.2.2.1); have HS6_ := (hb.cell (World.block_lt_of_cell? _ _ (hHeld.2.2.2.2.2.2.1))).trans (hHeld.2.2.2.2.2.2.1); have HS7_ := (hb.cell (World.block_lt_of_cell? _ _ (hHeld.2.2.2.2.2.2.2.1))).trans (hHeld.2.2.2.2.2.2.2.1); have HS8_ := (hb.cell (World.block_lt_of_cell? _ _ (hHeld.2.2.2.2.2.2.2.2.1))).trans (hHeld.2.2.2.2.2.2.2.2.1); have HS9_ := (hb.cell (World.block_lt_of_cell? _ _ (hHeld.2.2.2.2.2.2.2.2.2.1))).trans (hHeld.2.2.2.2.2.2.2.2.2.1); have HS10_ := (hb.cell (World.block_lt_of_cell? _ _ (hHeld.2.2.2.2.2.2.2.2.2.2.1))).trans (hHeld.2.2.2.2.2.2.2.2.2.2.1); have HS11_ := (hb.cell (World.block_lt_of_cell? _ _ (hHeld.2.2.2.2.2.2.2.2.2.2.2.1))).trans (hHeld.2.2.2.2.2.2.2.2.2.2.2.1); have HS12_ := (hb.cell (World.block_lt_of_cell? _ _ (hHeld.2.2.2.2.2.2.2.2.2.2.2.2.1))).trans (hHeld.2.2.2.2.2.2.2.2.2.2.2.2.1); have HS13_ := (hb.cell (World.block_lt_of_cell? _ _ (hHeld.2.2.2.2.2.2.2.2.2.2.2.2.2.1))).trans (hHeld.2.2.2.2.2.2.2.2.2.2.2.2.2.1); have HS14_ := (hb.cell (World.block_lt_of_cell? _ _ (hHeld.2.2.2.2.2.2.2.2.2.2.2.2.2.2))).trans (hHeld.2.2.2.2.2.2.2.2.2.2.2.2.2.2); refine ⟨_, rfl, ?_⟩
               replace HO_3 := Aside0.mk (Kd.R_below (kd_g8 HO_3.out) hb); replace HO_4 := Aside0.mk (Kd.R_below (kd_g8 HO_4.out) hb); have HO463 := Aside0.mk (Kd.R_lower (Kd.R_new' ho0 (Kd.R_lt (kd_g8 HO456.out))) (below_size z20_0)); replace HO456 := Aside0.mk (Kd.R_elder' (kd_g8 HO456.out) (Kd.R_base ho0) hb); replace BK446 := Aside0.mk (blk_below (g := gb446) (o := .cells #[.int .i64 a0_0, .int .i64 a0_1, .string a0_2] 28 (0, 0)) (bd_g7 BK446.out) hb); replace HB := Aside0.mk (below_step z20_0 hb); (try clear hb)
               (try clear hb2)
               (try clear hk)
               (try clear hi)
               (try clear ho0)
               obtain ⟨Ao34, co34, eo34⟩ := Kd.R_slice HO463.out; (first | subst eo34 | (injection eo34 with f1_ f2_ f3_; have f4_ := f1_.symm; have f5_ := f3_.symm; clear f1_ f2_ f3_; subst f4_; subst f5_))
               refine hK.out _ _ ⟨(blk_cell BK446.out 0).trans rfl, (blk_cell BK446.out 1).trans rfl, (blk_cell BK446.out 2).trans rfl, HS3_, HS4_, HS5_, HS6_, HS7_, HS8_, HS9_, HS10_, HS11_, HS12_, HS13_, HS14_⟩ (fun hHeld => ?_)
               clear hK K; refine norm_ (a' := ?_) ?_ ?_
               rotate_left
               ·show Act.put _ (some 41) _ = _
                simp only [Act.put, pt_g16, i64_w, i32_w]; rfl
               refine one_ (i := 16) (N := some 43) #[true, true, true, true, true, true, true, true, true, true, true, true, true, true, true, true, true, true, true, true, true, true, true, true, false, true, false, true, false, false, false, false] rfl rfl (one_of HT_.out (by kernel_rfl)) (by decide) (fun K hK => ?_)
               refine goes_ Try.func124 (by kernel_rfl) rfl #[.slice Ao34 t461.length co34, .int .i64 x5_1] (by rfl) rfl rfl z_g9 ?_
               with_reducible refine (spec_l9Place.calls kj7 _ _ t461 x5_1 t464 _ ?side1 ?side2 A22.out).mono ?_
               (case side1 => repeat (first | exact (Kd.R_reads' HO463.out).2.2 | (with_reducible refine Kd.C_alloc ?_ _) | (with_reducible refine Kd.C_drewN ?_ _) | (with_reducible refine Kd.C_drew ?_)))
               (case side2 => exact (Kd.R_reads' HO463.out).2.1)
               rintro e w' ⟨rfl, ⟨nd, rfl⟩⟩
               refine ⟨_, rfl, ?_⟩
               refine hK.out _ _ ⟨(blk_cell BK446.out 0).trans rfl, (blk_cell BK446.out 1).trans rfl, (blk_cell BK446.out 2).trans rfl, hHeld.2.2.2.1, hHeld.2.2.2.2.1, hHeld.2.2.2.2.2.1, hHeld.2.2.2.2.2.2.1, hHeld.2.2.2.2.2.2.2.1, hHeld.2.2.2.2.2.2.2.2.1, hHeld.2.2.2.2.2.2.2.2.2.1, hHeld.2.2.2.2.2.2.2.2.2.2.1, hHeld.2.2.2.2.2.2.2.2.2.2.2.1, hHeld.2.2.2.2.2.2.2.2.2.2.2.2.1, hHeld.2.2.2.2.2.2.2.2.2.2.2.2.2.1, hHeld.2.2.2.2.2.2.2.2.2.2.2.2.2.2⟩ (fun hHeld => ?_)
               clear hK K; refine norm_ (a' := ?_) ?_ ?_
               rotate_left
               ·show Act.put _ (some 43) _ = _
                simp only [Act.put, pt_g16, i64_w, i32_w]; rfl
               refine one_ (i := 24) (N := some 51) #[true, true, true, true, true, true, true, true, true, true, true, true, true, true, true, true, true, true, true, true, true, true, true, true, true, true, false, true, false, false, false, false] rfl rfl (one_of HT_.out (by kernel_rfl)) (by decide) (fun K hK => ?_)
               refine goes_ Try.func46 (by kernel_rfl) rfl #[.agg #[.int .i64 a0_0, .int .i64 a0_1, .string a0_2], .agg #[.int .i64 ((rd_T65 t450 (rd t454 1)).f0), .bool ((rd_T65 t450 (rd t454 1)).f1), .int .i64 ((rd_T65 t450 (rd t454 1)).f2), .int .i64 ((rd_T65 t450 (rd t454 1)).f3)]] (by rfl) rfl rfl z_g9 ?_
               with_reducible refine (spec_CellsOf.calls kj7 a0_0 a0_1 a0_2 ((rd_T65 t450 (rd t454 1)).f0) ((rd_T65 t450 (rd t454 1)).f1) ((rd_T65 t450 (rd t454 1)).f2) ((rd_T65 t450 (rd t454 1)).f3) t467 _ A25.out).mono ?_
               rintro e w35 ⟨v468, rfl, ho0, hb⟩
               have HS3_ := (hb.cell (World.block_lt_of_cell? _ _ (hHeld.2.2.2.1))).trans (hHeld.2.2.2.1); have HS4_ := (hb.cell (World.block_lt_of_cell? _ _ (hHeld.2.2.2.2.1))).trans (hHeld.2.2.2.2.1); have HS5_ := (hb.cell (World.block_lt_of_cell? _ _ (hHeld.2.2.2.2.2.1))).trans (hHeld.2.2.2.2.2.1); have HS6_ := (hb.cell (World.block_lt_of_cell? _ _ (hHeld.2.2.2.2.2.2.1))).trans (hHeld.2.2.2.2.2.2.1); have HS7_ := (hb.cell (World.block_lt_of_cell? _ _ (hHeld.2.2.2.2.2.2.2.1))).trans (hHeld.2.2.2.2.2.2.2.1); have HS8_ := (hb.cell (World.block_lt_of_cell? _ _ (hHeld.2.2.2.2.2.2.2.2.1))).trans (hHeld.2.2.2.2.2.2.2.2.1); have HS9_ := (hb.cell (World.block_lt_of_cell? _ _ (hHeld.2.2.2.2.2.2.2.2.2.1))).trans (hHeld.2.2.2.2.2.2.2.2.2.1); have HS10_ := (hb.cell (World.block_lt_of_cell? _ _ (hHeld.2.2.2.2.2.2.2.2.2.2.1))).trans (hHeld.2.2.2.2.2.2.2.2.2.2.1); have HS11_ := (hb.cell (World.block_lt_of_cell? _ _ (hHeld.2.2.2.2.2.2.2.2.2.2.2.1))).trans (hHeld.2.2.2.2.2.2.2.2.2.2.2.1); have HS12_ := (hb.cell (World.block_lt_of_cell? _ _ (hHeld.2.2.2.2.2.2.2.2.2.2.2.2.1))).trans (hHeld.2.2.2.2.2.2.2.2.2.2.2.2.1); have HS13_ := (hb.cell (World.block_lt_of_cell? _ _ (hHeld.2.2.2.2.2.2.2.2.2.2.2.2.2.1))).trans (hHeld.2.2.2.2.2.2.2.2.2.2.2.2.2.1); have HS14_ := (hb.cell (World.block_lt_of_cell? _ _ (hHeld.2.2.2.2.2.2.2.2.2.2.2.2.2.2))).trans (hHeld.2.2.2.2.2.2.2.2.2.2.2.2.2.2); refine ⟨_, rfl, ?_⟩
               replace HO_3 := Aside0.mk (Kd.R_below (kd_g8 HO_3.out) hb); replace HO_4 := Aside0.mk (Kd.R_below (kd_g8 HO_4.out) hb); have HO469 := Aside0.mk (Kd.R_lower (Kd.R_new' (Kd.R_new' ho0 (Kd.R_lt (kd_g8 HO456.out))) (Kd.R_lt (kd_g8 HO463.out))) (below_size z20_0)); replace HO456 := Aside0.mk (Kd.R_elder' (kd_g8 HO456.out) (Kd.R_base ho0) hb); replace HO463 := Aside0.mk (Kd.R_elder' (kd_g8 HO463.out) (Kd.R_base ho0) hb); replace BK446 := Aside0.mk (blk_below (g := gb446) (o := .cells #[.int .i64 a0_0, .int .i64 a0_1, .string a0_2] 28 (0, 0)) (bd_g7 BK446.out) hb); replace HB := Aside0.mk (below_step z20_0 hb); (try clear hb)
               (try clear hb2)
               (try clear hk)
               (try clear hi)
               (try clear ho0)
               obtain ⟨Ao36, co36, eo36⟩ := Kd.R_slice HO469.out; (first | subst eo36 | (injection eo36 with f1_ f2_ f3_; have f4_ := f1_.symm; have f5_ := f3_.symm; clear f1_ f2_ f3_; subst f4_; subst f5_))
               refine hK.out _ _ ⟨(blk_cell BK446.out 0).trans rfl, (blk_cell BK446.out 1).trans rfl, (blk_cell BK446.out 2).trans rfl, HS3_, HS4_, HS5_, HS6_, HS7_, HS8_, HS9_, HS10_, HS11_, HS12_, HS13_, HS14_⟩ (fun hHeld => ?_)
               clear hK K; refine norm_ (a' := ?_) ?_ ?_
               rotate_left
               ·show Act.put _ (some 51) _ = _
                simp only [Act.put, pt_g16, i64_w, i32_w]; rfl
               refine one_ (i := 26) (N := some 53) #[true, true, true, true, true, true, true, true, true, true, true, true, true, true, true, true, true, true, true, true, true, true, true, true, true, true, true, true, false, false, false, false] rfl rfl (one_of HT_.out (by kernel_rfl)) (by decide) (fun K hK => ?_)
               refine goes_ Try.func124 (by kernel_rfl) rfl #[.slice Ao36 t467.length co36, .int .i64 x5_1] (by rfl) rfl rfl z_g9 ?_
               with_reducible refine (spec_l9Place.calls kj7 _ _ t467 x5_1 t470 _ ?side1 ?side2 A26.out).mono ?_
               (case side1 => repeat (first | exact (Kd.R_reads' HO469.out).2.2 | (with_reducible refine Kd.C_alloc ?_ _) | (with_reducible refine Kd.C_drewN ?_ _) | (with_reducible refine Kd.C_drew ?_)))
               (case side2 => exact (Kd.R_reads' HO469.out).2.1)
               rintro e w' ⟨rfl, ⟨nd, rfl⟩⟩
               refine ⟨_, rfl, ?_⟩
               refine hK.out _ _ ⟨(blk_cell BK446.out 0).trans rfl, (blk_cell BK446.out 1).trans rfl, (blk_cell BK446.out 2).trans rfl, hHeld.2.2.2.1, hHeld.2.2.2.2.1, hHeld.2.2.2.2.2.1, hHeld.2.2.2.2.2.2.1, hHeld.2.2.2.2.2.2.2.1, hHeld.2.2.2.2.2.2.2.2.1, hHeld.2.2.2.2.2.2.2.2.2.1, hHeld.2.2.2.2.2.2.2.2.2.2.1, hHeld.2.2.2.2.2.2.2.2.2.2.2.1, hHeld.2.2.2.2.2.2.2.2.2.2.2.2.1, hHeld.2.2.2.2.2.2.2.2.2.2.2.2.2.1, hHeld.2.2.2.2.2.2.2.2.2.2.2.2.2.2⟩ (fun hHeld => ?_)
               clear hK K; refine norm_ (a' := ?_) ?_ ?_
               rotate_left
               ·show Act.put _ (some 53) _ = _
                simp only [Act.put, pt_g16, i64_w, i32_w]; rfl
               refine pu20_ 28 (some 55) (any_of HT_.out (by kernel_rfl)) ?_
               refine last_ (i := 29) (N := some 56) #[true, true, true, true, true, true, true, true, true, true, true, true, true, true, true, true, true, true, true, true, true, true, true, true, true, true, true, true, true, true, false, false] rfl rfl (one_of HT_.out (by kernel_rfl)) (by decide) (fun K hK => ?_)
               refine value_ (w1 := ?_) (v := ?_) (by rfl) rfl ?_ ?_
               rotate_left 2
               ·go_simp; constructor
                ·rfl
                ·rfl
               refine hK.out _ _ ?_
               clear hK K; refine norm_ (a' := ?_) ?_ ?_
               rotate_left
               ·show Act.put _ (some 56) _ = _
                simp only [Act.put, pt_g16, i64_w, i32_w]; rfl
               refine last_ (i := 30) (N := some 57) #[true, true, true, true, true, true, true, true, true, true, true, true, true, true, true, true, true, true, true, true, true, true, true, true, true, true, true, true, true, true, true, false] rfl rfl (one_of HT_.out (by kernel_rfl)) (by decide) (fun K hK => ?_)
               refine Kd.R_append_step k114 (w0 := w) w.heap.size (by rfl) (.tmp 27) (.tmp 56) 85 114 (.agg #[(.int .i64 0), (.int .i64 0), (.int .i64 0), (.int .i64 0), (.int .i64 0)]) 40 rfl Try.underlying85 info114 rfl (by decide) (by omega) u3 x3_1 (⟨rd t454 0, rd t454 1, t464, t470, x5_1⟩ : S114) [.int .i64 (rd t454 0), .int .i64 (rd t454 1), .int .i64 t464, .int .i64 t470, .int .i64 x5_1] (fun _ => True) (fun _ => False) rfl rfl ?aP (fun _ hk => hk.elim) ?aF ?aO ?aB ?aS ?aL ?_
               (case aP => exact k114_mkM _ _ _ (⟨rd t454 0, rd t454 1, t464, t470, x5_1⟩ : S114))
               (case aB => exact z20_0)
               (case aF => exact (fun _ _ => trivial))
               (case aO => exact (kd_g8 HO_3.out))
               (case aS => exact (below_size z20_0))
               (case aL => have := LMc27.out; omega)
               intro v472 w37 ho hb hg hat
               rw [← Ny471.out] at ho
               have n0_ := Aside0.mk (Kd.R_over' (kd_g8 HO_4.out) (Kd.R_typed (kd_g8 HO_3.out)) (by decide) hg); have n1_ := Aside0.mk (blk_grown (g := gb446) (o := .cells #[.int .i64 a0_0, .int .i64 a0_1, .string a0_2] 28 (0, 0)) (bd_g7 BK446.out) hg (Kd.R_ne HO_3.out BK446.out (by decide))); have n2_ := Aside0.mk (Kd.R_over' (kd_g8 HO456.out) (Kd.R_typed (kd_g8 HO_3.out)) (by decide) hg); have n3_ := Aside0.mk (Kd.R_over' (kd_g8 HO463.out) (Kd.R_typed (kd_g8 HO_3.out)) (by decide) hg); have n4_ := Aside0.mk (Kd.R_over' (kd_g8 HO469.out) (Kd.R_typed (kd_g8 HO_3.out)) (by decide) hg); have n5_ := Aside0.mk (hb); have n6_ := Aside0.mk (ho); clear HO_4; clear BK446; clear HO456; clear HO463; clear HO469; clear HB; clear HO_3; have HO_4 := n0_; have BK446 := n1_; have HO456 := n2_; have HO463 := n3_; have HO469 := n4_; have HB := n5_; have HO473 := n6_; clear n0_ n1_ n2_ n3_ n4_ n5_ n6_; clear ho hb hg hat; refine hK.out _ _ ?_
               clear hK K; refine norm_ (a' := ?_) ?_ ?_
               rotate_left
               ·show Act.put _ (some 57) _ = _
                simp only [Act.put, pt_g16, i64_w, i32_w]; rfl
               refine pu20_ 31 (some 3) (any_of HT_.out (by kernel_rfl)) ?_
               refine done_ (done_of HT_.out (by kernel_rfl)) ?_
               try go_wp2
               go_roundg kj7
               case measure => have := HK1.out; have := HJ7.out; omega
               case rel => exact ⟨(y471), (wrap64 (x5_1 + 1)), (by first | rfl | (simp; done) | (simp [*]; done)), H', ⟨by have := HK1.out; have := HJ7.out; omega⟩, ⟨by (with_reducible repeat (first | apply Kd.R_alloc | apply Kd.R_drewN | apply Kd.R_drew)); exact HO473.out⟩, ⟨by (with_reducible repeat (first | apply Kd.R_alloc | apply Kd.R_drewN | apply Kd.R_drew)); exact HO_4.out⟩, ⟨z20_2⟩, ⟨z20_0⟩⟩
              ·rw [if_neg c27] at H
               exact absurd H (by simp)
             ·rw [if_neg c24] at H
              exact absurd H (by simp)
            ·rw [if_neg c23] at H
             exact absurd H (by simp)
           ·rw [if_neg c20] at H
            exact absurd H (by simp)
          ·rw [if_neg c19] at H
           exact absurd H (by simp)
         ·rw [if_neg c18] at H
          exact absurd H (by simp)
        ·rw [if_neg c17] at H
         exact absurd H (by simp)
       ·rw [if_neg c16] at H
        have c16b0 : ((t454.length : Int) == 2) = false := beq_eq_false_iff_ne.mpr c16; have c16b1 : ((t454.length : Int) != 2) = true := bne_iff_ne.mpr c16; have H' := Aside0.mk H
        clear H; obtain ⟨hcz38_0, hcz38_1, hcz38_2, hfz38_0, hfz38_1, hfz38_2⟩ := bc3_g0 BK446.out; go_wp2_with (first | ((with_reducible refine gate_callee (f := 81) rfl ?_); refine goesL_ (some 23) rfl rfl Try.func81 (by kernel_rfl) rfl #[.agg #[.int .i64 a0_0, .int .i64 a0_1, .string a0_2], .int .i64 x5_1] rfl z_g9 ?_; (with_reducible refine (spec_SlotsAt.calls kj7 a0_0 a0_1 a0_2 x5_1 t454 _ A15.out).mono ?_); rintro e w39 ⟨v455, rfl, ho0, hb⟩; refine ⟨_, rfl, ?_⟩; replace HO_3 := Aside0.mk (Kd.R_below (kd_g8 HO_3.out) hb); replace HO_4 := Aside0.mk (Kd.R_below (kd_g8 HO_4.out) hb); have HO456 := Aside0.mk (Kd.R_lower ho0 (below_size z20_0)); replace BK446 := Aside0.mk (blk_below (g := gb446) (o := .cells #[.int .i64 a0_0, .int .i64 a0_1, .string a0_2] 28 (0, 0)) (bd_g7 BK446.out) hb); replace HB := Aside0.mk (below_step z20_0 hb); (try clear hb); (try clear ho0); obtain ⟨Ao40, co40, eo40⟩ := Kd.R_slice HO456.out; subst eo40))
        go_roundg kj7
        case measure => have := HK1.out; have := HJ7.out; omega
        case rel => exact ⟨(x3_1), (wrap64 (x5_1 + 1)), (by first | rfl | (simp; done) | (simp [*]; done)), H', ⟨by have := HK1.out; have := HJ7.out; omega⟩, ⟨by (with_reducible repeat (first | apply Kd.R_alloc | apply Kd.R_drewN | apply Kd.R_drew)); exact HO_3.out⟩, ⟨by (with_reducible repeat (first | apply Kd.R_alloc | apply Kd.R_drewN | apply Kd.R_drew)); exact HO_4.out⟩, ⟨z20_2⟩, ⟨z20_0⟩⟩
      ·replace c14 := Bool.eq_false_iff.mpr c14; subst c14; rw [if_neg (show ¬ (false = true) by decide)] at H
       obtain rfl := Option.some.inj H; go_wp2
       go_ret
       exact ⟨_, by first | rfl | (simp [errW_none, errW_some] <;> rfl) | (simp [*, errW_none, errW_some] <;> rfl), by (with_reducible repeat (first | apply Kd.R_alloc | apply Kd.R_drewN | apply Kd.R_drew)); exact HO_3.out, z20_0⟩

end Go.Proofs.Ytodcckiphdnjeaa.QFnPruned
