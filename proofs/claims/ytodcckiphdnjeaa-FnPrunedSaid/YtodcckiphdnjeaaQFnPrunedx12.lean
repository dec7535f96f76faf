-- Written by a changed copy of the kit's printer (wip/mp.py of this repo), for this claim; Lean checks it.
import Derived.Test.YtodcckiphdnjeaaQFnPrunedx0
import Derived.Test.YtodcckiphdnjeaaQFnPrunedx7
import Derived.Test.YtodcckiphdnjeaaQFnPrunedx8
import Derived.Test.YtodcckiphdnjeaaQFnPrunedx10
import Derived.Test.YtodcckiphdnjeaaQFnPrunedx11
namespace Go.Proofs.Ytodcckiphdnjeaa.QFnPruned
open Go.RowKit Go.Proofs.YtodcckiphdnjeaaW.PrintWords Go.Proofs.YtodcckiphdnjeaaW.PrintLast Go.Proofs.YtodcckiphdnjeaaW.PrintMore
attribute [local go_sem] max2_int min2_int max_two min_two max_three min_three max_four min_four   -- for this text's walks alone
set_option linter.unusedVariables false
set_option maxHeartbeats 8000000
set_option maxRecDepth 100000
set_option linter.unusedSimpArgs false

theorem z12_0 {p : Prop} (h : p := by repeat (first | (with_reducible first | exact HB.out | apply below_alloc | apply pw_below_drewN | apply below_drew1 | refine below_set ?_ GE222.out) | exact HB.out)) : p := h
theorem z12_1 {p : Prop} (h : p := by repeat (first | (with_reducible first | exact HB.out | apply below_alloc | apply pw_below_drewN | apply below_drew1 | refine below_set ?_ GE210.out) | exact HB.out)) : p := h
theorem z12_4 {p : Prop} (h : p := by (with_reducible repeat (first | apply Kd.S_alloc | apply Kd.S_drewN | apply Kd.S_drew)); exact HO_7.out) : p := h
/-! ### spec_SlotPattern: function 66 -/
mutual
def spec_SlotPattern.j0 : Nat → ByteArray → Int → List (S65) → Bool → Int → Int → ByteArray → Option (ByteArray)
  | 0, _, _, _, _, _, _, _ => none
  | k + 1, x1, x2, x7, x24, x211000, x211001, x211002 => if x24 = true then (some (⟨#[]⟩ : ByteArray)) else (if 0 ≤ x2 then (if x2 < (x7.length : Int) then ((spec_CellsOf.f k x211000 x211001 x211002 ((rd_T65 x7 x2).f0) ((rd_T65 x7 x2).f1) ((rd_T65 x7 x2).f2) ((rd_T65 x7 x2).f3)).bind fun t217 => (spec_SlotPattern.l0 k x1 (⟨#[]⟩ : ByteArray) t217 0)) else (none)) else (none))
def spec_SlotPattern.l0 : Nat → ByteArray → ByteArray → List Int → Int → Option (ByteArray)
  | 0, _, _, _, _ => none
  | k + 1, x1, x8, x9, x10 => if x10 < (x9.length : Int) then (if 0 ≤ x10 then (if 0 ≤ (rd x9 x10) then (if (rd x9 x10) ≤ (wrap64 ((rd x9 x10) + 1)) then (if (wrap64 ((rd x9 x10) + 1)) ≤ (x1.size : Int) then (if x8.size + (x1.extract ((rd x9 x10) : Int).toNat ((wrap64 ((rd x9 x10) + 1)) : Int).toNat).size ≤ 9223372036854775807 then (spec_SlotPattern.l0 k x1 (x8 ++ (x1.extract ((rd x9 x10) : Int).toNat ((wrap64 ((rd x9 x10) + 1)) : Int).toNat)) x9 (wrap64 (x10 + 1))) else (none)) else (none)) else (none)) else (none)) else (none)) else (some x8)
end
def spec_SlotPattern.f (k : Nat) (a0_0 : Int) (a0_1 : Int) (a0_2 : ByteArray) (a1 : ByteArray) (a2 : Int) : Option (ByteArray) := (spec_SlotsOf.f k a0_0 a0_1 a0_2).bind fun t211 => ((spec_IsFill.f k a0_0 a0_1 a0_2 a1).bind fun t214 => (if t214 = true then ((spec_l1In.f a2 0 (wrap64 ((t211.length : Int) - 1))).bind fun t215 => (spec_SlotPattern.j0 k a1 a2 t211 (!t215) a0_0 a0_1 a0_2)) else (spec_SlotPattern.j0 k a1 a2 t211 true a0_0 a0_1 a0_2)))
def spec_SlotPattern.T9 : Bool × List (List Nat × List Nat) := (true, [([], []), ([], []), ([], []), ([], []), ([2, 3], [2, 3]), ([4], [4]), ([], []), ([], []), ([6, 7], [6, 7]), ([8], [8]), ([9], [9]), ([1, 5, 10], [1, 5, 10]), ([0, 11], [0, 11]), ([12, 0, 1, 2, 3, 4, 5, 6, 7, 8, 9, 10, 11, 12], [0, 12])])
def spec_SlotPattern.B9 : List Nat := [0, 0, 0, 0, 12, 28, 0, 0, 192, 448, 960, 2046, 4095, 8191]
theorem spec_SlotPattern.tab9 : rtab .any (opsOf Try.f66 9) = spec_SlotPattern.T9 := by kernel_rfl
theorem spec_SlotPattern.bits9 : waitsOk spec_SlotPattern.T9.2 spec_SlotPattern.B9 = true := by kernel_rfl
theorem spec_SlotPattern.calls (k : Nat) (a0_0 : Int) (a0_1 : Int) (a0_2 : ByteArray) (a1 : ByteArray) (a2 : Int) (r : ByteArray) (w : World) (h : spec_SlotPattern.f k a0_0 a0_1 a0_2 a1 a2 = some r) :
   Calls Try.prog 66 #[.agg #[.int .i64 a0_0, .int .i64 a0_1, .string a0_2], .string a1, .int .i64 a2] w fun e w' => e = .returned (.string r) ∧ Below w.heap.size w w' := by
  have hu28 := Try.underlying28; have hu65 := Try.underlying65; have HB := Aside0.mk (Below.refl w.heap.size w); have H : ((spec_SlotsOf.f k a0_0 a0_1 a0_2).bind fun t211 => ((spec_IsFill.f k a0_0 a0_1 a0_2 a1).bind fun t214 => (if t214 = true then ((spec_l1In.f a2 0 (wrap64 ((t211.length : Int) - 1))).bind fun t215 => (spec_SlotPattern.j0 k a1 a2 t211 (!t215) a0_0 a0_1 a0_2)) else (spec_SlotPattern.j0 k a1 a2 t211 true a0_0 a0_1 a0_2)))) = some r := h; clear h; replace H := Option.bind_eq_some_iff.mp H; obtain ⟨t211, A40, H⟩ := H; try dsimp only at H
  have A4 := Aside0.mk A40; clear A40; have HC5 := Aside0.mk H; clear H; go_enter Try.func66, Try.ntmps66
  go_upto_region 2 with (first | ((with_reducible refine gate_dst (N := 3) rfl ?_); (try (refine gate_guard (by rfl) ?_; dsimp only)); refine box_event ?hg (N := 3) ?hd (cs := #[.int .i64 a0_0, .int .i64 a0_1, .string a0_2]) (t := 28) ?hr ?_; (case hd => rfl); (case hg => rfl); (case hr => first | (go_simp; done) | (go_simp; rfl)); intro gb210 hg w6 hbox hb; have BK210 := Aside0.mk (hbox); have GW210 := Aside0.mk ((by rw [hg]; exact (below_size z_g4) : w.heap.size ≤ gb210)); have GE210 := Aside0.mk ((by rw [hg]; exact (below_size z_g4) : w.heap.size ≤ gb210)); replace HB := Aside0.mk (below_step z_g4 hb); clear hb hbox hg; obtain ⟨hcz7_0, hcz7_1, hcz7_2, hfz7_0, hfz7_1, hfz7_2⟩ := bc3_g0 BK210.out) | ((with_reducible refine gate_callee (f := 45) rfl ?_); refine goesL_ (some 12) rfl rfl Try.func45 (by kernel_rfl) rfl #[.agg #[.int .i64 a0_0, .int .i64 a0_1, .string a0_2]] rfl z_g9 ?_; (with_reducible refine (spec_SlotsOf.calls k a0_0 a0_1 a0_2 t211 _ A4.out).mono ?_); rintro e w8 ⟨v212, rfl, ho0, hb⟩; refine ⟨_, rfl, ?_⟩; have HO213 := Aside0.mk (Kd.R_lower ho0 (below_size z12_1)); replace BK210 := Aside0.mk (blk_below (g := gb210) (o := .cells #[.int .i64 a0_0, .int .i64 a0_1, .string a0_2] 28 (0, 0)) (bd_g7 BK210.out) hb); replace HB := Aside0.mk (below_step z12_1 hb); (try clear hb); (try clear ho0)))
  (try simp only [Act.put, List.setIfInBounds_toArray, List.set_cons_zero, List.set_cons_succ])
  go_cut [24] (fun v24 wc => ∃ (kq : Nat) (x24_4 : Bool), v24 = .bool x24_4 ∧ Aside0 (spec_SlotPattern.j0 kq a1 a2 t211 x24_4 a0_0 a0_1 a0_2 = some r) ∧ Aside0 (kq ≤ k) ∧ Aside0 (Kd.R k65 65 wc w.heap.size (fun _ => True) v212 t211) ∧ Aside0 (wc.heap[gb210]? = some (.cells #[.int .i64 a0_0, .int .i64 a0_1, .string a0_2] 28 (0, 0))) ∧ Aside0 (Below w.heap.size w wc))
  case first =>
   have H := HC5.out; clear HC5; replace H := Option.bind_eq_some_iff.mp H; obtain ⟨t214, A90, H⟩ := H; try dsimp only at H
   have A9 := Aside0.mk A90; clear A90; by_cases c10 : t214 = true
   ·subst c10; rw [if_pos rfl] at H
    replace H := Option.bind_eq_some_iff.mp H; obtain ⟨t215, A110, H⟩ := H; try dsimp only at H
    have A11 := Aside0.mk A110; clear A110; have H' := Aside0.mk H
    clear H; obtain ⟨hcz12_0, hcz12_1, hcz12_2, hfz12_0, hfz12_1, hfz12_2⟩ := bc3_g0 BK210.out; go_wp2_with (first | ((with_reducible refine gate_callee (f := 42) rfl ?_); refine goesL_ (some 15) rfl rfl Try.func42 (by kernel_rfl) rfl #[.agg #[.int .i64 a0_0, .int .i64 a0_1, .string a0_2], .string a1] rfl z_g9 ?_; (with_reducible refine (spec_IsFill.calls k a0_0 a0_1 a0_2 a1 true _ A9.out).mono ?_); rintro e w13 ⟨rfl, hb⟩; refine ⟨_, rfl, ?_⟩; replace HO213 := Aside0.mk (Kd.R_below (kd_g8 HO213.out) hb); replace BK210 := Aside0.mk (blk_below (g := gb210) (o := .cells #[.int .i64 a0_0, .int .i64 a0_1, .string a0_2] 28 (0, 0)) (bd_g7 BK210.out) hb); replace HB := Aside0.mk (below_step z12_1 hb); (try clear hb); obtain ⟨Ao14, co14, eo14⟩ := Kd.R_slice HO213.out; subst eo14) | (go_at_call 44; (with_reducible refine (spec_l1In.calls a2 0 (wrap64 ((t211.length : Int) - 1)) t215 _ A11.out).mono ?_); rintro e w' ⟨rfl, ⟨nd, rfl⟩⟩))
    go_meet
    case rel => exact ⟨_, (!t215), (by first | rfl | (simp; done) | (simp [*]; done)), H', ⟨by first | omega | exact Nat.le_refl _⟩, ⟨by (with_reducible repeat (first | apply Kd.R_alloc | apply Kd.R_drewN | apply Kd.R_drew)); exact HO213.out⟩, ⟨by (with_reducible repeat (first | refine blk_drewN ?_ _ | refine blk_drew ?_ | refine blk_alloc ?_ _)); exact BK210.out⟩, ⟨z12_1⟩⟩
   ·replace c10 := Bool.eq_false_iff.mpr c10; subst c10; rw [if_neg (show ¬ (false = true) by decide)] at H
    have H' := Aside0.mk H
    clear H; obtain ⟨hcz15_0, hcz15_1, hcz15_2, hfz15_0, hfz15_1, hfz15_2⟩ := bc3_g0 BK210.out; go_wp2_with (first | ((with_reducible refine gate_callee (f := 42) rfl ?_); refine goesL_ (some 15) rfl rfl Try.func42 (by kernel_rfl) rfl #[.agg #[.int .i64 a0_0, .int .i64 a0_1, .string a0_2], .string a1] rfl z_g9 ?_; (with_reducible refine (spec_IsFill.calls k a0_0 a0_1 a0_2 a1 false _ A9.out).mono ?_); rintro e w16 ⟨rfl, hb⟩; refine ⟨_, rfl, ?_⟩; replace HO213 := Aside0.mk (Kd.R_below (kd_g8 HO213.out) hb); replace BK210 := Aside0.mk (blk_below (g := gb210) (o := .cells #[.int .i64 a0_0, .int .i64 a0_1, .string a0_2] 28 (0, 0)) (bd_g7 BK210.out) hb); replace HB := Aside0.mk (below_step z12_1 hb); (try clear hb)))
    go_meet
    case rel => exact ⟨_, (true), (by first | rfl | (simp; done) | (simp [*]; done)), H', ⟨by first | omega | exact Nat.le_refl _⟩, ⟨by (with_reducible repeat (first | apply Kd.R_alloc | apply Kd.R_drewN | apply Kd.R_drew)); exact HO213.out⟩, ⟨by (with_reducible repeat (first | refine blk_drewN ?_ _ | refine blk_drew ?_ | refine blk_alloc ?_ _)); exact BK210.out⟩, ⟨z12_1⟩⟩
  case rest =>
   clear HC5; try clear c1
   try clear p2
   try clear c4
   try clear c6
   try clear p6
   try clear c10
   try clear hcz12_0 hcz12_1 hcz12_2
   try clear hcz15_0 hcz15_1 hcz15_2
   try clear hcz7_0 hcz7_1 hcz7_2
   try clear hfz12_0 hfz12_1 hfz12_2
   try clear hfz15_0 hfz15_1 hfz15_2
   try clear hfz7_0 hfz7_1 hfz7_2
   obtain ⟨kq, x24_4, rfl, HA, HJ4, HO_7, BK210, HB⟩ := hcut
   cases kq with
   | zero => exact absurd HA.out (by simp [spec_SlotPattern.j0])
   | succ kj4 =>
    have H := HA.out; clear HA; simp only [spec_SlotPattern.j0] at H; by_cases c17 : x24_4 = true
    ·subst c17; rw [if_pos rfl] at H
     obtain rfl := Option.some.inj H; go_wp2
     go_ret
     exact ⟨by first | rfl | (simp [errW_none, errW_some] <;> rfl) | (simp [*, errW_none, errW_some] <;> rfl), z12_1⟩
    ·replace c17 := Bool.eq_false_iff.mpr c17; subst c17; rw [if_neg (show ¬ (false = true) by decide)] at H
     by_cases c18 : 0 ≤ a2
     ·rw [if_pos c18] at H
      have c18b0 := decide_eq_true c18; clear c18; by_cases c19 : a2 < (t211.length : Int)
      ·rw [if_pos c19] at H
       have c19b0 := decide_eq_true c19; clear c19; replace H := Option.bind_eq_some_iff.mp H; obtain ⟨t217, A200, H⟩ := H; try dsimp only at H
       have A20 := Aside0.mk A200; clear A200; have H' := Aside0.mk H
       clear H; try go_wp2
       replace HO_7 := Aside0.mk (Kd.R_drew HO_7.out); replace BK210 := Aside0.mk (blk_drew BK210.out); replace HB := Aside0.mk (below_drew1 HB.out); obtain ⟨Ao22, co22, eo22⟩ := Kd.R_slice HO_7.out; (first | subst eo22 | (injection eo22 with f1_ f2_ f3_; have f4_ := f1_.symm; have f5_ := f3_.symm; clear f1_ f2_ f3_; subst f4_; subst f5_))
       have p216 : 0 ≤ (a2 : Int) := of_decide_eq_true (by first | (with_reducible assumption) | assumption)
       have q216 : a2 < (t211.length : Int) := of_decide_eq_true (by first | (with_reducible assumption) | assumption)
       obtain ⟨ad216, e216, hx216_0, hx216_1, hx216_2, hx216_3⟩ := at_T65 (Kd.R_reads' HO_7.out).2.2 a2 p216 q216
       cases e216; replace p216 := eq_true p216; replace q216 := eq_true q216; refine start_ (n := 7) (S := fun w' => w'.cell? ⟨gb210, 0, none⟩ = some (.int .i64 a0_0) ∧ w'.cell? ⟨gb210, 1, none⟩ = some (.int .i64 a0_1) ∧ w'.cell? ⟨gb210, 2, none⟩ = some (.string a0_2) ∧ w'.cell? (ad216.add ((a2).toNat * 4)) = some (.int .i64 ((rd_T65 t211 a2).f0)) ∧ w'.cell? ⟨(ad216.add ((a2).toNat * 4)).block, (ad216.add ((a2).toNat * 4)).off + 1, none⟩ = some (.bool ((rd_T65 t211 a2).f1)) ∧ w'.cell? ⟨(ad216.add ((a2).toNat * 4)).block, (ad216.add ((a2).toNat * 4)).off + 2, none⟩ = some (.int .i64 ((rd_T65 t211 a2).f2)) ∧ w'.cell? ⟨(ad216.add ((a2).toNat * 4)).block, (ad216.add ((a2).toNat * 4)).off + 3, none⟩ = some (.int .i64 ((rd_T65 t211 a2).f3))) (ds := []) #[false, false, false, false, false, false, false] (by kernel_rfl) rfl rfl ⟨(blk_cell BK210.out 0).trans rfl, (blk_cell BK210.out 1).trans rfl, (blk_cell BK210.out 2).trans rfl, hx216_0, hx216_1, hx216_2, hx216_3⟩ (fun hHeld => ?_)
       generalize wc.drew = w21 at HO_7 BK210 HB hx216_0 hx216_1 hx216_2 hx216_3 hHeld ⊢
       refine pu_g5 1 (some 26) (by kernel_rfl) ?_
       refine pu_g5 2 (some 27) (by kernel_rfl) ?_
       refine pu_g5 3 (some 28) (by kernel_rfl) ?_
       refine tk_g6 0 (some 25) rfl (by kernel_rfl) (Or.inl ⟨by rfl, fun w' ⟨s0, s1, s2, s3, s4, s5, s6⟩ => by go_simp; with_reducible rfl⟩) hHeld ?_
       refine tk_g6 4 (some 29) rfl (by kernel_rfl) (Or.inl ⟨by rfl, fun w' ⟨s0, s1, s2, s3, s4, s5, s6⟩ => by go_simp; with_reducible rfl⟩) hHeld ?_
       refine one_ (i := 5) (N := some 30) #[true, true, true, true, true, true, false] rfl rfl (by kernel_rfl) (by decide) (fun K hK => ?_)
       refine goes_ Try.func46 (by kernel_rfl) rfl #[.agg #[.int .i64 a0_0, .int .i64 a0_1, .string a0_2], .agg #[.int .i64 ((rd_T65 t211 a2).f0), .bool ((rd_T65 t211 a2).f1), .int .i64 ((rd_T65 t211 a2).f2), .int .i64 ((rd_T65 t211 a2).f3)]] (by rfl) rfl rfl z_g9 ?_
       with_reducible refine (spec_CellsOf.calls kj4 a0_0 a0_1 a0_2 ((rd_T65 t211 a2).f0) ((rd_T65 t211 a2).f1) ((rd_T65 t211 a2).f2) ((rd_T65 t211 a2).f3) t217 _ A20.out).mono ?_
       rintro e w23 ⟨v218, rfl, ho0, hb⟩
       have HS3_ := (hb.cell (World.block_lt_of_cell? _ _ (hHeld.2.2.2.1))).trans (hHeld.2.2.2.1); have HS4_ := (hb.cell (World.block_lt_of_cell? _ _ (hHeld.2.2.2.2.1))).trans (hHeld.2.2.2.2.1); have HS5_ := (hb.cell (World.block_lt_of_cell? _ _ (hHeld.2.2.2.2.2.1))).trans (hHeld.2.2.2.2.2.1); have HS6_ := (hb.cell (World.block_lt_of_cell? _ _ (hHeld.2.2.2.2.2.2))).trans (hHeld.2.2.2.2.2.2); refine ⟨_, rfl, ?_⟩
       replace HO_7 := Aside0.mk (Kd.R_below (kd_g8 HO_7.out) hb); have HO219 := Aside0.mk (Kd.R_lower ho0 (below_size z12_1)); replace BK210 := Aside0.mk (blk_below (g := gb210) (o := .cells #[.int .i64 a0_0, .int .i64 a0_1, .string a0_2] 28 (0, 0)) (bd_g7 BK210.out) hb); replace HB := Aside0.mk (below_step z12_1 hb); (try clear hb)
       (try clear hb2)
       (try clear hk)
       (try clear hi)
       (try clear ho0)
       refine hK.out _ _ ⟨(blk_cell BK210.out 0).trans rfl, (blk_cell BK210.out 1).trans rfl, (blk_cell BK210.out 2).trans rfl, HS3_, HS4_, HS5_, HS6_⟩ (fun hHeld => ?_)
       clear hK K; refine norm_ (a' := ?_) ?_ ?_
       rotate_left
       ·show Act.put _ (some 30) _ = _
        simp only [Act.put, List.setIfInBounds_toArray, List.set_cons_zero, List.set_cons_succ, i64_w, i32_w]; rfl
       refine pu_g5 6 (some 9) (by kernel_rfl) ?_
       refine done_ (by kernel_rfl) ?_
       try go_wp2
       go_loopg [8, 10] kj4 (fun kq v8 v10 w' => ∃ (x8_2 : ByteArray) (x10_2 : Int), v8 = .string x8_2 ∧ v10 = .int .i64 x10_2 ∧ Aside0 (spec_SlotPattern.l0 kq a1 x8_2 t217 x10_2 = some r) ∧ Aside0 (kq ≤ kj4) ∧ Aside0 (Kd.R (Kd.int .i64) 3 w' w.heap.size (fun _ => True) v218 t217) ∧ Aside0 (w'.heap[gb210]? = some (.cells #[.int .i64 a0_0, .int .i64 a0_1, .string a0_2] 28 (0, 0))) ∧ Aside0 (Below w.heap.size w w'))
       case atStart => exact ⟨((⟨#[]⟩ : ByteArray)), (0), (by first | rfl | (simp; done) | (simp [*]; done)), (by first | rfl | (simp; done) | (simp [*]; done)), H', ⟨Nat.le_refl _⟩, ⟨by (with_reducible repeat (first | apply Kd.R_alloc | apply Kd.R_drewN | apply Kd.R_drew)); exact HO219.out⟩, ⟨by (with_reducible repeat (first | refine blk_drewN ?_ _ | refine blk_drew ?_ | refine blk_alloc ?_ _)); exact BK210.out⟩, ⟨z12_1⟩⟩
       case round =>
        clear H'; try clear c1
        try clear p2
        try clear q2
        try clear hx2
        try clear c4
        try clear c6
        try clear p6
        try clear c10
        try clear c17
        try clear c18
        try clear c18b0
        try clear c19
        try clear c19b0
        try clear p21
        try clear q21
        try clear hx21
        try clear hcz12_0 hcz12_1 hcz12_2
        try clear hcz15_0 hcz15_1 hcz15_2
        try clear hcz7_0 hcz7_1 hcz7_2
        try clear hfz12_0 hfz12_1 hfz12_2
        try clear hfz15_0 hfz15_1 hfz15_2
        try clear hfz7_0 hfz7_1 hfz7_2
        try clear hx216_0
        try clear hx216_1
        try clear hx216_2
        try clear hx216_3
        try clear p2
        try clear p216
        try clear p6
        try clear q216
        obtain ⟨x8_2, x10_2, rfl, rfl, HA, HK2, HO_9, BK210, HB⟩ := hrel
        cases gk with
        | zero => exact absurd HA.out (by simp [spec_SlotPattern.l0])
        | succ k2 =>
         have H := HA.out; clear HA; simp only [spec_SlotPattern.l0] at H; by_cases c24 : x10_2 < (t217.length : Int)
         ·rw [if_pos c24] at H
          have c24b0 := decide_eq_true c24; clear c24; by_cases c25 : 0 ≤ x10_2
          ·rw [if_pos c25] at H
           have c25b0 := decide_eq_true c25; clear c25; by_cases c26 : 0 ≤ (rd t217 x10_2)
           ·rw [if_pos c26] at H
            have c26b0 := eq_true c26; have c26b1 : decide (0 ≤ (rd t217 x10_2)) = true := decide_eq_true c26; clear c26; by_cases c27 : (rd t217 x10_2) ≤ (wrap64 ((rd t217 x10_2) + 1))
            ·rw [if_pos c27] at H
             have c27b0 := eq_true c27; have c27b1 : decide ((rd t217 x10_2) ≤ (wrap64 ((rd t217 x10_2) + 1))) = true := decide_eq_true c27; by_cases c28 : (wrap64 ((rd t217 x10_2) + 1)) ≤ (a1.size : Int)
             ·rw [if_pos c28] at H
              have c28b0 := eq_true c28; have c28b1 : decide ((wrap64 ((rd t217 x10_2) + 1)) ≤ (a1.size : Int)) = true := decide_eq_true c28; by_cases c29 : x8_2.size + (a1.extract ((rd t217 x10_2) : Int).toNat ((wrap64 ((rd t217 x10_2) + 1)) : Int).toNat).size ≤ 9223372036854775807
              ·rw [if_pos c29] at H
               have c29b0 := eq_true c29; have c29b1 : decide (x8_2.size + (a1.extract ((rd t217 x10_2) : Int).toNat ((wrap64 ((rd t217 x10_2) + 1)) : Int).toNat).size ≤ 9223372036854775807) = true := decide_eq_true c29; try have c29b2 : (9223372036854775807 < x8_2.size + (a1.extract ((rd t217 x10_2) : Int).toNat ((wrap64 ((rd t217 x10_2) + 1)) : Int).toNat).size) = False := eq_false (Nat.not_lt.2 c29)
               try have c29b3 : (9223372036854775807 < x8_2.size + ((wrap64 ((rd t217 x10_2) + 1)).toNat - (rd t217 x10_2).toNat)) = False := eq_false (by have q0_ : (wrap64 ((rd t217 x10_2) + 1) : Int) ≤ (a1.size : Int) := of_decide_eq_true (by first | (with_reducible assumption) | assumption); have h_ := c29; simp only [ByteArray.size_append, ByteArray.size_extract] at h_; omega)
               have H' := Aside0.mk H
               clear H; obtain ⟨Ao30, co30, eo30⟩ := Kd.R_slice HO_9.out; subst eo30; try go_wp2
               replace HO_9 := Aside0.mk (Kd.R_drew HO_9.out); replace BK210 := Aside0.mk (blk_drew BK210.out); replace HB := Aside0.mk (below_drew1 HB.out); have p220 : 0 ≤ (x10_2 : Int) := of_decide_eq_true (by first | (with_reducible assumption) | assumption)
               have q220 : x10_2 < (t217.length : Int) := of_decide_eq_true (by first | (with_reducible assumption) | assumption)
               obtain ⟨ad220, e220, hx220_0⟩ := Kd.at_int (Kd.R_reads' HO_9.out).2.2 x10_2 p220 q220
               cases e220; replace p220 := eq_true p220; replace q220 := eq_true q220; have p221 : 0 ≤ (x10_2 : Int) := of_decide_eq_true (by first | (with_reducible assumption) | assumption)
               have q221 : x10_2 < (t217.length : Int) := of_decide_eq_true (by first | (with_reducible assumption) | assumption)
               obtain ⟨ad221, e221, hx221_0⟩ := Kd.at_int (Kd.R_reads' HO_9.out).2.2 x10_2 p221 q221; obtain rfl : ad220 = ad221 := (by injection e221); replace p221 := eq_true p221; replace q221 := eq_true q221; refine start_ (n := 14) (S := fun w' => w'.cell? (ad220.add (x10_2).toNat) = some (.int .i64 (rd t217 x10_2)) ∧ w'.cell? (ad220.add (x10_2).toNat) = some (.int .i64 (rd t217 x10_2))) (ds := []) #[false, false, false, false, false, false, false, false, false, false, false, false, false, false] (by kernel_rfl) rfl rfl ⟨hx220_0, hx221_0⟩ (fun hHeld => ?_); refine with_tabW spec_SlotPattern.tab9 spec_SlotPattern.bits9 (fun HT_ HW_ => ?_)
               generalize wr.drew = w31 at HO_9 BK210 HB hx220_0 hx221_0 hHeld ⊢
               refine pu_g5 0 (some 37) (any_of HT_.out (by kernel_rfl)) ?_
               refine pu_g5 1 (some 38) (any_of HT_.out (by kernel_rfl)) ?_
               refine pu_g5 2 (some 39) (any_of HT_.out (by kernel_rfl)) ?_
               refine pu_g5 3 (some 40) (any_of HT_.out (by kernel_rfl)) ?_
               refine pu_g5 4 (some 41) (any_of HT_.out (by kernel_rfl)) ?_
               refine pu_g5 6 (some 43) (any_of HT_.out (by kernel_rfl)) ?_
               refine pu_g5 7 (some 44) (any_of HT_.out (by kernel_rfl)) ?_
               refine pu_g5 8 (some 45) (any_of HT_.out (by kernel_rfl)) ?_
               refine tk_g6 5 (some 42) rfl (take_ofW HT_.out HW_.out (by kernel_rfl)) (Or.inl ⟨by rfl, fun w' ⟨s0, s1⟩ => by go_simp; with_reducible rfl⟩) hHeld ?_
               refine tk_g6 9 (some 46) rfl (take_ofW HT_.out HW_.out (by kernel_rfl)) (Or.inl ⟨by rfl, fun w' ⟨s0, s1⟩ => by go_simp; with_reducible rfl⟩) hHeld ?_
               refine pu_g5 10 (some 47) (any_of HT_.out (by kernel_rfl)) ?_
               refine pu_g5 11 (some 48) (any_of HT_.out (by kernel_rfl)) ?_
               refine pu_g5 12 (some 49) (any_of HT_.out (by kernel_rfl)) ?_
               refine pu_g5 13 (some 8) (any_of HT_.out (by kernel_rfl)) ?_
               refine done_ (done_of HT_.out (by kernel_rfl)) ?_
               try go_wp2
               go_roundg k2
               case measure => have := HJ4.out; have := HK2.out; omega
               case rel => exact ⟨(x8_2 ++ (a1.extract ((rd t217 x10_2) : Int).toNat ((wrap64 ((rd t217 x10_2) + 1)) : Int).toNat)), (wrap64 (x10_2 + 1)), (by first | rfl | (simp; done) | (simp [*]; done)), (by first | rfl | (simp; done) | (simp [*]; done)), H', ⟨by have := HJ4.out; have := HK2.out; omega⟩, ⟨by (with_reducible repeat (first | apply Kd.R_alloc | apply Kd.R_drewN | apply Kd.R_drew)); exact HO_9.out⟩, ⟨by (with_reducible repeat (first | refine blk_drewN ?_ _ | refine blk_drew ?_ | refine blk_alloc ?_ _)); exact BK210.out⟩, ⟨z12_1⟩⟩
              ·rw [if_neg c29] at H
               exact absurd H (by simp)
             ·rw [if_neg c28] at H
              exact absurd H (by simp)
            ·rw [if_neg c27] at H
             exact absurd H (by simp)
           ·rw [if_neg c26] at H
            exact absurd H (by simp)
          ·rw [if_neg c25] at H
           exact absurd H (by simp)
         ·rw [if_neg c24] at H
          have c24b0 := decide_eq_false c24; clear c24; obtain rfl := Option.some.inj H; obtain ⟨Ao32, co32, eo32⟩ := Kd.R_slice HO_9.out; subst eo32; go_wp2
          go_ret
          exact ⟨by first | rfl | (simp [errW_none, errW_some] <;> rfl) | (simp [*, errW_none, errW_some] <;> rfl), z12_1⟩
      ·rw [if_neg c19] at H
       exact absurd H (by simp)
     ·rw [if_neg c18] at H
      exact absurd H (by simp)

/-! ### spec_DomainsOf: function 31 -/
mutual
def spec_DomainsOf.l0 : Nat → ByteArray → List ByteArray → List (List ByteArray) → List (S65) → Int → Int → Int → ByteArray → Option ((List (List ByteArray)))
  | 0, _, _, _, _, _, _, _, _ => none
  | k + 1, x1, x2, x7, x8, x9, x223000, x223001, x223002 => if x9 < (x8.length : Int) then ((spec_IsFill.f k x223000 x223001 x223002 x1).bind fun t229 => (spec_DomainsOf.j1 k x1 x2 x7 x8 x9 t229 x223000 x223001 x223002)) else (spec_DomainsOf.j1 k x1 x2 x7 x8 x9 false x223000 x223001 x223002)
def spec_DomainsOf.j1 : Nat → ByteArray → List ByteArray → List (List ByteArray) → List (S65) → Int → Bool → Int → Int → ByteArray → Option ((List (List ByteArray)))
  | 0, _, _, _, _, _, _, _, _, _ => none
  | k + 1, x1, x2, x7, x8, x9, x21, x223000, x223001, x223002 => if x21 = true then ((spec_SlotPattern.f k x223000 x223001 x223002 x1 x9).bind fun t230 => ((spec_WordsFitting.f k x2 t230).bind fun t231 => (if x7.length < 5864062014805 then (spec_DomainsOf.l0 k x1 x2 (x7 ++ [t231]) x8 (wrap64 (x9 + 1)) x223000 x223001 x223002) else (none)))) else (some x7)
end
def spec_DomainsOf.f (k : Nat) (a0_0 : Int) (a0_1 : Int) (a0_2 : ByteArray) (a1 : ByteArray) (l2 : List ByteArray) : Option ((List (List ByteArray))) := (spec_SlotsOf.f k a0_0 a0_1 a0_2).bind fun t226 => (spec_DomainsOf.l0 k a1 l2 (([] : List (List ByteArray))) t226 0 a0_0 a0_1 a0_2)
theorem spec_DomainsOf.calls (k : Nat) (a0_0 : Int) (a0_1 : Int) (a0_2 : ByteArray) (a1 : ByteArray) (A2 : Option Addr) (c2 : Nat) (l2 : List ByteArray) (r : List (List ByteArray)) (w : World) (hr2 : Kd.C Kd.string w A2 l2.length l2) (hc2 : l2.length ≤ c2) (h : spec_DomainsOf.f k a0_0 a0_1 a0_2 a1 l2 = some r) :
   Calls Try.prog 31 #[.agg #[.int .i64 a0_0, .int .i64 a0_1, .string a0_2], .string a1, .slice A2 l2.length c2] w fun e w' => ∃ v0_ : Value, e = .returned (v0_) ∧ Kd.S (Kd.slice 9 Kd.string) 24 w' w.heap.size (fun _ => True) v0_ r ∧ Below w.heap.size w w' := by
  have hu28 := Try.underlying28; have HR2 := Aside0.mk hr2; have HC2 := Aside0.mk hc2; clear hr2 hc2; have HB := Aside0.mk (Below.refl w.heap.size w); have H : ((spec_SlotsOf.f k a0_0 a0_1 a0_2).bind fun t226 => (spec_DomainsOf.l0 k a1 l2 (([] : List (List ByteArray))) t226 0 a0_0 a0_1 a0_2)) = some r := h; clear h; obtain ⟨y223, hy223⟩ : ∃ y_ : List (List ByteArray), y_ = (([] : List (List ByteArray))) := ⟨_, rfl⟩; replace H : ((spec_SlotsOf.f k a0_0 a0_1 a0_2).bind fun t226 => (spec_DomainsOf.l0 k a1 l2 y223 t226 0 a0_0 a0_1 a0_2)) = some r := by first | (rw [hy223]; with_reducible exact H) | (have H2_ := (Option.bind_some _ _).symm.trans H; rw [hy223]; with_reducible exact H2_) | (have H2_ := (Option.bind_some _ _).symm.trans H; with_reducible exact H2_) | with_reducible exact H | (rw [hy223]; exact H) | exact H
  have Ny223 := Aside0.mk hy223; clear hy223; replace H := Option.bind_eq_some_iff.mp H; obtain ⟨t226, A40, H⟩ := H; try dsimp only at H
  have A4 := Aside0.mk A40; clear A40; have H' := Aside0.mk H
  clear H; go_enter Try.func31, Try.ntmps31
  go_wp2_with (first | ((with_reducible refine gate_dst (N := 3) rfl ?_); refine box_event ?hg (N := 3) ?hd (cs := #[.int .i64 a0_0, .int .i64 a0_1, .string a0_2]) (t := 28) ?hr ?_; (case hd => rfl); (case hg => rfl); (case hr => first | (go_simp; done) | (go_simp; rfl)); intro gb222 hg w5 hbox hb; have BK222 := Aside0.mk (hbox); have GW222 := Aside0.mk ((by rw [hg]; exact (below_size z_g4) : w.heap.size ≤ gb222)); have GE222 := Aside0.mk ((by rw [hg]; exact (below_size z_g4) : w.heap.size ≤ gb222)); replace HB := Aside0.mk (below_step z_g4 hb); clear hb hbox hg) | ((with_reducible refine gate_dst (N := 10) rfl ?_); refine Kd.S_lit (Kd.slice 9 Kd.string) _ 24 ?hg (N := 10) ?hd (xs := ([] : List (List ByteArray))) (inner := []) (ok := fun _ => True) (okp := fun _ => True) ?hr ?hp (fun _ hk => hk) trivial (Below.refl _ _) (Nat.le_refl _) (by simp) ?_; (case hd => rfl); (case hg => rfl); (case hr => first | (go_simp; done) | (go_simp; rfl)); (case hp => exact (Reps.none _ _)); intro v224 w6 ho7 hb hg_ hnew_; clear hg_ hnew_; (first | rw [← Ny223.out] at ho7 | (simp only [Int.reduceToNat] at ho7; rw [← Ny223.out] at ho7)); have HO225 := Aside0.mk (Kd.S_lower ho7 (below_size z12_0)); replace BK222 := Aside0.mk (blk_below (g := gb222) (o := .cells #[.int .i64 a0_0, .int .i64 a0_1, .string a0_2] 28 (0, 0)) (bd_g7 BK222.out) hb); replace HB := Aside0.mk (below_step z12_0 hb); clear hb ho7; obtain ⟨hcz8_0, hcz8_1, hcz8_2, hfz8_0, hfz8_1, hfz8_2⟩ := bc3_g0 BK222.out) | ((with_reducible refine gate_callee (f := 45) rfl ?_); refine goesL_ (some 12) rfl rfl Try.func45 (by kernel_rfl) rfl #[.agg #[.int .i64 a0_0, .int .i64 a0_1, .string a0_2]] rfl z_g9 ?_; (with_reducible refine (spec_SlotsOf.calls k a0_0 a0_1 a0_2 t226 _ A4.out).mono ?_); rintro e w9 ⟨v227, rfl, ho0, hb⟩; refine ⟨_, rfl, ?_⟩; replace HO225 := Aside0.mk (Kd.S_below (by (with_reducible repeat (first | apply Kd.S_alloc | apply Kd.S_drewN | apply Kd.S_drew)); exact HO225.out) hb); have HO228 := Aside0.mk (Kd.R_lower ho0 (below_size z12_0)); replace BK222 := Aside0.mk (blk_below (g := gb222) (o := .cells #[.int .i64 a0_0, .int .i64 a0_1, .string a0_2] 28 (0, 0)) (bd_g7 BK222.out) hb); replace HB := Aside0.mk (below_step z12_0 hb); (try clear hb); (try clear ho0)))
  go_loopg [7, 9] k (fun kq v7 v9 w' => ∃ (x7_1 : List (List ByteArray)) (x9_1 : Int), v9 = .int .i64 x9_1 ∧ Aside0 (spec_DomainsOf.l0 kq a1 l2 x7_1 t226 x9_1 a0_0 a0_1 a0_2 = some r) ∧ Aside0 (kq ≤ k) ∧ Aside0 (Kd.S (Kd.slice 9 Kd.string) 24 w' w.heap.size (fun _ => True) v7 x7_1) ∧ Aside0 (Kd.R k65 65 w' w.heap.size (fun _ => True) v227 t226) ∧ Aside0 (w'.heap[gb222]? = some (.cells #[.int .i64 a0_0, .int .i64 a0_1, .string a0_2] 28 (0, 0))) ∧ Aside0 (Below w.heap.size w w'))
  case atStart => exact ⟨(y223), (0), (by first | rfl | (simp; done) | (simp [*]; done)), H', ⟨Nat.le_refl _⟩, ⟨by (with_reducible repeat (first | apply Kd.S_alloc | apply Kd.S_drewN | apply Kd.S_drew)); exact HO225.out⟩, ⟨by (with_reducible repeat (first | apply Kd.R_alloc | apply Kd.R_drewN | apply Kd.R_drew)); exact HO228.out⟩, ⟨by (with_reducible repeat (first | refine blk_drewN ?_ _ | refine blk_drew ?_ | refine blk_alloc ?_ _)); exact BK222.out⟩, ⟨z12_0⟩⟩
  case round =>
   clear H'; try clear c2
   try clear p2
   try clear c3
   try clear c4
   try clear hcz8_0 hcz8_1 hcz8_2 hfz8_0 hfz8_1 hfz8_2
   obtain ⟨x7_1, x9_1, rfl, HA, HK1, HO_7, HO_8, BK222, HB⟩ := hrel
   cases gk with
   | zero => exact absurd HA.out (by simp [spec_DomainsOf.l0])
   | succ k1 =>
    have H := HA.out; clear HA; simp only [spec_DomainsOf.l0] at H; have HC10 := Aside0.mk H; clear H; go_upto_region 4 with (fail)
    go_cut [21] (fun v21 wc => ∃ (kq : Nat) (x21_9 : Bool), v21 = .bool x21_9 ∧ Aside0 (spec_DomainsOf.j1 kq a1 l2 x7_1 t226 x9_1 x21_9 a0_0 a0_1 a0_2 = some r) ∧ Aside0 (kq ≤ k1) ∧ Aside0 (Kd.S (Kd.slice 9 Kd.string) 24 wc w.heap.size (fun _ => True) u7 x7_1) ∧ Aside0 (Kd.R k65 65 wc w.heap.size (fun _ => True) v227 t226) ∧ Aside0 (wc.heap[gb222]? = some (.cells #[.int .i64 a0_0, .int .i64 a0_1, .string a0_2] 28 (0, 0))) ∧ Aside0 (Below w.heap.size w wc))
    case first =>
     have H := HC10.out; clear HC10; by_cases c11 : x9_1 < (t226.length : Int)
     ·rw [if_pos c11] at H
      have c11b0 := decide_eq_true c11; clear c11; (first | rw [c11b0] | (simp only [i64_w, i32_w]; rw [c11b0]) | skip)
      replace H := Option.bind_eq_some_iff.mp H; obtain ⟨t229, A120, H⟩ := H; try dsimp only at H
      have A12 := Aside0.mk A120; clear A120; have H' := Aside0.mk H
      clear H; obtain ⟨Ao13, co13, eo13⟩ := Kd.R_slice HO_8.out; subst eo13; obtain ⟨hcz14_0, hcz14_1, hcz14_2, hfz14_0, hfz14_1, hfz14_2⟩ := bc3_g0 BK222.out; go_wp2_with (first | (go_at_call 42; (with_reducible refine (spec_IsFill.calls k1 a0_0 a0_1 a0_2 a1 t229 _ A12.out).mono ?_); rintro e w15 ⟨rfl, hb⟩; replace HO_7 := Aside0.mk (Kd.S_below z12_4 hb); replace HO_8 := Aside0.mk (Kd.R_below (kd_g8 HO_8.out) hb); replace BK222 := Aside0.mk (blk_below (g := gb222) (o := .cells #[.int .i64 a0_0, .int .i64 a0_1, .string a0_2] 28 (0, 0)) (bd_g7 BK222.out) hb); replace HB := Aside0.mk (below_step z12_0 hb); (try clear hb)))
      go_meet
      case rel => exact ⟨_, (t229), (by first | rfl | (simp; done) | (simp [*]; done)), H', ⟨by have := HK1.out; first | omega | exact Nat.le_refl _⟩, ⟨z12_4⟩, ⟨by (with_reducible repeat (first | apply Kd.R_alloc | apply Kd.R_drewN | apply Kd.R_drew)); exact HO_8.out⟩, ⟨by (with_reducible repeat (first | refine blk_drewN ?_ _ | refine blk_drew ?_ | refine blk_alloc ?_ _)); exact BK222.out⟩, ⟨z12_0⟩⟩
     ·rw [if_neg c11] at H
      have c11b0 := decide_eq_false c11; clear c11; (first | rw [c11b0] | (simp only [i64_w, i32_w]; rw [c11b0]) | skip)
      have H' := Aside0.mk H
      clear H; obtain ⟨Ao16, co16, eo16⟩ := Kd.R_slice HO_8.out; subst eo16; go_wp2
      go_meet
      case rel => exact ⟨_, (false), (by first | rfl | (simp; done) | (simp [*]; done)), H', ⟨by have := HK1.out; first | omega | exact Nat.le_refl _⟩, ⟨z12_4⟩, ⟨by (with_reducible repeat (first | apply Kd.R_alloc | apply Kd.R_drewN | apply Kd.R_drew)); exact HO_8.out⟩, ⟨by (with_reducible repeat (first | refine blk_drewN ?_ _ | refine blk_drew ?_ | refine blk_alloc ?_ _)); exact BK222.out⟩, ⟨z12_0⟩⟩
    case rest =>
     clear HC10; try clear c1
     try clear c2
     try clear p2
     try clear c3
     try clear c4
     try clear c11
     try clear c11b0
     try clear hcz14_0 hcz14_1 hcz14_2
     try clear hcz8_0 hcz8_1 hcz8_2
     try clear hfz14_0 hfz14_1 hfz14_2
     try clear hfz8_0 hfz8_1 hfz8_2
     try clear p2
     obtain ⟨kq, x21_9, rfl, HA, HJ9, HO_7, HO_8, BK222, HB⟩ := hcut
     cases kq with
     | zero => exact absurd HA.out (by simp [spec_DomainsOf.j1])
     | succ kj9 =>
      have H := HA.out; clear HA; simp only [spec_DomainsOf.j1] at H; by_cases c17 : x21_9 = true
      ·subst c17; rw [if_pos rfl] at H
       replace H := Option.bind_eq_some_iff.mp H; obtain ⟨t230, A180, H⟩ := H; try dsimp only at H
       have A18 := Aside0.mk A180; clear A180; replace H := Option.bind_eq_some_iff.mp H; obtain ⟨t231, A190, H⟩ := H; try dsimp only at H
       have A19 := Aside0.mk A190; clear A190; by_cases c20 : x7_1.length < 5864062014805
       ·rw [if_pos c20] at H
        have LMc20 := Aside0.mk c20; clear c20; obtain ⟨y234, hy234⟩ : ∃ y_ : List (List ByteArray), y_ = (x7_1 ++ [t231]) := ⟨_, rfl⟩; replace H : (spec_DomainsOf.l0 kj9 a1 l2 y234 t226 (wrap64 (x9_1 + 1)) a0_0 a0_1 a0_2) = some r := by first | (rw [hy234]; with_reducible exact H) | (have H2_ := (Option.bind_some _ _).symm.trans H; rw [hy234]; with_reducible exact H2_) | (have H2_ := (Option.bind_some _ _).symm.trans H; with_reducible exact H2_) | with_reducible exact H | (rw [hy234]; exact H) | exact H
        have Ny234 := Aside0.mk hy234; clear hy234; have H' := Aside0.mk H
        clear H; obtain ⟨hcz21_0, hcz21_1, hcz21_2, hfz21_0, hfz21_1, hfz21_2⟩ := bc3_g0 BK222.out; go_wp2_with (first | ((with_reducible refine gate_callee (f := 66) rfl ?_); refine goesL_ (some 29) rfl rfl Try.func66 (by kernel_rfl) rfl #[.agg #[.int .i64 a0_0, .int .i64 a0_1, .string a0_2], .string a1, .int .i64 x9_1] rfl z_g9 ?_; (with_reducible refine (spec_SlotPattern.calls kj9 a0_0 a0_1 a0_2 a1 x9_1 t230 _ A18.out).mono ?_); rintro e w22 ⟨rfl, hb⟩; refine ⟨_, rfl, ?_⟩; replace HO_7 := Aside0.mk (Kd.S_below z12_4 hb); replace HO_8 := Aside0.mk (Kd.R_below (kd_g8 HO_8.out) hb); replace BK222 := Aside0.mk (blk_below (g := gb222) (o := .cells #[.int .i64 a0_0, .int .i64 a0_1, .string a0_2] 28 (0, 0)) (bd_g7 BK222.out) hb); replace HB := Aside0.mk (below_step z12_0 hb); (try clear hb)) | ((with_reducible refine gate_callee (f := 65) rfl ?_); refine goesL_ (some 30) rfl rfl Try.func65 (by kernel_rfl) rfl #[.slice A2 l2.length c2, .string t230] rfl z_g9 ?_; (with_reducible refine (spec_WordsFitting.calls kj9 _ _ l2 t230 t231 _ ?side1 ?side2 A19.out).mono ?_); (case side1 => repeat (first | exact (Kd.C_below HR2.out HB.out) | (with_reducible refine Kd.C_alloc ?_ _) | (with_reducible refine Kd.C_drewN ?_ _) | (with_reducible refine Kd.C_drew ?_))); (case side2 => exact HC2.out); rintro e w23 ⟨v232, rfl, ho0, hb⟩; refine ⟨_, rfl, ?_⟩; replace HO_7 := Aside0.mk (Kd.S_elder' z12_4 (Kd.R_base ho0) hb); replace HO_8 := Aside0.mk (Kd.R_below (kd_g8 HO_8.out) hb); have HO233 := Aside0.mk (Kd.R_lower ho0 (below_size z12_0)); replace BK222 := Aside0.mk (blk_below (g := gb222) (o := .cells #[.int .i64 a0_0, .int .i64 a0_1, .string a0_2] 28 (0, 0)) (bd_g7 BK222.out) hb); replace HB := Aside0.mk (below_step z12_0 hb); (try clear hb); (try clear ho0); obtain ⟨Ao25, co25, eo25⟩ := Kd.R_slice HO233.out; subst eo25) | ((with_reducible refine gate_builtin (b := .append) (xs := #[.tmp 24, .tmp 31]) rfl ?_); at_builtin; refine Kd.S_append (Kd.slice 9 Kd.string) (w0 := w) w.heap.size rfl (.tmp 24) (.tmp 31) 48 24 (.slice none 0 0) 24 rfl Try.underlying48 info24 rfl (by decide) (by omega) u7 x7_1 t231 [.slice Ao25 t231.length co25] (fun _ => True) (fun k_ => some k_ = (.slice Ao25 t231.length co25 : Value).ownBlock) rfl rfl ?aP (fun k_ hk_ => ((Kd.R_mono (ok' := fun k_ => ((fun _ => True)) k_ ∧ some k_ ≠ (u7 : Value).ownBlock) (Kd.R_apart' (HO233.out) (Kd.S_typed HO_7.out) (by decide)) (fun k_ hk => ⟨trivial, hk.2⟩))).1 k_ hk_.symm) ?aF ?aO ?aB ?aS ?aL ?_; (case aP => exact Kd.M_row (Kd.R_mono (Kd.R_tight rfl (Kd.R_mono (ok' := fun k_ => ((fun _ => True)) k_ ∧ some k_ ≠ (u7 : Value).ownBlock) (Kd.R_apart' (HO233.out) (Kd.S_typed HO_7.out) (by decide)) (fun k_ hk => ⟨trivial, hk.2⟩))) (fun _ h_ => h_))); (case aB => exact z12_0); (case aF => exact (fun _ _ => trivial)); (case aO => exact (by (with_reducible repeat (first | apply Kd.S_alloc | apply Kd.S_drewN | apply Kd.S_drew)); exact Kd.S_mono HO_7.out (fun k_ hk => ⟨trivial, fun e_ => hk.2 e_⟩))); (case aS => exact (below_size z12_0)); (case aL => have := LMc20.out; omega); intro v235 w24 ho hb hg hat; rw [← Ny234.out] at ho; have n0_ := Aside0.mk (Kd.R_over' (kd_g8 HO_8.out) (Kd.S_typed z12_4) (by decide) hg); have n1_ := Aside0.mk (blk_grown (g := gb222) (o := .cells #[.int .i64 a0_0, .int .i64 a0_1, .string a0_2] 28 (0, 0)) (bd_g7 BK222.out) hg (Kd.S_ne HO_7.out BK222.out (by decide))); have n2_ := Aside0.mk (hb); have n3_ := Aside0.mk (ho); clear HO_8; clear BK222; clear HB; clear HO_7; clear HO233; have HO_8 := n0_; have BK222 := n1_; have HB := n2_; have HO236 := n3_; clear n0_ n1_ n2_ n3_; clear ho hb hg hat))
        go_roundg kj9
        case measure => have := HK1.out; have := HJ9.out; omega
        case rel => exact ⟨(y234), (wrap64 (x9_1 + 1)), (by first | rfl | (simp; done) | (simp [*]; done)), H', ⟨by have := HK1.out; have := HJ9.out; omega⟩, ⟨by (with_reducible repeat (first | apply Kd.S_alloc | apply Kd.S_drewN | apply Kd.S_drew)); exact HO236.out⟩, ⟨by (with_reducible repeat (first | apply Kd.R_alloc | apply Kd.R_drewN | apply Kd.R_drew)); exact HO_8.out⟩, ⟨by (with_reducible repeat (first | refine blk_drewN ?_ _ | refine blk_drew ?_ | refine blk_alloc ?_ _)); exact BK222.out⟩, ⟨z12_0⟩⟩
       ·rw [if_neg c20] at H
        exact absurd H (by simp)
      ·replace c17 := Bool.eq_false_iff.mpr c17; subst c17; rw [if_neg (show ¬ (false = true) by decide)] at H
       obtain rfl := Option.some.inj H; go_wp2
       go_ret
       exact ⟨_, by first | rfl | (simp [errW_none, errW_some] <;> rfl) | (simp [*, errW_none, errW_some] <;> rfl), z12_4, z12_0⟩

/-! ### spec_l1Byte: function 118 -/
def spec_l1Byte.f (s0_0 : List Int) (s0_1 : Int) (s0_2 : Int) : Option (Int × Int × Int) := if s0_1 < (s0_0.length : Int) then (if 0 ≤ s0_1 then (some (Go.bits .and .i64 (wrap64 ((Go.bits .and .i64 (Go.bits .xor .i64 ((wrap64 ((wrap64 (s0_2 * 6364136223846793005)) + 1442695040888963407)) / 8589934592) ((wrap64 ((wrap64 (s0_2 * 6364136223846793005)) + 1442695040888963407)) / 140737488355328)) 255) + (wrap64 (rd s0_0 s0_1)))) 255, wrap64 (s0_1 + 1), wrap64 ((wrap64 (s0_2 * 6364136223846793005)) + 1442695040888963407))) else (none)) else (some (Go.bits .and .i64 (Go.bits .xor .i64 ((wrap64 ((wrap64 (s0_2 * 6364136223846793005)) + 1442695040888963407)) / 8589934592) ((wrap64 ((wrap64 (s0_2 * 6364136223846793005)) + 1442695040888963407)) / 140737488355328)) 255, s0_1, wrap64 ((wrap64 (s0_2 * 6364136223846793005)) + 1442695040888963407)))
theorem spec_l1Byte.calls (g : Nat) (s0_0 : List Int) (s0_1 : Int) (s0_2 : Int) (r1 : Int) (r2 : Int) (r3 : Int) (w0 w : World) (hI : IsS103 w0 w g s0_0 s0_1 s0_2) (hB : Below w0.heap.size w0 w) (h : spec_l1Byte.f s0_0 s0_1 s0_2 = some (r1, r2, r3)) :
   Calls Try.prog 118 #[.pointer (some ⟨g, 0, none⟩)] w fun e w' => e = .returned (.int .i64 r1) ∧ IsS103 w0 w' g s0_0 r2 r3 ∧ Below w0.heap.size w0 w' ∧ KeepBut w w' g none := by
  have HI0 := Aside0.mk hI; have HK := Aside0.mk (KeepBut.refl w g none); have HL := Aside0.mk hB.size; clear hI; have HW0 := Aside0.mk hB.size; have HB := Aside0.mk hB; clear hB; have H : (if s0_1 < (s0_0.length : Int) then (if 0 ≤ s0_1 then (some (Go.bits .and .i64 (wrap64 ((Go.bits .and .i64 (Go.bits .xor .i64 ((wrap64 ((wrap64 (s0_2 * 6364136223846793005)) + 1442695040888963407)) / 8589934592) ((wrap64 ((wrap64 (s0_2 * 6364136223846793005)) + 1442695040888963407)) / 140737488355328)) 255) + (wrap64 (rd s0_0 s0_1)))) 255, wrap64 (s0_1 + 1), wrap64 ((wrap64 (s0_2 * 6364136223846793005)) + 1442695040888963407))) else (none)) else (some (Go.bits .and .i64 (Go.bits .xor .i64 ((wrap64 ((wrap64 (s0_2 * 6364136223846793005)) + 1442695040888963407)) / 8589934592) ((wrap64 ((wrap64 (s0_2 * 6364136223846793005)) + 1442695040888963407)) / 140737488355328)) 255, s0_1, wrap64 ((wrap64 (s0_2 * 6364136223846793005)) + 1442695040888963407)))) = some (r1, r2, r3) := h; clear h; by_cases c2 : s0_1 < (s0_0.length : Int)
  ·rw [if_pos c2] at H
   have c2b0 := decide_eq_true c2; clear c2; by_cases c3 : 0 ≤ s0_1
   ·rw [if_pos c3] at H
    have c3b0 := decide_eq_true c3; clear c3; simp only [Option.some.injEq, Prod.mk.injEq] at H; obtain ⟨rfl, rfl, rfl⟩ := H; obtain ⟨ASz4_0, cSz4_0, HGz4, hgz4, HSz4_0⟩ := HI0.out; have hcz4_0 := cellS103_0 HGz4; have hcz4_1 := cellS103_1 HGz4; have hcz4_2 := cellS103_2 HGz4; have hfz4_1 := blk_frozen HGz4 1; have hfz4_2 := blk_frozen HGz4 2; clear HGz4 hgz4; have p237 : 0 ≤ (s0_1 : Int) := of_decide_eq_true (by first | (with_reducible assumption) | assumption)
    have q237 : s0_1 < (s0_0.length : Int) := of_decide_eq_true (by first | (with_reducible assumption) | assumption)
    obtain ⟨ad237, e237, hx237_0⟩ := Kd.at_int HSz4_0 s0_1 p237 q237
    cases e237; have hn237_0 : ad237.block ≠ g := Nat.ne_of_lt (Nat.lt_of_lt_of_le (by have := World.block_lt_of_cell? _ _ hx237_0; first | rwa [add_block] at this | exact this) (IsS103.ge HI0.out))
    replace hx237_0 := pw_cell_below HB.out hx237_0; replace hx237_0 := (cell_far (p := ⟨g, 2, none⟩) (by first | (rw [add_block]; exact hn237_0) | (show (Addr.add _ _).block ≠ _; rw [add_block]; exact hn237_0) | exact hn237_0) (.int .i64 (wrap64 ((wrap64 (s0_2 * 6364136223846793005)) + 1442695040888963407)))).trans hx237_0
    (try have hy237_0 := fun (n_ : Nat) => (show (((w.drewN n_).setCell ⟨g, 2, none⟩ (.int .i64 (wrap64 ((wrap64 (s0_2 * 6364136223846793005)) + 1442695040888963407))))).cell? _ = some _ from hx237_0))
    clear hn237_0; replace p237 := eq_true p237; replace q237 := eq_true q237; go_enter Try.func118, Try.ntmps118
    go_wp2
    repeat (go_quiet (fail); try go_wp2)
    go_ret
    exact ⟨by first | rfl | (simp [errW_none, errW_some] <;> rfl) | (simp [*, errW_none, errW_some] <;> rfl), by repeat (first | (with_reducible first | exact HI0.out | apply IsS103.alloc | apply IsS103.drewN | apply IsS103.drew | apply IsS103.set_1 | apply IsS103.set_2) | exact HI0.out), by repeat (first | (with_reducible first | exact HB.out | apply below_alloc | apply pw_below_drewN | apply below_drew1 | refine below_set ?_ (IsS103.ge HI0.out)) | exact HB.out), by repeat (first | (with_reducible first | exact HK.out | apply KeepBut.set_ | apply keep_drewN | apply keep_drew | apply keep_alloc) | exact HK.out)⟩
   ·rw [if_neg c3] at H
    exact absurd H (by simp)
  ·rw [if_neg c2] at H
   have c2b0 := decide_eq_false c2; clear c2; simp only [Option.some.injEq, Prod.mk.injEq] at H; obtain ⟨rfl, rfl, rfl⟩ := H; obtain ⟨ASz5_0, cSz5_0, HGz5, hgz5, HSz5_0⟩ := HI0.out; have hcz5_0 := cellS103_0 HGz5; have hcz5_1 := cellS103_1 HGz5; have hcz5_2 := cellS103_2 HGz5; have hfz5_1 := blk_frozen HGz5 1; have hfz5_2 := blk_frozen HGz5 2; clear HGz5 hgz5; go_enter Try.func118, Try.ntmps118
   go_wp2
   repeat (go_quiet (fail); try go_wp2)
   go_ret
   exact ⟨by first | rfl | (simp [errW_none, errW_some] <;> rfl) | (simp [*, errW_none, errW_some] <;> rfl), by repeat (first | (with_reducible first | exact HI0.out | apply IsS103.alloc | apply IsS103.drewN | apply IsS103.drew | apply IsS103.set_1 | apply IsS103.set_2) | exact HI0.out), by repeat (first | (with_reducible first | exact HB.out | apply below_alloc | apply pw_below_drewN | apply below_drew1 | refine below_set ?_ (IsS103.ge HI0.out)) | exact HB.out), by repeat (first | (with_reducible first | exact HK.out | apply KeepBut.set_ | apply keep_drewN | apply keep_drew | apply keep_alloc) | exact HK.out)⟩

end Go.Proofs.Ytodcckiphdnjeaa.QFnPruned
