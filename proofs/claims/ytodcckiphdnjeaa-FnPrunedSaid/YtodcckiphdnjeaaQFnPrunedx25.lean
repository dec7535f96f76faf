-- Written by a changed copy of the kit's printer (wip/mp.py of this repo), for this claim; Lean checks it.
import Derived.Test.YtodcckiphdnjeaaQFnPrunedx0
import Derived.Test.YtodcckiphdnjeaaQFnPrunedx4
import Derived.Test.YtodcckiphdnjeaaQFnPrunedx5
import Derived.Test.YtodcckiphdnjeaaQFnPrunedx18
import Derived.Test.YtodcckiphdnjeaaQFnPrunedx23
import Derived.Test.YtodcckiphdnjeaaQFnPrunedx24
namespace Go.Proofs.Ytodcckiphdnjeaa.QFnPruned
open Go.RowKit Go.Proofs.YtodcckiphdnjeaaW.PrintWords Go.Proofs.YtodcckiphdnjeaaW.PrintLast Go.Proofs.YtodcckiphdnjeaaW.PrintMore
attribute [local go_sem] max2_int min2_int max_two min_two max_three min_three max_four min_four   -- for this text's walks alone
set_option linter.unusedVariables false
set_option maxHeartbeats 8000000
set_option maxRecDepth 100000
set_option linter.unusedSimpArgs false

theorem z25_1 {p : Prop} (h : p := by repeat (first | (with_reducible first | exact HB.out | apply below_alloc | apply pw_below_drewN | apply below_drew1 | refine below_set ?_ GE556.out) | exact HB.out)) : p := h
theorem z25_3 {p : Prop} (h : p := by repeat (first | (with_reducible first | exact HB.out | apply below_alloc | apply pw_below_drewN | apply below_drew1 | refine below_set ?_ GE548.out) | exact HB.out)) : p := h
/-! ### impl_PutWord: function 76 -/
def impl_PutWord.f (k : Nat) (a0_0 : Int) (a0_1 : Int) (a0_2 : ByteArray) (a1 : ByteArray) (a2 : Int) (a3 : ByteArray) : Option (ByteArray × Bool) := (impl_SlotPattern.f k a0_0 a0_1 a0_2 a1 a2).bind fun t549 => ((impl_FitsPattern.f k t549 a3).bind fun t550 => (if t550 = true then ((impl_layout.f k a0_0 a0_1 a0_2).bind fun t551 => (if 0 ≤ a2 then (if a2 < (t551.length : Int) then ((impl_writeCells.f a1 (rd_L6 t551 a2) a3).bind fun t555 => (some (t555, true))) else (none)) else (none))) else (some (a1, false))))
theorem impl_PutWord.calls (k : Nat) (a0_0 : Int) (a0_1 : Int) (a0_2 : ByteArray) (a1 : ByteArray) (a2 : Int) (a3 : ByteArray) (r1 : ByteArray) (r2 : Bool) (w : World) (h : impl_PutWord.f k a0_0 a0_1 a0_2 a1 a2 a3 = some (r1, r2)) :
   Calls Try.prog 76 #[.agg #[.int .i64 a0_0, .int .i64 a0_1, .string a0_2], .string a1, .int .i64 a2, .string a3] w fun e w' => e = .returned (.tuple #[.string r1, .bool r2]) ∧ Below w.heap.size w w' := by
  have hu28 := Try.underlying28; have HB := Aside0.mk (Below.refl w.heap.size w); have H : ((impl_SlotPattern.f k a0_0 a0_1 a0_2 a1 a2).bind fun t549 => ((impl_FitsPattern.f k t549 a3).bind fun t550 => (if t550 = true then ((impl_layout.f k a0_0 a0_1 a0_2).bind fun t551 => (if 0 ≤ a2 then (if a2 < (t551.length : Int) then ((impl_writeCells.f a1 (rd_L6 t551 a2) a3).bind fun t555 => (some (t555, true))) else (none)) else (none))) else (some (a1, false))))) = some (r1, r2) := h; clear h; replace H := Option.bind_eq_some_iff.mp H; obtain ⟨t549, A50, H⟩ := H; try dsimp only at H
  have A5 := Aside0.mk A50; clear A50; replace H := Option.bind_eq_some_iff.mp H; obtain ⟨t550, A60, H⟩ := H; try dsimp only at H
  have A6 := Aside0.mk A60; clear A60; by_cases c7 : t550 = true
  ·subst c7; rw [if_pos rfl] at H
   replace H := Option.bind_eq_some_iff.mp H; obtain ⟨t551, A80, H⟩ := H; try dsimp only at H
   have A8 := Aside0.mk A80; clear A80; by_cases c9 : 0 ≤ a2
   ·rw [if_pos c9] at H
    have c9b0 := decide_eq_true c9; clear c9; by_cases c10 : a2 < (t551.length : Int)
    ·rw [if_pos c10] at H
     have c10b0 := decide_eq_true c10; clear c10; replace H := Option.bind_eq_some_iff.mp H; obtain ⟨t555, A110, H⟩ := H; try dsimp only at H
     have A11 := Aside0.mk A110; clear A110; simp only [Option.some.injEq, Prod.mk.injEq] at H; obtain ⟨rfl, rfl⟩ := H; go_enter Try.func76, Try.ntmps76
     go_wp2_with (first | ((with_reducible refine gate_dst (N := 4) rfl ?_); refine box_event ?hg (N := 4) ?hd (cs := #[.int .i64 a0_0, .int .i64 a0_1, .string a0_2]) (t := 28) ?hr ?_; (case hd => rfl); (case hg => rfl); (case hr => first | (go_simp; done) | (go_simp; rfl)); intro gb548 hg w12 hbox hb; have BK548 := Aside0.mk (hbox); have GW548 := Aside0.mk ((by rw [hg]; exact (below_size z_g4) : w.heap.size ≤ gb548)); have GE548 := Aside0.mk ((by rw [hg]; exact (below_size z_g4) : w.heap.size ≤ gb548)); replace HB := Aside0.mk (below_step z_g4 hb); clear hb hbox hg; obtain ⟨hcz13_0, hcz13_1, hcz13_2, hfz13_0, hfz13_1, hfz13_2⟩ := bc3_g0 BK548.out) | ((with_reducible refine gate_callee (f := 112) rfl ?_); refine goesL_ (some 13) rfl rfl Try.func112 (by kernel_rfl) rfl #[.agg #[.int .i64 a0_0, .int .i64 a0_1, .string a0_2], .string a1, .int .i64 a2] rfl z_g9 ?_; (with_reducible refine (impl_SlotPattern.calls k a0_0 a0_1 a0_2 a1 a2 t549 _ A5.out).mono ?_); rintro e w14 ⟨rfl, hb⟩; refine ⟨_, rfl, ?_⟩; replace BK548 := Aside0.mk (blk_below (g := gb548) (o := .cells #[.int .i64 a0_0, .int .i64 a0_1, .string a0_2] 28 (0, 0)) (bd_g7 BK548.out) hb); replace HB := Aside0.mk (below_step z25_3 hb); (try clear hb)) | ((with_reducible refine gate_callee (f := 89) rfl ?_); refine goesL_ (some 15) rfl rfl Try.func89 (by kernel_rfl) rfl #[.string t549, .string a3] rfl z_g9 ?_; (with_reducible refine (impl_FitsPattern.calls k t549 a3 true _ A6.out).mono ?_); rintro e w' ⟨rfl, ⟨nd, rfl⟩⟩; refine ⟨_, rfl, ?_⟩; obtain ⟨hcz15_0, hcz15_1, hcz15_2, hfz15_0, hfz15_1, hfz15_2⟩ := bc3_g0 BK548.out) | ((with_reducible refine gate_callee (f := 50) rfl ?_); refine goesL_ (some 20) rfl rfl Try.func50 (by kernel_rfl) rfl #[.agg #[.int .i64 a0_0, .int .i64 a0_1, .string a0_2]] rfl z_g9 ?_; (with_reducible refine (impl_layout.calls k a0_0 a0_1 a0_2 t551 _ A8.out).mono ?_); rintro e w16 ⟨v552, rfl, ho0, hb⟩; refine ⟨_, rfl, ?_⟩; have HO553 := Aside0.mk (Kd.S_lower ho0 (below_size z25_3)); replace BK548 := Aside0.mk (blk_below (g := gb548) (o := .cells #[.int .i64 a0_0, .int .i64 a0_1, .string a0_2] 28 (0, 0)) (bd_g7 BK548.out) hb); replace HB := Aside0.mk (below_step z25_3 hb); (try clear hb); (try clear ho0); obtain ⟨Ao17, co17, eo17⟩ := Kd.S_slice HO553.out; subst eo17; have p554 : 0 ≤ (a2 : Int) := of_decide_eq_true z_g1; have q554 : a2 < (t551.length : Int) := of_decide_eq_true z_g1; obtain ⟨ad554, A554_0, c554_0, e554, hx554_0, hl554_0, hi554_0⟩ := at_L6 (Kd.S_reads' HO553.out).2.2 a2 p554 q554; cases e554; obtain ⟨ce554, hce554, hMe554, hcc554⟩ := Kd.S_get HO553.out [] a2 p554 (by first | exact q554 | exact of_decide_eq_true z_g1 | (have e_ := (Kd.S_reads' HO553.out).1; omega)); obtain ⟨ve554_0, rfl, ge554_0⟩ := hMe554; have hv554_0 := hcc554 0 _ rfl; rw [Nat.add_zero, show ((Kd.slice 3 (Kd.int .i64))).sz = 1 from rfl, Nat.mul_one] at hv554_0; replace hv554_0 := Option.some.inj (hv554_0.symm.trans hx554_0); rw [hv554_0] at ge554_0; have HL554_0 := Aside0.mk (show Kd.R (Kd.int .i64) 3 _ _ _ _ (rd_L6 t551 a2) from ge554_0); clear hv554_0 ge554_0; clear hcc554 hce554; have HR554_0 := Aside0.mk hi554_0; have HC554_0 := Aside0.mk hl554_0; clear hi554_0 hl554_0; replace p554 := eq_true p554; replace q554 := eq_true q554) | ((with_reducible refine gate_callee (f := 90) rfl ?_); refine goesL_ (some 25) rfl rfl Try.func90 (by kernel_rfl) rfl #[.string a1, .slice A554_0 (rd_L6 t551 a2).length c554_0, .string a3] rfl z_g9 ?_; (with_reducible refine (impl_writeCells.calls a1 _ _ (rd_L6 t551 a2) a3 t555 _ ?side1 ?side2 A11.out).mono ?_); (case side1 => repeat (first | exact (by repeat (first | (with_reducible exact HR554_0.out) | (with_reducible refine Kd.C_alloc ?_ _) | (with_reducible refine Kd.C_drewN ?_ _) | (with_reducible refine Kd.C_drew ?_) | exact HR554_0.out)) | (with_reducible refine Kd.C_alloc ?_ _) | (with_reducible refine Kd.C_drewN ?_ _) | (with_reducible refine Kd.C_drew ?_))); (case side2 => exact HC554_0.out); rintro e w18 ⟨rfl, hb⟩; refine ⟨_, rfl, ?_⟩; replace HO553 := Aside0.mk (Kd.S_below (by (with_reducible repeat (first | apply Kd.S_alloc | apply Kd.S_drewN | apply Kd.S_drew)); exact HO553.out) hb); replace HL554_0 := Aside0.mk (Kd.R_below (by (with_reducible repeat (first | apply Kd.R_alloc | apply Kd.R_drewN | apply Kd.R_drew)); exact HL554_0.out) hb); replace BK548 := Aside0.mk (blk_below (g := gb548) (o := .cells #[.int .i64 a0_0, .int .i64 a0_1, .string a0_2] 28 (0, 0)) (bd_g7 BK548.out) hb); replace HR554_0 := Aside0.mk (Kd.C_below (by repeat (first | (with_reducible exact HR554_0.out) | (with_reducible refine Kd.C_alloc ?_ _) | (with_reducible refine Kd.C_drewN ?_ _) | (with_reducible refine Kd.C_drew ?_) | exact HR554_0.out)) hb); replace HB := Aside0.mk (below_step z25_3 hb); (try clear hb)))
     go_ret2
     exact ⟨z_g13, z25_3⟩
    ·rw [if_neg c10] at H
     exact absurd H (by simp)
   ·rw [if_neg c9] at H
    exact absurd H (by simp)
  ·replace c7 := Bool.eq_false_iff.mpr c7; subst c7; rw [if_neg (show ¬ (false = true) by decide)] at H
   simp only [Option.some.injEq, Prod.mk.injEq] at H; obtain ⟨rfl, rfl⟩ := H; go_enter Try.func76, Try.ntmps76
   go_wp2_with (first | ((with_reducible refine gate_dst (N := 4) rfl ?_); refine box_event ?hg (N := 4) ?hd (cs := #[.int .i64 a0_0, .int .i64 a0_1, .string a0_2]) (t := 28) ?hr ?_; (case hd => rfl); (case hg => rfl); (case hr => first | (go_simp; done) | (go_simp; rfl)); intro gb548 hg w19 hbox hb; have BK548 := Aside0.mk (hbox); have GW548 := Aside0.mk ((by rw [hg]; exact (below_size z_g4) : w.heap.size ≤ gb548)); have GE548 := Aside0.mk ((by rw [hg]; exact (below_size z_g4) : w.heap.size ≤ gb548)); replace HB := Aside0.mk (below_step z_g4 hb); clear hb hbox hg; obtain ⟨hcz20_0, hcz20_1, hcz20_2, hfz20_0, hfz20_1, hfz20_2⟩ := bc3_g0 BK548.out) | ((with_reducible refine gate_callee (f := 112) rfl ?_); refine goesL_ (some 13) rfl rfl Try.func112 (by kernel_rfl) rfl #[.agg #[.int .i64 a0_0, .int .i64 a0_1, .string a0_2], .string a1, .int .i64 a2] rfl z_g9 ?_; (with_reducible refine (impl_SlotPattern.calls k a0_0 a0_1 a0_2 a1 a2 t549 _ A5.out).mono ?_); rintro e w21 ⟨rfl, hb⟩; refine ⟨_, rfl, ?_⟩; replace BK548 := Aside0.mk (blk_below (g := gb548) (o := .cells #[.int .i64 a0_0, .int .i64 a0_1, .string a0_2] 28 (0, 0)) (bd_g7 BK548.out) hb); replace HB := Aside0.mk (below_step z25_3 hb); (try clear hb)) | ((with_reducible refine gate_callee (f := 89) rfl ?_); refine goesL_ (some 15) rfl rfl Try.func89 (by kernel_rfl) rfl #[.string t549, .string a3] rfl z_g9 ?_; (with_reducible refine (impl_FitsPattern.calls k t549 a3 false _ A6.out).mono ?_); rintro e w' ⟨rfl, ⟨nd, rfl⟩⟩; refine ⟨_, rfl, ?_⟩))
   go_ret2
   exact ⟨z_g13, z25_3⟩

/-! ### impl_Forced: function 38 -/
def impl_Forced.l0 : Nat → ByteArray → ByteArray → List (List ByteArray) → Int → Int → Int → Int → ByteArray → Option (ByteArray × Bool)
  | 0, _, _, _, _, _, _, _, _ => none
  | k + 1, x1, x8, x21, x22, x23, x557000, x557001, x557002 => if x23 < x22 then (if 0 ≤ x23 then (if x23 < (x21.length : Int) then (if ((rd_L5 x21 x23).length : Int) = 1 then (if 0 < ((rd_L5 x21 x23).length : Int) then ((impl_PutWord.f k x557000 x557001 x557002 x8 x23 (rdOf ByteArray.empty (rd_L5 x21 x23) 0)).bind fun bt562 => (if bt562.2 = true then (impl_Forced.l0 k x1 bt562.1 x21 x22 (wrap64 (x23 + 1)) x557000 x557001 x557002) else (some (x1, false)))) else (none)) else (impl_Forced.l0 k x1 x8 x21 x22 (wrap64 (x23 + 1)) x557000 x557001 x557002)) else (none)) else (none)) else (some (x8, true))
def impl_Forced.f (k : Nat) (a0_0 : Int) (a0_1 : Int) (a0_2 : ByteArray) (a1 : ByteArray) (l2 : List (List ByteArray)) : Option (ByteArray × Bool) := (impl_SlotsOf.f k a0_0 a0_1 a0_2).bind fun t557 => (if (l2.length : Int) = (t557.length : Int) then (impl_Forced.l0 k a1 a1 l2 (l2.length : Int) 0 a0_0 a0_1 a0_2) else (some (a1, false)))
def impl_Forced.T8 : Bool × List (List Nat × List Nat) := (true, [([], []), ([], []), ([], []), ([], []), ([3], [3]), ([4], [4]), ([0, 1, 2, 5], [0, 1, 2, 5]), ([6], [6]), ([7], [7]), ([7], [7]), ([8, 6, 0, 1, 2, 3, 4, 5, 6, 7, 8], [8]), ([9, 10, 0, 1, 2, 3, 4, 5, 6, 7, 8, 9, 10], [9])])
def impl_Forced.B8 : List Nat := [0, 0, 0, 0, 8, 24, 63, 127, 255, 255, 511, 2047]
theorem impl_Forced.tab8 : rtab .any (opsOf Try.f38 8) = impl_Forced.T8 := by kernel_rfl
theorem impl_Forced.bits8 : waitsOk impl_Forced.T8.2 impl_Forced.B8 = true := by kernel_rfl
theorem impl_Forced.calls (k : Nat) (a0_0 : Int) (a0_1 : Int) (a0_2 : ByteArray) (a1 : ByteArray) (A2 : Option Addr) (c2 : Nat) (l2 : List (List ByteArray)) (r1 : ByteArray) (r2 : Bool) (w : World) (hr2 : Kd.C (Kd.slice 9 Kd.string) w A2 l2.length l2) (hc2 : l2.length ≤ c2) (h : impl_Forced.f k a0_0 a0_1 a0_2 a1 l2 = some (r1, r2)) :
   Calls Try.prog 38 #[.agg #[.int .i64 a0_0, .int .i64 a0_1, .string a0_2], .string a1, .slice A2 l2.length c2] w fun e w' => e = .returned (.tuple #[.string r1, .bool r2]) ∧ Below w.heap.size w w' := by
  have hu28 := Try.underlying28; have HR2 := Aside0.mk hr2; have HC2 := Aside0.mk hc2; clear hr2 hc2; have HB := Aside0.mk (Below.refl w.heap.size w); have H : ((impl_SlotsOf.f k a0_0 a0_1 a0_2).bind fun t557 => (if (l2.length : Int) = (t557.length : Int) then (impl_Forced.l0 k a1 a1 l2 (l2.length : Int) 0 a0_0 a0_1 a0_2) else (some (a1, false)))) = some (r1, r2) := h; clear h; replace H := Option.bind_eq_some_iff.mp H; obtain ⟨t557, A40, H⟩ := H; try dsimp only at H
  have A4 := Aside0.mk A40; clear A40; by_cases c5 : (l2.length : Int) = (t557.length : Int)
  ·rw [if_pos c5] at H
   have c5b0 : ((l2.length : Int) == (t557.length : Int)) = true := beq_iff_eq.mpr c5; have c5b1 : ((l2.length : Int) != (t557.length : Int)) = false := bne_eq_false_iff_eq.mpr c5; have c5b2 : (l2.length == t557.length) = true := by first | simpa using c5 | (simp at c5 ⊢; omega)
   clear c5; have H' := Aside0.mk H
   clear H; go_enter Try.func38, Try.ntmps38
   go_wp2_with (first | ((with_reducible refine gate_dst (N := 3) rfl ?_); refine box_event ?hg (N := 3) ?hd (cs := #[.int .i64 a0_0, .int .i64 a0_1, .string a0_2]) (t := 28) ?hr ?_; (case hd => rfl); (case hg => rfl); (case hr => first | (go_simp; done) | (go_simp; rfl)); intro gb556 hg w6 hbox hb; have BK556 := Aside0.mk (hbox); have GW556 := Aside0.mk ((by rw [hg]; exact (below_size z_g4) : w.heap.size ≤ gb556)); have GE556 := Aside0.mk ((by rw [hg]; exact (below_size z_g4) : w.heap.size ≤ gb556)); replace HB := Aside0.mk (below_step z_g4 hb); clear hb hbox hg; obtain ⟨hcz7_0, hcz7_1, hcz7_2, hfz7_0, hfz7_1, hfz7_2⟩ := bc3_g0 BK556.out) | ((with_reducible refine gate_callee (f := 26) rfl ?_); refine goesL_ (some 16) rfl rfl Try.func26 (by kernel_rfl) rfl #[.agg #[.int .i64 a0_0, .int .i64 a0_1, .string a0_2]] rfl z_g9 ?_; (with_reducible refine (impl_SlotsOf.calls k a0_0 a0_1 a0_2 t557 _ A4.out).mono ?_); rintro e w8 ⟨v558, rfl, ho0, hb⟩; refine ⟨_, rfl, ?_⟩; have HO559 := Aside0.mk (Kd.R_lower ho0 (below_size z25_1)); replace BK556 := Aside0.mk (blk_below (g := gb556) (o := .cells #[.int .i64 a0_0, .int .i64 a0_1, .string a0_2] 28 (0, 0)) (bd_g7 BK556.out) hb); replace HB := Aside0.mk (below_step z25_1 hb); (try clear hb); (try clear ho0); obtain ⟨Ao9, co9, eo9⟩ := Kd.R_slice HO559.out; subst eo9))
   go_loopg [8, 23] k (fun kq v8 v23 w' => ∃ (x8_1 : ByteArray) (x23_1 : Int), v8 = .string x8_1 ∧ v23 = .int .i64 x23_1 ∧ Aside0 (impl_Forced.l0 kq a1 x8_1 l2 (l2.length : Int) x23_1 a0_0 a0_1 a0_2 = some (r1, r2)) ∧ Aside0 (kq ≤ k) ∧ Aside0 (w'.heap[gb556]? = some (.cells #[.int .i64 a0_0, .int .i64 a0_1, .string a0_2] 28 (0, 0))) ∧ Aside0 (Below w.heap.size w w'))
   case atStart => exact ⟨(a1), (0), (by first | rfl | (simp; done) | (simp [*]; done)), (by first | rfl | (simp; done) | (simp [*]; done)), H', ⟨Nat.le_refl _⟩, ⟨by (with_reducible repeat (first | refine blk_drewN ?_ _ | refine blk_drew ?_ | refine blk_alloc ?_ _)); exact BK556.out⟩, ⟨z25_1⟩⟩
   case round =>
    clear H'; try clear c2
    try clear p2
    try clear c3
    try clear c5
    try clear c5b0
    try clear c5b1
    try clear c5b2
    try clear hcz7_0 hcz7_1 hcz7_2 hfz7_0 hfz7_1 hfz7_2
    obtain ⟨x8_1, x23_1, rfl, rfl, HA, HK1, BK556, HB⟩ := hrel
    cases gk with
    | zero => exact absurd HA.out (by simp [impl_Forced.l0])
    | succ k1 =>
     have H := HA.out; clear HA; simp only [impl_Forced.l0] at H; by_cases c10 : x23_1 < (l2.length : Int)
     ·rw [if_pos c10] at H
      have c10b0 := decide_eq_true c10; clear c10; by_cases c11 : 0 ≤ x23_1
      ·rw [if_pos c11] at H
       have c11b0 := decide_eq_true c11; clear c11; by_cases c12 : x23_1 < (l2.length : Int)
       ·rw [if_pos c12] at H
        have c12b0 := decide_eq_true c12; clear c12; by_cases c13 : ((rd_L5 l2 x23_1).length : Int) = 1
        ·rw [if_pos c13] at H
         have c13b0 : (((rd_L5 l2 x23_1).length : Int) == 1) = true := beq_iff_eq.mpr c13; have c13b1 : (((rd_L5 l2 x23_1).length : Int) != 1) = false := bne_eq_false_iff_eq.mpr c13; clear c13; by_cases c14 : 0 < ((rd_L5 l2 x23_1).length : Int)
         ·rw [if_pos c14] at H
          have c14b0 := decide_eq_true c14; have c14b1 : decide (0 < (rd_L5 l2 x23_1).length) = true := decide_eq_true (by omega); clear c14; replace H := Option.bind_eq_some_iff.mp H; obtain ⟨⟨t562, t563⟩, A150, H⟩ := H; try dsimp only at H
          have A15 := Aside0.mk A150; clear A150; by_cases c16 : t563 = true
          ·subst c16; rw [if_pos rfl] at H
           have H' := Aside0.mk H
           clear H; have p560 : 0 ≤ (x23_1 : Int) := of_decide_eq_true z_g1; have q560 : x23_1 < (l2.length : Int) := of_decide_eq_true z_g1; obtain ⟨ad560, A560_0, c560_0, e560, hx560_0, hl560_0, hi560_0⟩ := at_L5 HR2.out x23_1 p560 q560
           cases e560; try replace hx560_0 := (HB.out.cell (World.block_lt_of_cell? w _ hx560_0)).trans hx560_0
           have HR560_0 := Aside0.mk hi560_0; have HC560_0 := Aside0.mk hl560_0; clear hi560_0 hl560_0; replace p560 := eq_true p560; replace q560 := eq_true q560; try go_wp2
           replace BK556 := Aside0.mk (blk_drew BK556.out); replace HB := Aside0.mk (below_drew1 HB.out); have p561 : 0 ≤ (0 : Int) := (by omega); have q561 : 0 < ((rd_L5 l2 x23_1).length : Int) := of_decide_eq_true z_g1; obtain ⟨ad561, e561, hx561_0⟩ := Kd.at_string HR560_0.out 0 p561 q561; have hw561_0 := hx561_0; (try rw [show ((0 : Int)).toNat = 0 from rfl] at hw561_0)
           (try rw [show 0 * 1 = 0 from rfl] at hw561_0)
           (try rw [Addr.add_zero'] at hw561_0)
           cases e561; have qi561 : (0 < (rd_L5 l2 x23_1).length) = True := eq_true (by omega); (try rw [show ((0 : Int)).toNat = 0 from rfl] at hx561_0)
           (try rw [Addr.add_zero'] at hx561_0)
           try replace hx561_0 := (HB.out.cell (World.block_lt_of_cell? w _ hx561_0)).trans hx561_0
           replace p561 := eq_true p561; replace q561 := eq_true q561; refine start_ (n := 12) (S := fun w' => w'.cell? ⟨gb556, 0, none⟩ = some (.int .i64 a0_0) ∧ w'.cell? ⟨gb556, 1, none⟩ = some (.int .i64 a0_1) ∧ w'.cell? ⟨gb556, 2, none⟩ = some (.string a0_2) ∧ w'.cell? ad561 = some (.string (rdOf ByteArray.empty (rd_L5 l2 x23_1) 0))) (ds := []) #[false, false, false, false, false, false, false, false, false, false, false, false] (by kernel_rfl) rfl rfl ⟨(blk_cell BK556.out 0).trans rfl, (blk_cell BK556.out 1).trans rfl, (blk_cell BK556.out 2).trans rfl, ((HB.out.cell (World.block_lt_of_cell? w _ hw561_0)).trans hw561_0)⟩ (fun hHeld => ?_); refine with_tabW impl_Forced.tab8 impl_Forced.bits8 (fun HT_ HW_ => ?_)
           generalize wr.drew = w17 at BK556 HB hx561_0 hHeld ⊢
           refine pu_g5 1 (some 33) (any_of HT_.out (by kernel_rfl)) ?_
           refine pu_g5 2 (some 34) (any_of HT_.out (by kernel_rfl)) ?_
           refine pu_g5 3 (some 35) (any_of HT_.out (by kernel_rfl)) ?_
           refine pu_g5 4 (some 36) (any_of HT_.out (by kernel_rfl)) ?_
           refine tk_g6 0 (some 32) rfl (take_ofW HT_.out HW_.out (by kernel_rfl)) (Or.inl ⟨by rfl, fun w' ⟨s0, s1, s2, s3⟩ => by go_simp; with_reducible rfl⟩) hHeld ?_
           refine tk_g6 5 (some 37) rfl (take_ofW HT_.out HW_.out (by kernel_rfl)) (Or.inl ⟨by rfl, fun w' ⟨s0, s1, s2, s3⟩ => by go_simp; with_reducible rfl⟩) hHeld ?_
           refine one_ (i := 6) (N := some 38) #[true, true, true, true, true, true, true, false, false, false, false, false] rfl rfl (one_of HT_.out (by kernel_rfl)) (by decide) (fun K hK => ?_)
           refine goes_ Try.func76 (by kernel_rfl) rfl #[.agg #[.int .i64 a0_0, .int .i64 a0_1, .string a0_2], .string x8_1, .int .i64 x23_1, .string (rdOf ByteArray.empty (rd_L5 l2 x23_1) 0)] (by rfl) rfl rfl z_g9 ?_
           with_reducible refine (impl_PutWord.calls k1 a0_0 a0_1 a0_2 x8_1 x23_1 (rdOf ByteArray.empty (rd_L5 l2 x23_1) 0) t562 true _ A15.out).mono ?_
           rintro e w18 ⟨rfl, hb⟩
           refine ⟨_, rfl, ?_⟩
           replace BK556 := Aside0.mk (blk_below (g := gb556) (o := .cells #[.int .i64 a0_0, .int .i64 a0_1, .string a0_2] 28 (0, 0)) (bd_g7 BK556.out) hb); replace HB := Aside0.mk (below_step z25_1 hb); (try clear hb)
           (try clear hb2)
           (try clear hk)
           (try clear hi)
           refine hK.out _ _ ⟨(blk_cell BK556.out 0).trans rfl, (blk_cell BK556.out 1).trans rfl, (blk_cell BK556.out 2).trans rfl, ((HB.out.cell (World.block_lt_of_cell? w _ hw561_0)).trans hw561_0)⟩ (fun hHeld => ?_)
           clear hK K; refine norm_ (a' := ?_) ?_ ?_
           rotate_left
           ·show Act.put _ (some 38) _ = _
            simp only [Act.put, List.setIfInBounds_toArray, List.set_cons_zero, List.set_cons_succ, i64_w, i32_w]; rfl
           refine pu_g5 7 (some 31) (any_of HT_.out (by kernel_rfl)) ?_
           refine pu_g5 8 (some 39) (any_of HT_.out (by kernel_rfl)) ?_
           refine pu_g5 9 (some 40) (any_of HT_.out (by kernel_rfl)) ?_
           refine pu_g5 10 (some 11) (any_of HT_.out (by kernel_rfl)) ?_
           refine pu_g5 11 (some 12) (any_of HT_.out (by kernel_rfl)) ?_
           refine done_ (done_of HT_.out (by kernel_rfl)) ?_
           try go_wp2
           go_roundg k1
           case measure => have := HK1.out; omega
           case rel => exact ⟨(t562), (wrap64 (x23_1 + 1)), (by first | rfl | (simp; done) | (simp [*]; done)), (by first | rfl | (simp; done) | (simp [*]; done)), H', ⟨by have := HK1.out; omega⟩, ⟨by (with_reducible repeat (first | refine blk_drewN ?_ _ | refine blk_drew ?_ | refine blk_alloc ?_ _)); exact BK556.out⟩, ⟨z25_1⟩⟩
          ·replace c16 := Bool.eq_false_iff.mpr c16; subst c16; rw [if_neg (show ¬ (false = true) by decide)] at H
           simp only [Option.some.injEq, Prod.mk.injEq] at H; obtain ⟨rfl, rfl⟩ := H; have p560 : 0 ≤ (x23_1 : Int) := of_decide_eq_true z_g1; have q560 : x23_1 < (l2.length : Int) := of_decide_eq_true z_g1; obtain ⟨ad560, A560_0, c560_0, e560, hx560_0, hl560_0, hi560_0⟩ := at_L5 HR2.out x23_1 p560 q560
           cases e560; try replace hx560_0 := (HB.out.cell (World.block_lt_of_cell? w _ hx560_0)).trans hx560_0
           have HR560_0 := Aside0.mk hi560_0; have HC560_0 := Aside0.mk hl560_0; clear hi560_0 hl560_0; replace p560 := eq_true p560; replace q560 := eq_true q560; try go_wp2
           replace BK556 := Aside0.mk (blk_drew BK556.out); replace HB := Aside0.mk (below_drew1 HB.out); have p561 : 0 ≤ (0 : Int) := (by omega); have q561 : 0 < ((rd_L5 l2 x23_1).length : Int) := of_decide_eq_true z_g1; obtain ⟨ad561, e561, hx561_0⟩ := Kd.at_string HR560_0.out 0 p561 q561; have hw561_0 := hx561_0; (try rw [show ((0 : Int)).toNat = 0 from rfl] at hw561_0)
           (try rw [show 0 * 1 = 0 from rfl] at hw561_0)
           (try rw [Addr.add_zero'] at hw561_0)
           cases e561; have qi561 : (0 < (rd_L5 l2 x23_1).length) = True := eq_true (by omega); (try rw [show ((0 : Int)).toNat = 0 from rfl] at hx561_0)
           (try rw [Addr.add_zero'] at hx561_0)
           try replace hx561_0 := (HB.out.cell (World.block_lt_of_cell? w _ hx561_0)).trans hx561_0
           replace p561 := eq_true p561; replace q561 := eq_true q561; refine start_ (n := 12) (S := fun w' => w'.cell? ⟨gb556, 0, none⟩ = some (.int .i64 a0_0) ∧ w'.cell? ⟨gb556, 1, none⟩ = some (.int .i64 a0_1) ∧ w'.cell? ⟨gb556, 2, none⟩ = some (.string a0_2) ∧ w'.cell? ad561 = some (.string (rdOf ByteArray.empty (rd_L5 l2 x23_1) 0))) (ds := []) #[false, false, false, false, false, false, false, false, false, false, false, false] (by kernel_rfl) rfl rfl ⟨(blk_cell BK556.out 0).trans rfl, (blk_cell BK556.out 1).trans rfl, (blk_cell BK556.out 2).trans rfl, ((HB.out.cell (World.block_lt_of_cell? w _ hw561_0)).trans hw561_0)⟩ (fun hHeld => ?_); refine with_tabW impl_Forced.tab8 impl_Forced.bits8 (fun HT_ HW_ => ?_)
           generalize wr.drew = w19 at BK556 HB hx561_0 hHeld ⊢
           refine pu_g5 1 (some 33) (any_of HT_.out (by kernel_rfl)) ?_
           refine pu_g5 2 (some 34) (any_of HT_.out (by kernel_rfl)) ?_
           refine pu_g5 3 (some 35) (any_of HT_.out (by kernel_rfl)) ?_
           refine pu_g5 4 (some 36) (any_of HT_.out (by kernel_rfl)) ?_
           refine tk_g6 0 (some 32) rfl (take_ofW HT_.out HW_.out (by kernel_rfl)) (Or.inl ⟨by rfl, fun w' ⟨s0, s1, s2, s3⟩ => by go_simp; with_reducible rfl⟩) hHeld ?_
           refine tk_g6 5 (some 37) rfl (take_ofW HT_.out HW_.out (by kernel_rfl)) (Or.inl ⟨by rfl, fun w' ⟨s0, s1, s2, s3⟩ => by go_simp; with_reducible rfl⟩) hHeld ?_
           refine one_ (i := 6) (N := some 38) #[true, true, true, true, true, true, true, false, false, false, false, false] rfl rfl (one_of HT_.out (by kernel_rfl)) (by decide) (fun K hK => ?_)
           refine goes_ Try.func76 (by kernel_rfl) rfl #[.agg #[.int .i64 a0_0, .int .i64 a0_1, .string a0_2], .string x8_1, .int .i64 x23_1, .string (rdOf ByteArray.empty (rd_L5 l2 x23_1) 0)] (by rfl) rfl rfl z_g9 ?_
           with_reducible refine (impl_PutWord.calls k1 a0_0 a0_1 a0_2 x8_1 x23_1 (rdOf ByteArray.empty (rd_L5 l2 x23_1) 0) t562 false _ A15.out).mono ?_
           rintro e w20 ⟨rfl, hb⟩
           refine ⟨_, rfl, ?_⟩
           replace BK556 := Aside0.mk (blk_below (g := gb556) (o := .cells #[.int .i64 a0_0, .int .i64 a0_1, .string a0_2] 28 (0, 0)) (bd_g7 BK556.out) hb); replace HB := Aside0.mk (below_step z25_1 hb); (try clear hb)
           (try clear hb2)
           (try clear hk)
           (try clear hi)
           refine hK.out _ _ ⟨(blk_cell BK556.out 0).trans rfl, (blk_cell BK556.out 1).trans rfl, (blk_cell BK556.out 2).trans rfl, ((HB.out.cell (World.block_lt_of_cell? w _ hw561_0)).trans hw561_0)⟩ (fun hHeld => ?_)
           clear hK K; refine norm_ (a' := ?_) ?_ ?_
           rotate_left
           ·show Act.put _ (some 38) _ = _
            simp only [Act.put, List.setIfInBounds_toArray, List.set_cons_zero, List.set_cons_succ, i64_w, i32_w]; rfl
           refine pu_g5 7 (some 31) (any_of HT_.out (by kernel_rfl)) ?_
           refine pu_g5 8 (some 39) (any_of HT_.out (by kernel_rfl)) ?_
           refine pu_g5 9 (some 40) (any_of HT_.out (by kernel_rfl)) ?_
           refine pu_g5 10 (some 11) (any_of HT_.out (by kernel_rfl)) ?_
           refine pu_g5 11 (some 12) (any_of HT_.out (by kernel_rfl)) ?_
           refine done_ (done_of HT_.out (by kernel_rfl)) ?_
           try go_wp2
           go_ret2
           exact ⟨z_g13, z25_1⟩
         ·rw [if_neg c14] at H
          exact absurd H (by simp)
        ·rw [if_neg c13] at H
         have c13b0 : (((rd_L5 l2 x23_1).length : Int) == 1) = false := beq_eq_false_iff_ne.mpr c13; have c13b1 : (((rd_L5 l2 x23_1).length : Int) != 1) = true := bne_iff_ne.mpr c13; have H' := Aside0.mk H
         clear H; have p560 : 0 ≤ (x23_1 : Int) := of_decide_eq_true z_g1; have q560 : x23_1 < (l2.length : Int) := of_decide_eq_true z_g1; obtain ⟨ad560, A560_0, c560_0, e560, hx560_0, hl560_0, hi560_0⟩ := at_L5 HR2.out x23_1 p560 q560
         cases e560; try replace hx560_0 := (HB.out.cell (World.block_lt_of_cell? w _ hx560_0)).trans hx560_0
         have HR560_0 := Aside0.mk hi560_0; have HC560_0 := Aside0.mk hl560_0; clear hi560_0 hl560_0; replace p560 := eq_true p560; replace q560 := eq_true q560; go_wp2
         go_roundg k1
         case measure => have := HK1.out; omega
         case rel => exact ⟨(x8_1), (wrap64 (x23_1 + 1)), (by first | rfl | (simp; done) | (simp [*]; done)), (by first | rfl | (simp; done) | (simp [*]; done)), H', ⟨by have := HK1.out; omega⟩, ⟨by (with_reducible repeat (first | refine blk_drewN ?_ _ | refine blk_drew ?_ | refine blk_alloc ?_ _)); exact BK556.out⟩, ⟨z25_1⟩⟩
       ·rw [if_neg c12] at H
        exact absurd H (by simp)
      ·rw [if_neg c11] at H
       exact absurd H (by simp)
     ·rw [if_neg c10] at H
      have c10b0 := decide_eq_false c10; clear c10; simp only [Option.some.injEq, Prod.mk.injEq] at H; obtain ⟨rfl, rfl⟩ := H; go_wp2
      go_ret2
      exact ⟨z_g13, z25_1⟩
  ·rw [if_neg c5] at H
   have c5b0 : ((l2.length : Int) == (t557.length : Int)) = false := beq_eq_false_iff_ne.mpr c5; have c5b1 : ((l2.length : Int) != (t557.length : Int)) = true := bne_iff_ne.mpr c5; have c5b2 : (l2.length == t557.length) = false := by first | simpa using c5 | (simp at c5 ⊢; omega)
   simp only [Option.some.injEq, Prod.mk.injEq] at H; obtain ⟨rfl, rfl⟩ := H; go_enter Try.func38, Try.ntmps38
   go_wp2_with (first | ((with_reducible refine gate_dst (N := 3) rfl ?_); refine box_event ?hg (N := 3) ?hd (cs := #[.int .i64 a0_0, .int .i64 a0_1, .string a0_2]) (t := 28) ?hr ?_; (case hd => rfl); (case hg => rfl); (case hr => first | (go_simp; done) | (go_simp; rfl)); intro gb556 hg w21 hbox hb; have BK556 := Aside0.mk (hbox); have GW556 := Aside0.mk ((by rw [hg]; exact (below_size z_g4) : w.heap.size ≤ gb556)); have GE556 := Aside0.mk ((by rw [hg]; exact (below_size z_g4) : w.heap.size ≤ gb556)); replace HB := Aside0.mk (below_step z_g4 hb); clear hb hbox hg; obtain ⟨hcz22_0, hcz22_1, hcz22_2, hfz22_0, hfz22_1, hfz22_2⟩ := bc3_g0 BK556.out) | ((with_reducible refine gate_callee (f := 26) rfl ?_); refine goesL_ (some 16) rfl rfl Try.func26 (by kernel_rfl) rfl #[.agg #[.int .i64 a0_0, .int .i64 a0_1, .string a0_2]] rfl z_g9 ?_; (with_reducible refine (impl_SlotsOf.calls k a0_0 a0_1 a0_2 t557 _ A4.out).mono ?_); rintro e w23 ⟨v558, rfl, ho0, hb⟩; refine ⟨_, rfl, ?_⟩; have HO559 := Aside0.mk (Kd.R_lower ho0 (below_size z25_1)); replace BK556 := Aside0.mk (blk_below (g := gb556) (o := .cells #[.int .i64 a0_0, .int .i64 a0_1, .string a0_2] 28 (0, 0)) (bd_g7 BK556.out) hb); replace HB := Aside0.mk (below_step z25_1 hb); (try clear hb); (try clear ho0); obtain ⟨Ao24, co24, eo24⟩ := Kd.R_slice HO559.out; subst eo24))
   go_ret2
   exact ⟨z_g13, z25_1⟩

/-! ### spec_DrawIsDead: function 40 -/
def spec_DrawIsDead.f (k : Nat) (l0 : List Int) : Option ((List (List ByteArray))) := (spec_DrawPrune.f k l0).bind fun bt564 => (some bt564.2.2.2)
theorem spec_DrawIsDead.calls (k : Nat) (A0 : Option Addr) (c0 : Nat) (l0 : List Int) (r : List (List ByteArray)) (w : World) (hr0 : Kd.C (Kd.int .u8) w A0 l0.length l0) (hc0 : l0.length ≤ c0) (h : spec_DrawIsDead.f k l0 = some r) :
   Calls Try.prog 40 #[.slice A0 l0.length c0] w fun e w' => ∃ v0_ : Value, e = .returned (v0_) ∧ Kd.Q (Kd.slice 9 Kd.string) 24 w' w.heap.size (fun _ => True) v0_ r ∧ Below w.heap.size w w' := by
  have hu28 := Try.underlying28; have HR0 := Aside0.mk hr0; have HC0 := Aside0.mk hc0; clear hr0 hc0; have HB := Aside0.mk (Below.refl w.heap.size w); have H : ((spec_DrawPrune.f k l0).bind fun bt564 => (some bt564.2.2.2)) = some r := h; clear h; replace H := Option.bind_eq_some_iff.mp H; obtain ⟨⟨t564, t565, t566, t567⟩, A20, H⟩ := H; replace H : (some t567) = some r := H; have A2 := Aside0.mk A20; clear A20; obtain rfl := Option.some.inj H; go_enter Try.func40, Try.ntmps40
  go_wp2_with (first | ((with_reducible refine gate_callee (f := 33) rfl ?_); refine goesL_ (some 7) rfl rfl Try.func33 (by kernel_rfl) rfl #[.slice A0 l0.length c0] rfl z_g9 ?_; (with_reducible refine (spec_DrawPrune.calls k _ _ l0 t564 t565 t566 t567 _ ?side1 ?side2 A2.out).mono ?_); (case side1 => repeat (first | exact HR0.out | (with_reducible refine Kd.C_alloc ?_ _) | (with_reducible refine Kd.C_drewN ?_ _) | (with_reducible refine Kd.C_drew ?_))); (case side2 => exact HC0.out); rintro e w3 ⟨v568, rfl, ho0, hb⟩; refine ⟨_, rfl, ?_⟩; have HO569 := Aside0.mk (Kd.Q_lower ho0 (below_size z_g4)); replace HB := Aside0.mk (below_step z_g4 hb); (try clear hb); (try clear ho0)) | ((with_reducible refine gate_dst (N := 3) rfl ?_); refine box_event ?hg (N := 3) ?hd (cs := #[.int .i64 0, .int .i64 0, .string (⟨#[]⟩ : ByteArray)]) (t := 28) ?hr ?_; (case hd => rfl); (case hg => rfl); (case hr => first | (go_simp; done) | (go_simp; rfl)); intro gb570 hg w4 hbox hb; replace HO569 := Aside0.mk (Kd.Q_below (by (with_reducible repeat (first | apply Kd.Q_alloc | apply Kd.Q_drewN | apply Kd.Q_drew)); exact HO569.out) hb); have BK570 := Aside0.mk (hbox); have GW570 := Aside0.mk ((by rw [hg]; exact (below_size z_g4) : w.heap.size ≤ gb570)); have GE570 := Aside0.mk ((by rw [hg]; exact (below_size z_g4) : w.heap.size ≤ gb570)); replace HB := Aside0.mk (below_step z_g4 hb); clear hb hbox hg; obtain ⟨hcz5_0, hcz5_1, hcz5_2, hfz5_0, hfz5_1, hfz5_2⟩ := bc3_g0 BK570.out))
  go_ret
  exact ⟨_, z_g13, by (with_reducible repeat (first | apply Kd.Q_alloc | apply Kd.Q_drewN | apply Kd.Q_drew)); exact Kd.Q_mono (Kd.Q_far (p := ⟨gb570, 2, none⟩) (Kd.Q_far (p := ⟨gb570, 1, none⟩) (Kd.Q_far (p := ⟨gb570, 0, none⟩) (Kd.Q_types HO569.out BK570.out (by decide)) (fun _ hk => hk.2) (.int .i64 t564)) (fun _ hk => hk.2) (.int .i64 t565)) (fun _ hk => hk.2) (.string t566)) (fun _ hk => trivial), by repeat (first | (with_reducible first | exact HB.out | apply below_alloc | apply pw_below_drewN | apply below_drew1 | refine below_set ?_ GE570.out) | exact HB.out)⟩

-- NOT PRINTED: function 113 (slices_IndexFunc_string_string_113)

-- NOT PRINTED: function 78 (slices_ContainsFunc_string_string_78)

-- NOT PRINTED: function 79 (impl_IsDead_1)

/-! ### impl_IsDead: function 41 (given) -/
/-- The first list without an element. -/
def deadFrom : List (List ByteArray) → Nat → Int
  | [], _ => -1
  | x :: l, i => if x.length = 0 then (i : Int) else deadFrom l (i + 1)
theorem deadFrom_nil (i : Nat) : deadFrom [] i = -1 := rfl
theorem deadFrom_pos {x : List ByteArray} (l : List (List ByteArray)) (i : Nat) (h : x.length = 0) : deadFrom (x :: l) i = i := if_pos h
theorem deadFrom_neg {x : List ByteArray} (l : List (List ByteArray)) (i : Nat) (h : ¬ x.length = 0) : deadFrom (x :: l) i = deadFrom l (i + 1) := if_neg h
theorem deadFrom_any : ∀ (l : List (List ByteArray)) (i : Nat), decide (0 ≤ deadFrom l i) = l.any fun x => x.length == 0
  | [], _ => rfl
  | x :: l, i => by
    rw [List.any_cons]
    by_cases h : x.length = 0
    · rw [deadFrom_pos l i h, h]
      simp
    · rw [deadFrom_neg l i h, deadFrom_any l (i + 1)]
      simp [h]
theorem deadIdx_calls (A0 : Option Addr) (c0 : Nat) (l0 : List (List ByteArray)) (w : World) (hr0 : Kd.C (Kd.slice 9 Kd.string) w A0 l0.length l0) (hl : l0.length ≤ 1048576) :
    Calls Try.prog 113 #[.slice A0 l0.length c0, .func (.func 79) #[] #[]] w fun e w' => e = .returned (.int .i64 (deadFrom l0 0)) ∧ Drawn0 w w' := by
  have HR0 := Aside0.mk hr0; clear hr0; go_enter Try.func113, Try.ntmps113
  go_wp2
  go_loopg [8] l0.length (fun kq v8 w' => ∃ (i : Nat), v8 = .int .i64 (i : Int) ∧ Aside0 (i ≤ l0.length) ∧ Aside0 (l0.length - i ≤ kq) ∧ Aside0 (deadFrom (l0.drop i) i = deadFrom l0 0) ∧ Drawn0 w w')
  case atStart => exact ⟨0, rfl, ⟨Nat.zero_le _⟩, ⟨by omega⟩, ⟨rfl⟩, Drawn0.refl _⟩
  case round =>
    obtain ⟨i, rfl, hi, hk, heq, ⟨m1, rfl⟩⟩ := hrel; by_cases hlt : i < l0.length
    · have cb0 : decide ((i : Int) < (l0.length : Int)) = true := by simp; exact hlt
      have hcr : rd_L5 l0 (i : Int) = l0[i] := by
        unfold rd_L5
        simp [hlt]
      obtain ⟨ad, A1, c1, e1, hx, hl1, hi1⟩ := at_L5 HR0.out (i : Int) (by omega) (by omega)
      cases e1; rw [hcr] at hx
      simp only [Int.toNat_natCast] at hx; clear hl1 hi1; have p1 : (0 ≤ (i : Int)) = True := eq_true (by omega); have q1 : ((i : Int) < (l0.length : Int)) = True := eq_true (by omega); have heq' := heq.out
      rw [List.drop_eq_getElem_cons hlt] at heq'
      by_cases hz : l0[i].length = 0
      · rw [deadFrom_pos _ _ hz] at heq'
        have zb : (((l0[i].length : Nat) : Int) == 0) = true := by simp [hz]
        have HE := Aside0.mk heq'; clear heq heq' hcr; go_wp2
        go_ret
        exact ⟨by rw [← HE.out] <;> rfl, by repeat (first | exact Drawn0.refl _ | apply Drawn0.step)⟩
      · rw [deadFrom_neg _ _ hz] at heq'
        have zb : (((l0[i].length : Nat) : Int) == 0) = false := beq_eq_false_iff_ne.mpr (by omega); have HE := Aside0.mk heq'; clear heq heq' hcr; go_wp2
        go_roundg (l0.length - (i + 1))
        case measure => have := hk.out; omega
        case rel => exact ⟨i + 1, by simp, ⟨by omega⟩, ⟨Nat.le_refl _⟩, HE, by repeat (first | exact Drawn0.refl _ | apply Drawn0.step)⟩
    · have cb0 : decide ((i : Int) < (l0.length : Int)) = false := by simp; omega
      have heq' := heq.out
      rw [List.drop_eq_nil_of_le (by omega), deadFrom_nil] at heq'
      go_wp2
      go_ret
      exact ⟨by rw [← heq'] <;> rfl, by repeat (first | exact Drawn0.refl _ | apply Drawn0.step)⟩
def impl_IsDead.f (l0 : List (List ByteArray)) : Option Bool := if l0.length ≤ 1048576 then some (l0.any fun x => x.length == 0) else none
theorem impl_IsDead.calls (A0 : Option Addr) (c0 : Nat) (l0 : List (List ByteArray)) (r : Bool) (w : World) (hr0 : Kd.C (Kd.slice 9 Kd.string) w A0 l0.length l0) (hc0 : l0.length ≤ c0) (h : impl_IsDead.f l0 = some r) :
    Calls Try.prog 41 #[.slice A0 l0.length c0] w fun e w' => e = .returned (.bool r) ∧ Drawn0 w w' := by
  unfold impl_IsDead.f at h
  by_cases hl : l0.length ≤ 1048576
  · rw [if_pos hl] at h
    injection h with h
    subst h; have kd := deadIdx_calls A0 c0 l0 w hr0 hl; clear hr0; rw [← deadFrom_any l0 0]
    generalize deadFrom l0 0 = q at kd ⊢
    go_enter Try.func41, Try.ntmps41
    go_wp2_with (first | (go_at_call 113; refine kd.mono ?_; rintro e w' ⟨rfl, ⟨nd, rfl⟩⟩) | go_in)
    go_ret
    exact ⟨rfl, nd, rfl⟩
  · rw [if_neg hl] at h
    cases h


end Go.Proofs.Ytodcckiphdnjeaa.QFnPruned
