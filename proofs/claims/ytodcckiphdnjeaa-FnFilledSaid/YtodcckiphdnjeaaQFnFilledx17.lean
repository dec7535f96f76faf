-- Written by a changed copy of the kit's printer (wip/mp.py of this repo), for this claim; Lean checks it.
import Derived.Test.YtodcckiphdnjeaaQFnFilledx0
import Derived.Test.YtodcckiphdnjeaaQFnFilledx2
import Derived.Test.YtodcckiphdnjeaaQFnFilledx4
import Derived.Test.YtodcckiphdnjeaaQFnFilledx5
namespace Go.Proofs.Ytodcckiphdnjeaa.QFnFilled
open Go.RowKit Go.Proofs.YtodcckiphdnjeaaW.PrintWords Go.Proofs.YtodcckiphdnjeaaW.PrintLast Go.Proofs.YtodcckiphdnjeaaW.PrintMore
attribute [local go_sem] max2_int min2_int max_two min_two max_three min_three max_four min_four   -- for this text's walks alone
set_option linter.unusedVariables false
set_option linter.unusedSimpArgs false

theorem bc3_17_ {W : World} {g : Nat} {v0 v1 v2 : Value} {t : TypeId} (h : W.heap[g]? = some (.cells #[v0, v1, v2] t (0, 0))) : W.cell? ⟨g, 0, none⟩ = some v0 ∧ W.cell? ⟨g, 1, none⟩ = some v1 ∧ W.cell? ⟨g, 2, none⟩ = some v2 ∧ W.frozen? ⟨g, 0, none⟩ = false ∧ W.frozen? ⟨g, 1, none⟩ = false ∧ W.frozen? ⟨g, 2, none⟩ = false := ⟨(blk_cell h 0).trans rfl, (blk_cell h 1).trans rfl, (blk_cell h 2).trans rfl, blk_frozen h 0, blk_frozen h 1, blk_frozen h 2⟩
theorem bd17_ {p q : Prop} (h0 : q) (h : q → p := by intro h_; (with_reducible repeat (first | refine blk_drewN ?_ _ | refine blk_drew ?_ | refine blk_alloc ?_ _)); exact h_) : p := h h0
theorem kd17_ {p q : Prop} (h0 : q) (h : q → p := by intro h_; (with_reducible repeat (first | apply Kd.R_alloc | apply Kd.R_drewN | apply Kd.R_drew)); exact h_) : p := h h0
theorem z17_0 {p : Prop} (h : p := by repeat (first | (with_reducible first | exact HB.out | apply below_alloc | apply pw_below_drewN | apply below_drew1) | exact HB.out)) : p := h
theorem z17_1 {p : Prop} (h : p := by repeat (first | (with_reducible first | exact HB.out | apply below_alloc | apply pw_below_drewN | apply below_drew1 | refine below_set ?_ GE366.out) | exact HB.out)) : p := h
theorem z17_2 {p : Prop} (h : p := by first | (with_reducible assumption) | assumption) : p := h
theorem z17_3 {p : Prop} (h : p := by (try simp only [List.map_toArray, List.map_cons, List.map_nil]); first | done | rfl | (simp only [List.length_drop, List.length_take]; rfl)) : p := h
theorem z17_4 {p : Prop} (h : p := by repeat (first | exact Drawn0.refl _ | apply Drawn0.step)) : p := h
theorem z17_5 {p : Prop} (h : p := by first | rfl | (simp; done) | (simp [*]; done)) : p := h
theorem z17_6 {p : Prop} (h : p := by repeat (first | (with_reducible first | exact HB.out | apply below_alloc | apply pw_below_drewN | apply below_drew1 | refine below_set ?_ GE376.out) | exact HB.out)) : p := h
/-! ### impl_patterns: function 58 -/
def impl_patterns.l0 : Nat → ByteArray → List ByteArray → List (List Int) → Int → Int → Option (List ByteArray)
  | 0, _, _, _, _, _ => none
  | k + 1, x1, x5, x13, x14, x15 => if x15 < x14 then (if 0 ≤ x15 then (if x15 < (x13.length : Int) then ((impl_readCells.f k x1 (rd_L3 x13 x15)).bind fun t372 => (if x5.length < 8796093022208 then (impl_patterns.l0 k x1 (x5 ++ [t372]) x13 x14 (wrap64 (x15 + 1))) else (none))) else (none)) else (none)) else (some x5)
def impl_patterns.f (k : Nat) (a0_0 : Int) (a0_1 : Int) (a0_2 : ByteArray) (a1 : ByteArray) : Option (List ByteArray) := (impl_IsFill.f k a0_0 a0_1 a0_2 a1).bind fun t367 => (if t367 = true then ((impl_layout.f k a0_0 a0_1 a0_2).bind fun t368 => (impl_patterns.l0 k a1 ([] : List ByteArray) t368 (t368.length : Int) 0)) else (some ([] : List ByteArray)))
theorem impl_patterns.mono_l : ∀ k, (∀ y0 y1 y2 y3 y4, LeO (impl_patterns.l0 k y0 y1 y2 y3 y4) (impl_patterns.l0 (k + 1) y0 y1 y2 y3 y4))
  | 0 => fun _ _ _ _ _ r h => by simp [impl_patterns.l0] at h
  | k + 1 => by
   have ih0 := impl_patterns.mono_l k
   ·intro y0 y1 y2 y3 y4
    unfold impl_patterns.l0
    with_reducible repeat' first
    | exact ih0 _ _ _ _ _
    | exact impl_IsFill.mono _ _ _ _ _
    | exact impl_layout.mono _ _ _ _
    | exact impl_readCells.mono _ _ _
    | exact LeO.refl _
    | exact LeO.none _
    | refine LeO.ite ?_ ?_
    | refine LeO.bind ?_ (fun _ => ?_)
theorem impl_patterns.mono : ∀ a0 a1 a2 a3 k, LeO (impl_patterns.f k a0 a1 a2 a3) (impl_patterns.f (k + 1) a0 a1 a2 a3) := by
  intro a0 a1 a2 a3 k
  have ih0 := impl_patterns.mono_l k; unfold impl_patterns.f
  with_reducible repeat' first
  | exact ih0 _ _ _ _ _
  | exact impl_IsFill.mono _ _ _ _ _
  | exact impl_layout.mono _ _ _ _
  | exact impl_readCells.mono _ _ _
  | exact LeO.refl _
  | exact LeO.none _
  | refine LeO.ite ?_ ?_
  | refine LeO.bind ?_ (fun _ => ?_)
set_option maxHeartbeats 8000000 in
set_option maxRecDepth 100000 in
theorem impl_patterns.calls (k : Nat) (a0_0 : Int) (a0_1 : Int) (a0_2 : ByteArray) (a1 : ByteArray) (r : List ByteArray) (w : World) (h : impl_patterns.f k a0_0 a0_1 a0_2 a1 = some r) :
   Calls Try.prog 58 #[.agg #[.int .i64 a0_0, .int .i64 a0_1, .string a0_2], .string a1] w fun e w' => ∃ v0_ : Value, e = .returned (v0_) ∧ Kd.R Kd.string 9 w' w.heap.size (fun _ => True) v0_ r ∧ Below w.heap.size w w' := by
  have hu28 := Try.underlying28; have HB := Aside0.mk (Below.refl w.heap.size w); have H : ((impl_IsFill.f k a0_0 a0_1 a0_2 a1).bind fun t367 => (if t367 = true then ((impl_layout.f k a0_0 a0_1 a0_2).bind fun t368 => (impl_patterns.l0 k a1 ([] : List ByteArray) t368 (t368.length : Int) 0)) else (some ([] : List ByteArray)))) = some r := h; clear h; replace H := Option.bind_eq_some_iff.mp H; obtain ⟨t367, A30, H⟩ := H; try dsimp only at H
  have A3 := Aside0.mk A30; clear A30; by_cases c4 : t367 = true
  ·subst c4; rw [if_pos rfl] at H
   replace H := Option.bind_eq_some_iff.mp H; obtain ⟨t368, A50, H⟩ := H; try dsimp only at H
   have A5 := Aside0.mk A50; clear A50; have H' := Aside0.mk H
   clear H; go_enter Try.func58, Try.ntmps58
   go_wp2_with (first | ((with_reducible refine gate_dst (N := 2) rfl ?_); refine box_event ?hg (N := 2) ?hd (cs := #[.int .i64 a0_0, .int .i64 a0_1, .string a0_2]) (t := 28) ?hr ?_; (case hd => rfl); (case hg => rfl); (case hr => first | (go_simp; done) | (go_simp; rfl)); intro gb366 hg w6 hbox hb; have BK366 := Aside0.mk (hbox); have GW366 := Aside0.mk ((by rw [hg]; exact (below_size z17_0) : w.heap.size ≤ gb366)); have GE366 := Aside0.mk ((by rw [hg]; exact (below_size z17_0) : w.heap.size ≤ gb366)); replace HB := Aside0.mk (below_step z17_0 hb); clear hb hbox hg; obtain ⟨hcz7_0, hcz7_1, hcz7_2, hfz7_0, hfz7_1, hfz7_2⟩ := bc3_17_ BK366.out) | ((with_reducible refine gate_callee (f := 39) rfl ?_); refine goesL_ (some 10) rfl rfl Try.func39 (by kernel_rfl) rfl #[.agg #[.int .i64 a0_0, .int .i64 a0_1, .string a0_2], .string a1] rfl z17_3 ?_; (with_reducible refine (impl_IsFill.calls k a0_0 a0_1 a0_2 a1 true _ A3.out).mono ?_); rintro e w8 ⟨rfl, hb⟩; refine ⟨_, rfl, ?_⟩; replace BK366 := Aside0.mk (blk_below (g := gb366) (o := .cells #[.int .i64 a0_0, .int .i64 a0_1, .string a0_2] 28 (0, 0)) (bd17_ BK366.out) hb); replace HB := Aside0.mk (below_step z17_1 hb); (try clear hb); obtain ⟨hcz9_0, hcz9_1, hcz9_2, hfz9_0, hfz9_1, hfz9_2⟩ := bc3_17_ BK366.out) | ((with_reducible refine gate_callee (f := 50) rfl ?_); refine goesL_ (some 13) rfl rfl Try.func50 (by kernel_rfl) rfl #[.agg #[.int .i64 a0_0, .int .i64 a0_1, .string a0_2]] rfl z17_3 ?_; (with_reducible refine (impl_layout.calls k a0_0 a0_1 a0_2 t368 _ A5.out).mono ?_); rintro e w10 ⟨v369, rfl, ho0, hb⟩; refine ⟨_, rfl, ?_⟩; have HO370 := Aside0.mk (Kd.S_lower ho0 (below_size z17_1)); replace BK366 := Aside0.mk (blk_below (g := gb366) (o := .cells #[.int .i64 a0_0, .int .i64 a0_1, .string a0_2] 28 (0, 0)) (bd17_ BK366.out) hb); replace HB := Aside0.mk (below_step z17_1 hb); (try clear hb); (try clear ho0); obtain ⟨Ao11, co11, eo11⟩ := Kd.S_slice HO370.out; subst eo11))
   go_loopg [5, 15] k (fun kq v5 v15 w' => ∃ (x5_1 : List ByteArray) (x15_1 : Int), v15 = .int .i64 x15_1 ∧ Aside0 (impl_patterns.l0 kq a1 x5_1 t368 (t368.length : Int) x15_1 = some r) ∧ Aside0 (kq ≤ k) ∧ Aside0 (Kd.R Kd.string 9 w' w.heap.size (fun _ => True) v5 x5_1) ∧ Aside0 (Kd.S (Kd.slice 3 (Kd.int .i64)) 62 w' w.heap.size (fun _ => True) (.slice Ao11 t368.length co11) t368) ∧ Aside0 (w'.heap[gb366]? = some (.cells #[.int .i64 a0_0, .int .i64 a0_1, .string a0_2] 28 (0, 0))) ∧ Aside0 (Below w.heap.size w w'))
   case atStart => exact ⟨(([] : List ByteArray)), (0), z17_5, H', ⟨Nat.le_refl _⟩, ⟨by first | exact Kd.R_nil _ _ _ _ _ | exact Kd.N_nil _ _ _ _ _ | exact Kd.V_nil _ _ _ _ _ | exact Kd.Q_nil _ _ _ _ _ | exact Kd.S_nil _ _ _ _ _⟩, ⟨by (with_reducible repeat (first | apply Kd.S_alloc | apply Kd.S_drewN | apply Kd.S_drew)); exact HO370.out⟩, ⟨by (with_reducible repeat (first | refine blk_drewN ?_ _ | refine blk_drew ?_ | refine blk_alloc ?_ _)); exact BK366.out⟩, ⟨z17_1⟩⟩
   case round =>
    clear H'; try clear p2
    try clear c3
    try clear c4
    try clear c5
    try clear hcz7_0
    try clear hcz7_1
    try clear hcz7_2
    try clear hcz9_0
    try clear hcz9_1
    try clear hcz9_2
    try clear hfz7_0
    try clear hfz7_1
    try clear hfz7_2
    try clear hfz9_0
    try clear hfz9_1
    try clear hfz9_2
    obtain ⟨x5_1, x15_1, rfl, HA, HK1, HO_5, HO_13, BK366, HB⟩ := hrel
    cases gk with
    | zero => exact absurd HA.out (by simp [impl_patterns.l0])
    | succ k1 =>
     have H := HA.out; clear HA; simp only [impl_patterns.l0] at H; by_cases c12 : x15_1 < (t368.length : Int)
     ·rw [if_pos c12] at H
      have c12b0 : decide (x15_1 < (t368.length : Int)) = true := decide_eq_true c12; clear c12; by_cases c13 : 0 ≤ x15_1
      ·rw [if_pos c13] at H
       have c13b0 : decide (0 ≤ x15_1) = true := decide_eq_true c13; clear c13; by_cases c14 : x15_1 < (t368.length : Int)
       ·rw [if_pos c14] at H
        have c14b0 : decide (x15_1 < (t368.length : Int)) = true := decide_eq_true c14; clear c14; replace H := Option.bind_eq_some_iff.mp H; obtain ⟨t372, A150, H⟩ := H; try dsimp only at H
        have A15 := Aside0.mk A150; clear A150; by_cases c16 : x5_1.length < 8796093022208
        ·rw [if_pos c16] at H
         have LMc16 := Aside0.mk c16; clear c16; obtain ⟨y373, hy373⟩ : ∃ y_ : List ByteArray, y_ = (x5_1 ++ [t372]) := ⟨_, rfl⟩; replace H : (impl_patterns.l0 k1 a1 y373 t368 (t368.length : Int) (wrap64 (x15_1 + 1))) = some r := by first | (rw [hy373]; with_reducible exact H) | (have H2_ := (Option.bind_some _ _).symm.trans H; rw [hy373]; with_reducible exact H2_) | (have H2_ := (Option.bind_some _ _).symm.trans H; with_reducible exact H2_) | with_reducible exact H | (rw [hy373]; exact H) | exact H
         have Ny373 := Aside0.mk hy373; clear hy373; have H' := Aside0.mk H
         clear H; have p371 : 0 ≤ (x15_1 : Int) := of_decide_eq_true z17_2; have q371 : x15_1 < (t368.length : Int) := of_decide_eq_true z17_2; obtain ⟨ad371, A371_0, c371_0, e371, hx371_0, hl371_0, hi371_0⟩ := at_L3 (Kd.S_reads' HO_13.out).2.2 x15_1 p371 q371
         cases e371; obtain ⟨ce371, hce371, hMe371, hcc371⟩ := Kd.S_get HO_13.out [] x15_1 p371 (by first | exact q371 | exact of_decide_eq_true z17_2 | (have e_ := (Kd.S_reads' HO_13.out).1; omega))
         obtain ⟨ve371_0, rfl, ge371_0⟩ := hMe371; have hv371_0 := hcc371 0 _ rfl; rw [Nat.add_zero, show ((Kd.slice 3 (Kd.int .i64))).sz = 1 from rfl, Nat.mul_one] at hv371_0
         replace hv371_0 := Option.some.inj (hv371_0.symm.trans hx371_0); rw [hv371_0] at ge371_0
         have HL371_0 := Aside0.mk (show Kd.R (Kd.int .i64) 3 _ _ _ _ (rd_L3 t368 x15_1) from ge371_0); clear hv371_0 ge371_0; clear hcc371 hce371; have HR371_0 := Aside0.mk hi371_0; have HC371_0 := Aside0.mk hl371_0; clear hi371_0 hl371_0; replace p371 := eq_true p371; replace q371 := eq_true q371; go_wp2_with (first | ((with_reducible refine gate_callee (f := 88) rfl ?_); refine goesL_ (some 22) rfl rfl Try.func88 (by kernel_rfl) rfl #[.string a1, .slice A371_0 (rd_L3 t368 x15_1).length c371_0] rfl z17_3 ?_; (with_reducible refine (impl_readCells.calls k1 a1 _ _ (rd_L3 t368 x15_1) t372 _ ?side1 ?side2 A15.out).mono ?_); (case side1 => repeat (first | exact (by repeat (first | (with_reducible exact HR371_0.out) | (with_reducible refine Kd.C_alloc ?_ _) | (with_reducible refine Kd.C_drewN ?_ _) | (with_reducible refine Kd.C_drew ?_) | exact HR371_0.out)) | (with_reducible refine Kd.C_alloc ?_ _) | (with_reducible refine Kd.C_drewN ?_ _) | (with_reducible refine Kd.C_drew ?_))); (case side2 => exact HC371_0.out); rintro e w17 ⟨rfl, hb⟩; refine ⟨_, rfl, ?_⟩; replace HO_5 := Aside0.mk (Kd.R_below (kd17_ HO_5.out) hb); replace HO_13 := Aside0.mk (Kd.S_below (by (with_reducible repeat (first | apply Kd.S_alloc | apply Kd.S_drewN | apply Kd.S_drew)); exact HO_13.out) hb); replace HL371_0 := Aside0.mk (Kd.R_below (kd17_ HL371_0.out) hb); replace BK366 := Aside0.mk (blk_below (g := gb366) (o := .cells #[.int .i64 a0_0, .int .i64 a0_1, .string a0_2] 28 (0, 0)) (bd17_ BK366.out) hb); replace HR371_0 := Aside0.mk (Kd.C_below (by repeat (first | (with_reducible exact HR371_0.out) | (with_reducible refine Kd.C_alloc ?_ _) | (with_reducible refine Kd.C_drewN ?_ _) | (with_reducible refine Kd.C_drew ?_) | exact HR371_0.out)) hb); replace HB := Aside0.mk (below_step z17_1 hb); (try clear hb)) | ((with_reducible refine gate_builtin (b := .append) (xs := #[.tmp 19, .tmp 23]) rfl ?_); at_builtin; refine Kd.R_append Kd.string (w0 := w) w.heap.size rfl (.tmp 19) (.tmp 23) 24 9 (.string ⟨#[]⟩) 16 rfl Try.underlying24 info9 rfl (by decide) (by omega) u5 x5_1 t372 [.string t372] (fun _ => True) (fun _ => False) rfl rfl ?aP (fun _ hk => hk.elim) ?aF ?aO ?aB ?aS ?aL ?_; (case aP => exact rfl); (case aB => exact z17_1); (case aF => exact (fun _ _ => trivial)); (case aO => exact (kd17_ HO_5.out)); (case aS => exact (below_size z17_1)); (case aL => have := LMc16.out; omega); intro v374 w18 ho hb hg hat; rw [← Ny373.out] at ho; have n0_ := Aside0.mk (Kd.S_over' (by (with_reducible repeat (first | apply Kd.S_alloc | apply Kd.S_drewN | apply Kd.S_drew)); exact HO_13.out) (Kd.R_typed (kd17_ HO_5.out)) (by decide) hg); have n1_ := Aside0.mk (blk_grown (g := gb366) (o := .cells #[.int .i64 a0_0, .int .i64 a0_1, .string a0_2] 28 (0, 0)) (bd17_ BK366.out) hg (Kd.R_ne HO_5.out BK366.out (by decide))); have n2_ := Aside0.mk (Kd.R_over' (kd17_ HL371_0.out) (Kd.R_typed (kd17_ HO_5.out)) (by decide) hg); have n3_ := Aside0.mk (hb); have n4_ := Aside0.mk (ho); clear HO_13; clear BK366; clear HL371_0; clear HB; clear HO_5; have HO_13 := n0_; have BK366 := n1_; have HL371_0 := n2_; have HB := n3_; have HO375 := n4_; clear n0_ n1_ n2_ n3_ n4_; clear ho hb hg hat))
         go_roundg k1
         case measure => have := HK1.out; omega
         case rel => exact ⟨(y373), (wrap64 (x15_1 + 1)), z17_5, H', ⟨by have := HK1.out; omega⟩, ⟨by (with_reducible repeat (first | apply Kd.R_alloc | apply Kd.R_drewN | apply Kd.R_drew)); exact HO375.out⟩, ⟨by (with_reducible repeat (first | apply Kd.S_alloc | apply Kd.S_drewN | apply Kd.S_drew)); exact HO_13.out⟩, ⟨by (with_reducible repeat (first | refine blk_drewN ?_ _ | refine blk_drew ?_ | refine blk_alloc ?_ _)); exact BK366.out⟩, ⟨z17_1⟩⟩
        ·rw [if_neg c16] at H
         exact absurd H (by simp)
       ·rw [if_neg c14] at H
        exact absurd H (by simp)
      ·rw [if_neg c13] at H
       exact absurd H (by simp)
     ·rw [if_neg c12] at H
      have c12b0 : decide (x15_1 < (t368.length : Int)) = false := decide_eq_false c12; clear c12; obtain rfl := Option.some.inj H; go_wp2
      go_ret
      exact ⟨_, by first | rfl | (simp [errW_none, errW_some] <;> rfl) | (simp [*, errW_none, errW_some] <;> rfl), by (with_reducible repeat (first | apply Kd.R_alloc | apply Kd.R_drewN | apply Kd.R_drew)); exact HO_5.out, z17_1⟩
  ·replace c4 := Bool.eq_false_iff.mpr c4; subst c4; rw [if_neg (show ¬ (false = true) by decide)] at H
   obtain rfl := Option.some.inj H; go_enter Try.func58, Try.ntmps58
   go_wp2_with (first | ((with_reducible refine gate_dst (N := 2) rfl ?_); refine box_event ?hg (N := 2) ?hd (cs := #[.int .i64 a0_0, .int .i64 a0_1, .string a0_2]) (t := 28) ?hr ?_; (case hd => rfl); (case hg => rfl); (case hr => first | (go_simp; done) | (go_simp; rfl)); intro gb366 hg w19 hbox hb; have BK366 := Aside0.mk (hbox); have GW366 := Aside0.mk ((by rw [hg]; exact (below_size z17_0) : w.heap.size ≤ gb366)); have GE366 := Aside0.mk ((by rw [hg]; exact (below_size z17_0) : w.heap.size ≤ gb366)); replace HB := Aside0.mk (below_step z17_0 hb); clear hb hbox hg; obtain ⟨hcz20_0, hcz20_1, hcz20_2, hfz20_0, hfz20_1, hfz20_2⟩ := bc3_17_ BK366.out) | ((with_reducible refine gate_callee (f := 39) rfl ?_); refine goesL_ (some 10) rfl rfl Try.func39 (by kernel_rfl) rfl #[.agg #[.int .i64 a0_0, .int .i64 a0_1, .string a0_2], .string a1] rfl z17_3 ?_; (with_reducible refine (impl_IsFill.calls k a0_0 a0_1 a0_2 a1 false _ A3.out).mono ?_); rintro e w21 ⟨rfl, hb⟩; refine ⟨_, rfl, ?_⟩; replace BK366 := Aside0.mk (blk_below (g := gb366) (o := .cells #[.int .i64 a0_0, .int .i64 a0_1, .string a0_2] 28 (0, 0)) (bd17_ BK366.out) hb); replace HB := Aside0.mk (below_step z17_1 hb); (try clear hb)))
   go_ret
   exact ⟨_, by first | rfl | (simp [errW_none, errW_some] <;> rfl) | (simp [*, errW_none, errW_some] <;> rfl), by first | exact Kd.R_nil _ _ _ _ _ | exact Kd.N_nil _ _ _ _ _ | exact Kd.V_nil _ _ _ _ _ | exact Kd.Q_nil _ _ _ _ _ | exact Kd.S_nil _ _ _ _ _, z17_1⟩

/-! ### impl_openIn: function 60 -/
def impl_openIn.l0 : Nat → ByteArray → Int → Int → Int → Option (Int)
  | 0, _, _, _, _ => none
  | k + 1, x0, x3, x6, x7 => if x7 < x6 then (if 0 ≤ x7 then (if x7 < (x0.size : Int) then (if (bt x0 x7) = 63 then (impl_openIn.l0 k x0 (wrap64 (x3 + 1)) x6 (wrap64 (x7 + 1))) else (impl_openIn.l0 k x0 x3 x6 (wrap64 (x7 + 1)))) else (none)) else (none)) else (some x3)
def impl_openIn.f (k : Nat) (a0 : ByteArray) : Option (Int) := impl_openIn.l0 k a0 0 (a0.size : Int) 0
theorem impl_openIn.mono_l : ∀ k, (∀ y0 y1 y2 y3, LeO (impl_openIn.l0 k y0 y1 y2 y3) (impl_openIn.l0 (k + 1) y0 y1 y2 y3))
  | 0 => fun _ _ _ _ r h => by simp [impl_openIn.l0] at h
  | k + 1 => by
   have ih0 := impl_openIn.mono_l k
   ·intro y0 y1 y2 y3
    unfold impl_openIn.l0
    with_reducible repeat' first
    | exact ih0 _ _ _ _
    | exact LeO.refl _
    | exact LeO.none _
    | refine LeO.ite ?_ ?_
    | refine LeO.bind ?_ (fun _ => ?_)
theorem impl_openIn.mono : ∀ a0 k, LeO (impl_openIn.f k a0) (impl_openIn.f (k + 1) a0) := by
  intro a0 k
  have ih0 := impl_openIn.mono_l k; unfold impl_openIn.f
  with_reducible repeat' first
  | exact ih0 _ _ _ _
  | exact LeO.refl _
  | exact LeO.none _
  | refine LeO.ite ?_ ?_
  | refine LeO.bind ?_ (fun _ => ?_)
set_option maxHeartbeats 8000000 in
set_option maxRecDepth 100000 in
theorem impl_openIn.calls (k : Nat) (a0 : ByteArray) (r : Int) (w : World) (h : impl_openIn.f k a0 = some r) :
   Calls Try.prog 60 #[.string a0] w fun e w' => e = .returned (.int .i64 r) ∧ Drawn0 w w' := by
  have H : (impl_openIn.l0 k a0 0 (a0.size : Int) 0) = some r := h; clear h; have H' := Aside0.mk H
  clear H; go_enter Try.func60, Try.ntmps60
  go_wp2
  go_loopg [3, 7] k (fun kq v3 v7 w' => ∃ (x3_1 : Int) (x7_1 : Int), v3 = .int .i64 x3_1 ∧ v7 = .int .i64 x7_1 ∧ Aside0 (impl_openIn.l0 kq a0 x3_1 (a0.size : Int) x7_1 = some r) ∧ Aside0 (kq ≤ k) ∧ Drawn0 w w')
  case atStart => exact ⟨(0), (0), z17_5, z17_5, H', ⟨Nat.le_refl _⟩, z17_4⟩
  case round =>
   clear H'; obtain ⟨x3_1, x7_1, rfl, rfl, HA, HK1, ⟨m1, rfl⟩⟩ := hrel
   cases gk with
   | zero => exact absurd HA.out (by simp [impl_openIn.l0])
   | succ k1 =>
    have H := HA.out; clear HA; simp only [impl_openIn.l0] at H; by_cases c2 : x7_1 < (a0.size : Int)
    ·rw [if_pos c2] at H
     have c2b0 : decide (x7_1 < (a0.size : Int)) = true := decide_eq_true c2; clear c2; by_cases c3 : 0 ≤ x7_1
     ·rw [if_pos c3] at H
      have c3b0 : decide (0 ≤ x7_1) = true := decide_eq_true c3; clear c3; by_cases c4 : x7_1 < (a0.size : Int)
      ·rw [if_pos c4] at H
       have c4b0 : decide (x7_1 < (a0.size : Int)) = true := decide_eq_true c4; clear c4; by_cases c6 : (bt a0 x7_1) = 63
       ·rw [if_pos c6] at H
        have c6b0 : ((bt a0 x7_1) == 63) = true := beq_iff_eq.mpr c6; have c6b1 : ((bt a0 x7_1) != 63) = false := bne_eq_false_iff_eq.mpr c6; clear c6; have H' := Aside0.mk H
        clear H; have p5 : 0 ≤ (x7_1 : Int) := of_decide_eq_true z17_2; have q5 : x7_1 < (a0.size : Int) := of_decide_eq_true z17_2; have hx5 := bt_at a0 x7_1; replace p5 := eq_true p5; replace q5 := eq_true q5; go_wp2
        go_roundg k1
        case measure => have := HK1.out; omega
        case rel => exact ⟨(wrap64 (x3_1 + 1)), (wrap64 (x7_1 + 1)), z17_5, z17_5, H', ⟨by have := HK1.out; omega⟩, z17_4⟩
       ·rw [if_neg c6] at H
        have c6b0 : ((bt a0 x7_1) == 63) = false := beq_eq_false_iff_ne.mpr c6; have c6b1 : ((bt a0 x7_1) != 63) = true := bne_iff_ne.mpr c6; have H' := Aside0.mk H
        clear H; have p5 : 0 ≤ (x7_1 : Int) := of_decide_eq_true z17_2; have q5 : x7_1 < (a0.size : Int) := of_decide_eq_true z17_2; have hx5 := bt_at a0 x7_1; replace p5 := eq_true p5; replace q5 := eq_true q5; go_wp2
        go_roundg k1
        case measure => have := HK1.out; omega
        case rel => exact ⟨(x3_1), (wrap64 (x7_1 + 1)), z17_5, z17_5, H', ⟨by have := HK1.out; omega⟩, z17_4⟩
      ·rw [if_neg c4] at H
       exact absurd H (by simp)
     ·rw [if_neg c3] at H
      exact absurd H (by simp)
    ·rw [if_neg c2] at H
     have c2b0 : decide (x7_1 < (a0.size : Int)) = false := decide_eq_false c2; clear c2; obtain rfl := Option.some.inj H; go_wp2
     go_ret
     exact ⟨z17_5, z17_4⟩

-- NOT PRINTED: function 59 (impl_WordsIn_1)

/-! ### impl_WordsIn: function 23 (given) -/
/-- How many question marks stand from place i on. -/
def openN (s : ByteArray) (i : Nat) : Nat := (List.range' i (s.size - i)).countP fun j : Nat => bt s (j : Int) == 63
theorem openN_end (s : ByteArray) (i : Nat) (h : s.size ≤ i) : openN s i = 0 := by
  unfold openN
  rw [show s.size - i = 0 by omega]
  rfl
theorem openN_step (s : ByteArray) (i : Nat) (h : i < s.size) : openN s i = (if bt s (i : Int) = 63 then 1 else 0) + openN s (i + 1) := by
  unfold openN
  rw [show s.size - i = (s.size - (i + 1)) + 1 by omega, List.range'_succ, List.countP_cons]
  by_cases hb : bt s (i : Int) = 63
  · simp [hb]
    omega
  · simp [hb]
theorem owrap (n : Nat) (h : n ≤ 1048576) : wrap64 ((n : Int) + 1) = (n : Int) + 1 := by
  unfold wrap64
  omega
theorem impl_openIn_calls (s : ByteArray) (w : World) (hs : s.size ≤ 1048576) :
    Calls Try.prog 60 #[.string s] w fun e w' => e = .returned (.int .i64 (openN s 0 : Nat)) ∧ Drawn0 w w' := by
  go_enter Try.func60, Try.ntmps60
  go_wp2
  go_loopg [3, 7] s.size (fun kq v3 v7 w' => ∃ (i n : Nat), v3 = .int .i64 (n : Int) ∧ v7 = .int .i64 (i : Int) ∧ Aside0 (i ≤ s.size) ∧ Aside0 (s.size - i ≤ kq) ∧ Aside0 (n ≤ i) ∧ Aside0 (n + openN s i = openN s 0) ∧ Drawn0 w w')
  case atStart => exact ⟨0, 0, rfl, rfl, ⟨Nat.zero_le _⟩, ⟨by omega⟩, ⟨Nat.le_refl _⟩, ⟨by omega⟩, Drawn0.refl _⟩
  case round =>
    obtain ⟨i, n, rfl, rfl, hi, hk, hn, heq, ⟨m1, rfl⟩⟩ := hrel; by_cases hlt : i < s.size
    · have cb0 : decide ((i : Int) < (s.size : Int)) = true := by simp; exact hlt
      have p1 : (0 ≤ (i : Int)) = True := eq_true (by omega); have q1 : ((i : Int) < (s.size : Int)) = True := eq_true (by omega); have hx8 := bt_at s (i : Int); simp only [Int.toNat_natCast] at hx8; have heq' := heq.out
      have hn' := hn.out
      rw [openN_step s i hlt] at heq'
      by_cases hb : bt s (i : Int) = 63
      · rw [if_pos hb] at heq'
        have HE := Aside0.mk heq'; have HN := Aside0.mk hn'; have zb : (bt s (i : Int) == 63) = true := beq_iff_eq.mpr hb; clear heq heq' hn hn' hb; go_wp2
        go_roundg (s.size - (i + 1))
        case measure => have := hk.out; omega
        case rel => exact ⟨i + 1, n + 1, by rw [owrap n (by have := HN.out; omega)]; simp, by simp, ⟨by omega⟩, ⟨Nat.le_refl _⟩, ⟨by have := HN.out; omega⟩, ⟨by have := HE.out; omega⟩, z17_4⟩
      · rw [if_neg hb] at heq'
        have HE := Aside0.mk heq'; have HN := Aside0.mk hn'; have zb : (bt s (i : Int) == 63) = false := beq_eq_false_iff_ne.mpr hb; clear heq heq' hn hn' hb; go_wp2
        go_roundg (s.size - (i + 1))
        case measure => have := hk.out; omega
        case rel => exact ⟨i + 1, n, by simp, by simp, ⟨by omega⟩, ⟨Nat.le_refl _⟩, ⟨by have := HN.out; omega⟩, ⟨by have := HE.out; omega⟩, z17_4⟩
    · have cb0 : decide ((i : Int) < (s.size : Int)) = false := by simp; omega
      have HE := heq.out; rw [openN_end s i (by omega)] at HE
      have HE' := Aside0.mk HE
      clear HE heq; go_wp2
      go_ret
      exact ⟨by rw [← HE'.out] <;> rfl, z17_4⟩
/-- Is nothing open? -/
def closedM (s : ByteArray) : Bool := openN s 0 == 0
theorem wordsIn_keep_calls (s : ByteArray) (w : World) (hs : s.size ≤ 1048576) :
    Calls Try.prog 59 #[.string s] w fun e w' => e = .returned (.bool (closedM s)) ∧ Drawn0 w w' := by
  have ko := fun W => impl_openIn_calls s W hs
  have hz : (((openN s 0 : Nat) : Int) == 0) = closedM s := by
    unfold closedM
    cases openN s 0 <;> rfl
  go_enter Try.func59, Try.ntmps59
  go_wp2_with (go_at_call 60; refine (ko _).mono ?_; rintro e w' ⟨rfl, ⟨nd, rfl⟩⟩)
  go_ret
  exact ⟨by rw [← hz] <;> rfl, nd, rfl⟩
theorem wordsIn_those_calls (A0 : Option Addr) (c0 : Nat) (l0 : List ByteArray) (w : World) (hr0 : Kd.C Kd.string w A0 l0.length l0) (hl : l0.length ≤ 1048576) (hs : ∀ s ∈ l0, s.size ≤ 1048576) :
    Calls Try.prog 57 #[.slice A0 l0.length c0, .func (.func 59) #[] #[]] w fun e w' => ∃ v0_ : Value, e = .returned (v0_) ∧ Kd.R Kd.string 9 w' w.heap.size (fun _ => True) v0_ (l0.filter closedM) ∧ Below w.heap.size w w' := by
  have HR0 := Aside0.mk hr0; clear hr0; have HB := Aside0.mk (Below.refl w.heap.size w); go_enter Try.func57, Try.ntmps57
  go_wp2
  go_loopg [5, 10] l0.length (fun kq v5 v10 w' => ∃ (i : Nat) (acc : List ByteArray), v10 = .int .i64 (i : Int) ∧ Aside0 (i ≤ l0.length) ∧ Aside0 (l0.length - i ≤ kq) ∧ Aside0 (acc.length ≤ i) ∧ Aside0 (acc ++ (l0.drop i).filter closedM = l0.filter closedM) ∧ Aside0 (Kd.R Kd.string 9 w' w.heap.size (fun _ => True) v5 acc) ∧ Aside0 (Below w.heap.size w w'))
  case atStart => exact ⟨0, [], rfl, ⟨Nat.zero_le _⟩, ⟨by omega⟩, ⟨Nat.le_refl _⟩, ⟨rfl⟩, ⟨Kd.R_nil _ _ _ _ _⟩, ⟨z17_0⟩⟩
  case round =>
    clear HB; obtain ⟨i, acc, rfl, hi, hk, hn, heq, HO, HB⟩ := hrel; by_cases hlt : i < l0.length
    · have cb0 : decide ((i : Int) < (l0.length : Int)) = true := by simp; exact hlt
      have hcr : rdOf ByteArray.empty l0 (i : Int) = l0[i] := by
        unfold rdOf
        simp [hlt]
      obtain ⟨ad, e1, hx⟩ := Kd.at_string HR0.out (i : Int) (by omega) (by omega)
      cases e1; replace hx := (HB.out.cell (World.block_lt_of_cell? w _ hx)).trans hx; rw [hcr] at hx
      simp only [Int.toNat_natCast] at hx; have p1 : (0 ≤ (i : Int)) = True := eq_true (by omega); have q1 : ((i : Int) < (l0.length : Int)) = True := eq_true (by omega); have kk := fun W => wordsIn_keep_calls l0[i] W (hs _ (List.getElem_mem hlt))
      have heq' := heq.out
      rw [List.drop_eq_getElem_cons hlt, List.filter_cons] at heq'
      generalize l0[i] = x at hx kk heq'
      clear hcr heq; obtain ⟨Ao9, co9, eo9⟩ := Kd.R_slice HO.out; subst eo9; by_cases hb : closedM x = true
      · rw [if_pos hb] at heq'
        rw [hb] at kk
        have HE := Aside0.mk (show (acc ++ [x]) ++ (l0.drop (i + 1)).filter closedM = l0.filter closedM by rw [← heq']; simp); have LM := Aside0.mk (show acc.length ≤ 1048576 by have := hn.out; omega); clear heq' hb; go_wp2_with (first | (go_at_call 59; refine (kk _).mono ?_; rintro e w' ⟨rfl, ⟨nd, rfl⟩⟩) | ((with_reducible refine gate_builtin (b := .append) (xs := #[.tmp 17, .tmp 19]) rfl ?_); at_builtin; refine Kd.R_append Kd.string (w0 := w) w.heap.size rfl (.tmp 17) (.tmp 19) 24 9 (.string ⟨#[]⟩) 16 rfl Try.underlying24 info9 rfl (by decide) (by omega) (.slice Ao9 acc.length co9) acc x [.string x] (fun _ => True) (fun _ => False) rfl rfl ?aP (fun _ hk => hk.elim) ?aF ?aO ?aB ?aS ?aL ?_; (case aP => exact rfl); (case aB => exact z17_0); (case aF => exact (fun _ _ => trivial)); (case aO => exact (kd17_ HO.out)); (case aS => exact (below_size z17_0)); (case aL => have := LM.out; omega); intro v128 w10 ho hb hg hat; have n0_ := Aside0.mk (hb); have n1_ := Aside0.mk (ho); clear HB; clear HO; have HB := n0_; have HO129 := n1_; clear n0_ n1_; clear ho hb hg hat))
        go_roundg (l0.length - (i + 1))
        case measure => have := hk.out; omega
        case rel => exact ⟨i + 1, acc ++ [x], by simp, ⟨by omega⟩, ⟨Nat.le_refl _⟩, ⟨by have := hn.out; simp; omega⟩, HE, ⟨by (with_reducible repeat (first | apply Kd.R_alloc | apply Kd.R_drewN | apply Kd.R_drew)); exact HO129.out⟩, ⟨z17_0⟩⟩
      · rw [if_neg hb] at heq'
        rw [Bool.not_eq_true] at hb
        rw [hb] at kk
        have HE := Aside0.mk heq'; clear heq' hb; go_wp2_with (go_at_call 59; refine (kk _).mono ?_; rintro e w' ⟨rfl, ⟨nd, rfl⟩⟩)
        go_roundg (l0.length - (i + 1))
        case measure => have := hk.out; omega
        case rel => exact ⟨i + 1, acc, by simp, ⟨by omega⟩, ⟨Nat.le_refl _⟩, ⟨by have := hn.out; omega⟩, HE, ⟨by (with_reducible repeat (first | apply Kd.R_alloc | apply Kd.R_drewN | apply Kd.R_drew)); exact HO.out⟩, ⟨z17_0⟩⟩
    · have cb0 : decide ((i : Int) < (l0.length : Int)) = false := by simp; omega
      have HE := heq.out; rw [List.drop_eq_nil_of_le (by omega), List.filter_nil, List.append_nil] at HE
      subst HE; clear heq; go_wp2
      go_ret
      exact ⟨_, rfl, by (with_reducible repeat (first | apply Kd.R_alloc | apply Kd.R_drewN | apply Kd.R_drew)); exact HO.out, z17_0⟩
def impl_WordsIn.f (k : Nat) (a0_0 : Int) (a0_1 : Int) (a0_2 : ByteArray) (a1 : ByteArray) : Option (List ByteArray) := (impl_patterns.f k a0_0 a0_1 a0_2 a1).bind fun t => if t.length ≤ 1048576 ∧ ∀ s ∈ t, s.size ≤ 1048576 then some (t.filter closedM) else none
theorem impl_WordsIn.mono : ∀ a0 a1 a2 a3 k, LeO (impl_WordsIn.f k a0 a1 a2 a3) (impl_WordsIn.f (k + 1) a0 a1 a2 a3) := by
  intro a0 a1 a2 a3 k
  unfold impl_WordsIn.f
  exact LeO.bind (impl_patterns.mono _ _ _ _ _) (fun _ => LeO.refl _)
theorem impl_WordsIn.calls (k : Nat) (a0_0 : Int) (a0_1 : Int) (a0_2 : ByteArray) (a1 : ByteArray) (r : List ByteArray) (w : World) (h : impl_WordsIn.f k a0_0 a0_1 a0_2 a1 = some r) :
    Calls Try.prog 23 #[.agg #[.int .i64 a0_0, .int .i64 a0_1, .string a0_2], .string a1] w fun e w' => ∃ v0_ : Value, e = .returned (v0_) ∧ Kd.R Kd.string 9 w' w.heap.size (fun _ => True) v0_ r ∧ Below w.heap.size w w' := by
  unfold impl_WordsIn.f at h
  obtain ⟨t, ht, h⟩ := Option.bind_eq_some_iff.mp h; by_cases hok : t.length ≤ 1048576 ∧ ∀ s ∈ t, s.size ≤ 1048576
  · rw [if_pos hok] at h
    injection h with h
    subst h; have kp := fun W => impl_patterns.calls k a0_0 a0_1 a0_2 a1 t W ht
    have kt := fun A0 c0 W hr => wordsIn_those_calls A0 c0 t W hr hok.1 hok.2
    go_enter Try.func23, Try.ntmps23
    go_wp2_with (first | (go_at_call 58; refine (kp _).mono ?_; rintro e w1 ⟨v0, rfl, ho0, hb⟩; obtain ⟨A0, c0, e0⟩ := Kd.R_slice ho0; subst e0; have hC := (Kd.R_reads' ho0).2.2) | (go_at_call 57; refine (kt _ _ _ hC).mono ?_; rintro e w2 ⟨v1, rfl, ho1, hb1⟩))
    go_ret
    have hB1 := below_step (w := w) (by repeat (first | exact Below.refl _ _ | apply below_alloc | apply pw_below_drewN | apply below_drew1)) hb
    exact ⟨_, rfl, Kd.R_lower ho1 hB1.size, below_step hB1 hb1⟩
  · rw [if_neg hok] at h
    cases h


/-! ### impl_IsFull: function 24 -/
def impl_IsFull.f (k : Nat) (a0_0 : Int) (a0_1 : Int) (a0_2 : ByteArray) (a1 : ByteArray) : Option (Bool) := (impl_IsFill.f k a0_0 a0_1 a0_2 a1).bind fun t377 => (if t377 = true then ((impl_openIn.f k a1).bind fun t378 => (some (t378 == 0))) else (some false))
theorem impl_IsFull.mono : ∀ a0 a1 a2 a3 k, LeO (impl_IsFull.f k a0 a1 a2 a3) (impl_IsFull.f (k + 1) a0 a1 a2 a3) := by
  intro a0 a1 a2 a3 k
  unfold impl_IsFull.f
  with_reducible repeat' first
  | exact impl_IsFill.mono _ _ _ _ _
  | exact impl_openIn.mono _ _
  | exact LeO.refl _
  | exact LeO.none _
  | refine LeO.ite ?_ ?_
  | refine LeO.bind ?_ (fun _ => ?_)
set_option maxHeartbeats 8000000 in
set_option maxRecDepth 100000 in
theorem impl_IsFull.calls (k : Nat) (a0_0 : Int) (a0_1 : Int) (a0_2 : ByteArray) (a1 : ByteArray) (r : Bool) (w : World) (h : impl_IsFull.f k a0_0 a0_1 a0_2 a1 = some r) :
   Calls Try.prog 24 #[.agg #[.int .i64 a0_0, .int .i64 a0_1, .string a0_2], .string a1] w fun e w' => e = .returned (.bool r) ∧ Below w.heap.size w w' := by
  have hu28 := Try.underlying28; have HB := Aside0.mk (Below.refl w.heap.size w); have H : ((impl_IsFill.f k a0_0 a0_1 a0_2 a1).bind fun t377 => (if t377 = true then ((impl_openIn.f k a1).bind fun t378 => (some (t378 == 0))) else (some false))) = some r := h; clear h; replace H := Option.bind_eq_some_iff.mp H; obtain ⟨t377, A30, H⟩ := H; try dsimp only at H
  have A3 := Aside0.mk A30; clear A30; by_cases c4 : t377 = true
  ·subst c4; rw [if_pos rfl] at H
   replace H := Option.bind_eq_some_iff.mp H; obtain ⟨t378, A50, H⟩ := H; try dsimp only at H
   have A5 := Aside0.mk A50; clear A50; obtain rfl := Option.some.inj H; go_enter Try.func24, Try.ntmps24
   go_wp2_with (first | ((with_reducible refine gate_dst (N := 2) rfl ?_); refine box_event ?hg (N := 2) ?hd (cs := #[.int .i64 a0_0, .int .i64 a0_1, .string a0_2]) (t := 28) ?hr ?_; (case hd => rfl); (case hg => rfl); (case hr => first | (go_simp; done) | (go_simp; rfl)); intro gb376 hg w6 hbox hb; have BK376 := Aside0.mk (hbox); have GW376 := Aside0.mk ((by rw [hg]; exact (below_size z17_0) : w.heap.size ≤ gb376)); have GE376 := Aside0.mk ((by rw [hg]; exact (below_size z17_0) : w.heap.size ≤ gb376)); replace HB := Aside0.mk (below_step z17_0 hb); clear hb hbox hg; obtain ⟨hcz7_0, hcz7_1, hcz7_2, hfz7_0, hfz7_1, hfz7_2⟩ := bc3_17_ BK376.out) | ((with_reducible refine gate_callee (f := 39) rfl ?_); refine goesL_ (some 7) rfl rfl Try.func39 (by kernel_rfl) rfl #[.agg #[.int .i64 a0_0, .int .i64 a0_1, .string a0_2], .string a1] rfl z17_3 ?_; (with_reducible refine (impl_IsFill.calls k a0_0 a0_1 a0_2 a1 true _ A3.out).mono ?_); rintro e w8 ⟨rfl, hb⟩; refine ⟨_, rfl, ?_⟩; replace BK376 := Aside0.mk (blk_below (g := gb376) (o := .cells #[.int .i64 a0_0, .int .i64 a0_1, .string a0_2] 28 (0, 0)) (bd17_ BK376.out) hb); replace HB := Aside0.mk (below_step z17_6 hb); (try clear hb)) | (go_at_call 60; (with_reducible refine (impl_openIn.calls k a1 t378 _ A5.out).mono ?_); rintro e w' ⟨rfl, ⟨nd, rfl⟩⟩))
   go_ret
   exact ⟨by first | rfl | (simp [errW_none, errW_some] <;> rfl) | (simp [*, errW_none, errW_some] <;> rfl), z17_6⟩
  ·replace c4 := Bool.eq_false_iff.mpr c4; subst c4; rw [if_neg (show ¬ (false = true) by decide)] at H
   obtain rfl := Option.some.inj H; go_enter Try.func24, Try.ntmps24
   go_wp2_with (first | ((with_reducible refine gate_dst (N := 2) rfl ?_); refine box_event ?hg (N := 2) ?hd (cs := #[.int .i64 a0_0, .int .i64 a0_1, .string a0_2]) (t := 28) ?hr ?_; (case hd => rfl); (case hg => rfl); (case hr => first | (go_simp; done) | (go_simp; rfl)); intro gb376 hg w9 hbox hb; have BK376 := Aside0.mk (hbox); have GW376 := Aside0.mk ((by rw [hg]; exact (below_size z17_0) : w.heap.size ≤ gb376)); have GE376 := Aside0.mk ((by rw [hg]; exact (below_size z17_0) : w.heap.size ≤ gb376)); replace HB := Aside0.mk (below_step z17_0 hb); clear hb hbox hg; obtain ⟨hcz10_0, hcz10_1, hcz10_2, hfz10_0, hfz10_1, hfz10_2⟩ := bc3_17_ BK376.out) | ((with_reducible refine gate_callee (f := 39) rfl ?_); refine goesL_ (some 7) rfl rfl Try.func39 (by kernel_rfl) rfl #[.agg #[.int .i64 a0_0, .int .i64 a0_1, .string a0_2], .string a1] rfl z17_3 ?_; (with_reducible refine (impl_IsFill.calls k a0_0 a0_1 a0_2 a1 false _ A3.out).mono ?_); rintro e w11 ⟨rfl, hb⟩; refine ⟨_, rfl, ?_⟩; replace BK376 := Aside0.mk (blk_below (g := gb376) (o := .cells #[.int .i64 a0_0, .int .i64 a0_1, .string a0_2] 28 (0, 0)) (bd17_ BK376.out) hb); replace HB := Aside0.mk (below_step z17_6 hb); (try clear hb)))
   go_ret
   exact ⟨by first | rfl | (simp [errW_none, errW_some] <;> rfl) | (simp [*, errW_none, errW_some] <;> rfl), z17_6⟩

/-! ### laws_agrees: function 25 -/
def laws_agrees.l0 : Nat → ByteArray → ByteArray → Int → Option (Bool)
  | 0, _, _, _ => none
  | k + 1, x0, x1, x5 => if x5 < (x1.size : Int) then (if 0 ≤ x5 then (if (bt x1 x5) = 63 then (laws_agrees.l0 k x0 x1 (wrap64 (x5 + 1))) else (if x5 ≥ (x0.size : Int) then (some false) else (if x5 < (x0.size : Int) then (if (bt x0 x5) = (bt x1 x5) then (laws_agrees.l0 k x0 x1 (wrap64 (x5 + 1))) else (some false)) else (none)))) else (none)) else (some ((x0.size : Int) == (x1.size : Int)))
def laws_agrees.f (k : Nat) (a0 : ByteArray) (a1 : ByteArray) : Option (Bool) := laws_agrees.l0 k a0 a1 0
theorem laws_agrees.mono_l : ∀ k, (∀ y0 y1 y2, LeO (laws_agrees.l0 k y0 y1 y2) (laws_agrees.l0 (k + 1) y0 y1 y2))
  | 0 => fun _ _ _ r h => by simp [laws_agrees.l0] at h
  | k + 1 => by
   have ih0 := laws_agrees.mono_l k
   ·intro y0 y1 y2
    unfold laws_agrees.l0
    with_reducible repeat' first
    | exact ih0 _ _ _
    | exact LeO.refl _
    | exact LeO.none _
    | refine LeO.ite ?_ ?_
    | refine LeO.bind ?_ (fun _ => ?_)
theorem laws_agrees.mono : ∀ a0 a1 k, LeO (laws_agrees.f k a0 a1) (laws_agrees.f (k + 1) a0 a1) := by
  intro a0 a1 k
  have ih0 := laws_agrees.mono_l k; unfold laws_agrees.f
  with_reducible repeat' first
  | exact ih0 _ _ _
  | exact LeO.refl _
  | exact LeO.none _
  | refine LeO.ite ?_ ?_
  | refine LeO.bind ?_ (fun _ => ?_)
set_option maxHeartbeats 8000000 in
set_option maxRecDepth 100000 in
theorem laws_agrees.calls (k : Nat) (a0 : ByteArray) (a1 : ByteArray) (r : Bool) (w : World) (h : laws_agrees.f k a0 a1 = some r) :
   Calls Try.prog 25 #[.string a0, .string a1] w fun e w' => e = .returned (.bool r) ∧ Drawn0 w w' := by
  have H : (laws_agrees.l0 k a0 a1 0) = some r := h; clear h; have H' := Aside0.mk H
  clear H; go_enter Try.func25, Try.ntmps25
  go_wp2
  repeat (go_quiet (fail); try go_wp2)
  go_loopg [5] k (fun kq v5 w' => ∃ (x5_1 : Int), v5 = .int .i64 x5_1 ∧ Aside0 (laws_agrees.l0 kq a0 a1 x5_1 = some r) ∧ Aside0 (kq ≤ k) ∧ Drawn0 w w')
  case atStart => exact ⟨(0), z17_5, H', ⟨Nat.le_refl _⟩, z17_4⟩
  case round =>
   clear H'; try clear c2
   try clear p2
   obtain ⟨x5_1, rfl, HA, HK1, ⟨m1, rfl⟩⟩ := hrel
   cases gk with
   | zero => exact absurd HA.out (by simp [laws_agrees.l0])
   | succ k1 =>
    have H := HA.out; clear HA; simp only [laws_agrees.l0] at H; by_cases c3 : x5_1 < (a1.size : Int)
    ·rw [if_pos c3] at H
     have c3b0 : decide (x5_1 < (a1.size : Int)) = true := decide_eq_true c3; clear c3; by_cases c4 : 0 ≤ x5_1
     ·rw [if_pos c4] at H
      have c4b0 : decide (0 ≤ x5_1) = true := decide_eq_true c4; clear c4; by_cases c6 : (bt a1 x5_1) = 63
      ·rw [if_pos c6] at H
       have c6b0 : ((bt a1 x5_1) == 63) = true := beq_iff_eq.mpr c6; have c6b1 : ((bt a1 x5_1) != 63) = false := bne_eq_false_iff_eq.mpr c6; clear c6; have H' := Aside0.mk H
       clear H; have p5 : 0 ≤ (x5_1 : Int) := of_decide_eq_true z17_2; have q5 : x5_1 < (a1.size : Int) := of_decide_eq_true z17_2; have hx5 := bt_at a1 x5_1; replace p5 := eq_true p5; replace q5 := eq_true q5; go_wp2
       repeat (go_quiet (fail); try go_wp2)
       go_roundg k1
       case measure => have := HK1.out; omega
       case rel => exact ⟨(wrap64 (x5_1 + 1)), z17_5, H', ⟨by have := HK1.out; omega⟩, z17_4⟩
      ·rw [if_neg c6] at H
       have c6b0 : ((bt a1 x5_1) == 63) = false := beq_eq_false_iff_ne.mpr c6; have c6b1 : ((bt a1 x5_1) != 63) = true := bne_iff_ne.mpr c6; by_cases c7 : x5_1 ≥ (a0.size : Int)
       ·rw [if_pos c7] at H
        have c7b0 : decide ((a0.size : Int) ≤ x5_1) = true := decide_eq_true c7; clear c7; obtain rfl := Option.some.inj H; have p5 : 0 ≤ (x5_1 : Int) := of_decide_eq_true z17_2; have q5 : x5_1 < (a1.size : Int) := of_decide_eq_true z17_2; have hx5 := bt_at a1 x5_1; replace p5 := eq_true p5; replace q5 := eq_true q5; go_wp2
        repeat (go_quiet (fail); try go_wp2)
        go_ret
        exact ⟨z17_5, z17_4⟩
       ·rw [if_neg c7] at H
        have c7b0 : decide ((a0.size : Int) ≤ x5_1) = false := decide_eq_false c7; clear c7; by_cases c8 : x5_1 < (a0.size : Int)
        ·rw [if_pos c8] at H
         have c8b0 : decide (x5_1 < (a0.size : Int)) = true := decide_eq_true c8; clear c8; by_cases c11 : (bt a0 x5_1) = (bt a1 x5_1)
         ·rw [if_pos c11] at H
          have c11b0 : ((bt a0 x5_1) == (bt a1 x5_1)) = true := beq_iff_eq.mpr c11; have c11b1 : ((bt a0 x5_1) != (bt a1 x5_1)) = false := bne_eq_false_iff_eq.mpr c11; clear c11; have H' := Aside0.mk H
          clear H; have p5 : 0 ≤ (x5_1 : Int) := of_decide_eq_true z17_2; have q5 : x5_1 < (a1.size : Int) := of_decide_eq_true z17_2; have hx5 := bt_at a1 x5_1; replace p5 := eq_true p5; replace q5 := eq_true q5; have p9 : 0 ≤ (x5_1 : Int) := of_decide_eq_true z17_2; have q9 : x5_1 < (a0.size : Int) := of_decide_eq_true z17_2; have hx9 := bt_at a0 x5_1; replace p9 := eq_true p9; replace q9 := eq_true q9; have p10 : 0 ≤ (x5_1 : Int) := of_decide_eq_true z17_2; have q10 : x5_1 < (a1.size : Int) := of_decide_eq_true z17_2; have hx10 := bt_at a1 x5_1; replace p10 := eq_true p10; replace q10 := eq_true q10; go_wp2
          repeat (go_quiet (fail); try go_wp2)
          go_roundg k1
          case measure => have := HK1.out; omega
          case rel => exact ⟨(wrap64 (x5_1 + 1)), z17_5, H', ⟨by have := HK1.out; omega⟩, z17_4⟩
         ·rw [if_neg c11] at H
          have c11b0 : ((bt a0 x5_1) == (bt a1 x5_1)) = false := beq_eq_false_iff_ne.mpr c11; have c11b1 : ((bt a0 x5_1) != (bt a1 x5_1)) = true := bne_iff_ne.mpr c11; obtain rfl := Option.some.inj H; have p5 : 0 ≤ (x5_1 : Int) := of_decide_eq_true z17_2; have q5 : x5_1 < (a1.size : Int) := of_decide_eq_true z17_2; have hx5 := bt_at a1 x5_1; replace p5 := eq_true p5; replace q5 := eq_true q5; have p9 : 0 ≤ (x5_1 : Int) := of_decide_eq_true z17_2; have q9 : x5_1 < (a0.size : Int) := of_decide_eq_true z17_2; have hx9 := bt_at a0 x5_1; replace p9 := eq_true p9; replace q9 := eq_true q9; have p10 : 0 ≤ (x5_1 : Int) := of_decide_eq_true z17_2; have q10 : x5_1 < (a1.size : Int) := of_decide_eq_true z17_2; have hx10 := bt_at a1 x5_1; replace p10 := eq_true p10; replace q10 := eq_true q10; go_wp2
          repeat (go_quiet (fail); try go_wp2)
          go_ret
          exact ⟨z17_5, z17_4⟩
        ·rw [if_neg c8] at H
         exact absurd H (by simp)
     ·rw [if_neg c4] at H
      exact absurd H (by simp)
    ·rw [if_neg c3] at H
     have c3b0 : decide (x5_1 < (a1.size : Int)) = false := decide_eq_false c3; clear c3; obtain rfl := Option.some.inj H; go_wp2
     repeat (go_quiet (fail); try go_wp2)
     go_ret
     exact ⟨z17_5, z17_4⟩

/-! ### impl_RepeatsIn: function 27 -/
def impl_RepeatsIn.f (k : Nat) (l0 : List ByteArray) : Option (Int) := (impl_once.f k l0).bind fun t379 => (some (wrap64 ((l0.length : Int) - (t379.length : Int))))
theorem impl_RepeatsIn.mono : ∀ a0 k, LeO (impl_RepeatsIn.f k a0) (impl_RepeatsIn.f (k + 1) a0) := by
  intro a0 k
  unfold impl_RepeatsIn.f
  with_reducible repeat' first
  | exact impl_once.mono _ _
  | exact LeO.refl _
  | exact LeO.none _
  | refine LeO.ite ?_ ?_
  | refine LeO.bind ?_ (fun _ => ?_)
set_option maxHeartbeats 8000000 in
set_option maxRecDepth 100000 in
theorem impl_RepeatsIn.calls (k : Nat) (A0 : Option Addr) (c0 : Nat) (l0 : List ByteArray) (r : Int) (w : World) (hr0 : Kd.C Kd.string w A0 l0.length l0) (hc0 : l0.length ≤ c0) (h : impl_RepeatsIn.f k l0 = some r) :
   Calls Try.prog 27 #[.slice A0 l0.length c0] w fun e w' => e = .returned (.int .i64 r) ∧ Below w.heap.size w w' := by
  have HR0 := Aside0.mk hr0; have HC0 := Aside0.mk hc0; clear hr0 hc0; have HB := Aside0.mk (Below.refl w.heap.size w); have H : ((impl_once.f k l0).bind fun t379 => (some (wrap64 ((l0.length : Int) - (t379.length : Int))))) = some r := h; clear h; replace H := Option.bind_eq_some_iff.mp H; obtain ⟨t379, A20, H⟩ := H; try dsimp only at H
  have A2 := Aside0.mk A20; clear A20; obtain rfl := Option.some.inj H; go_enter Try.func27, Try.ntmps27
  go_wp2_with (first | ((with_reducible refine gate_callee (f := 51) rfl ?_); refine goesL_ (some 6) rfl rfl Try.func51 (by kernel_rfl) rfl #[.slice A0 l0.length c0] rfl z17_3 ?_; (with_reducible refine (impl_once.calls k _ _ l0 t379 _ ?side1 ?side2 A2.out).mono ?_); (case side1 => repeat (first | exact HR0.out | (with_reducible refine Kd.C_alloc ?_ _) | (with_reducible refine Kd.C_drewN ?_ _) | (with_reducible refine Kd.C_drew ?_))); (case side2 => exact HC0.out); rintro e w3 ⟨v380, rfl, ho0, hb⟩; refine ⟨_, rfl, ?_⟩; have HO381 := Aside0.mk (Kd.R_lower ho0 (below_size z17_0)); replace HB := Aside0.mk (below_step z17_0 hb); (try clear hb); (try clear ho0); obtain ⟨Ao4, co4, eo4⟩ := Kd.R_slice HO381.out; subst eo4))
  go_ret
  exact ⟨by first | rfl | (simp [errW_none, errW_some] <;> rfl) | (simp [*, errW_none, errW_some] <;> rfl), z17_0⟩

/-! ### impl_HasWord: function 29 -/
def impl_HasWord.f (k : Nat) (l0 : List ByteArray) (a1 : ByteArray) : Option (Bool) := (slices_Contains_string_string.f k l0 a1).bind fun t382 => (some t382)
theorem impl_HasWord.mono : ∀ a0 a1 k, LeO (impl_HasWord.f k a0 a1) (impl_HasWord.f (k + 1) a0 a1) := by
  intro a0 a1 k
  unfold impl_HasWord.f
  with_reducible repeat' first
  | exact slices_Contains_string_string.mono _ _ _
  | exact LeO.refl _
  | exact LeO.none _
  | refine LeO.ite ?_ ?_
  | refine LeO.bind ?_ (fun _ => ?_)
set_option maxHeartbeats 8000000 in
set_option maxRecDepth 100000 in
theorem impl_HasWord.calls (k : Nat) (A0 : Option Addr) (c0 : Nat) (l0 : List ByteArray) (a1 : ByteArray) (r : Bool) (w : World) (hr0 : Kd.C Kd.string w A0 l0.length l0) (hc0 : l0.length ≤ c0) (h : impl_HasWord.f k l0 a1 = some r) :
   Calls Try.prog 29 #[.slice A0 l0.length c0, .string a1] w fun e w' => e = .returned (.bool r) ∧ Drawn0 w w' := by
  have HR0 := Aside0.mk hr0; have HC0 := Aside0.mk hc0; clear hr0 hc0; have H : ((slices_Contains_string_string.f k l0 a1).bind fun t382 => (some t382)) = some r := h; clear h; replace H := Option.bind_eq_some_iff.mp H; obtain ⟨t382, A30, H⟩ := H; replace H : (some t382) = some r := H; have A3 := Aside0.mk A30; clear A30; obtain rfl := Option.some.inj H; go_enter Try.func29, Try.ntmps29
  go_wp2_with (first | ((with_reducible refine gate_callee (f := 63) rfl ?_); refine goesL_ (some 7) rfl rfl Try.func63 (by kernel_rfl) rfl #[.slice A0 l0.length c0, .string a1] rfl z17_3 ?_; (with_reducible refine (slices_Contains_string_string.calls k _ _ l0 a1 t382 _ ?side1 ?side2 A3.out).mono ?_); (case side1 => repeat (first | exact HR0.out | (with_reducible refine Kd.C_alloc ?_ _) | (with_reducible refine Kd.C_drewN ?_ _) | (with_reducible refine Kd.C_drew ?_))); (case side2 => exact HC0.out); rintro e w' ⟨rfl, ⟨nd, rfl⟩⟩; refine ⟨_, rfl, ?_⟩))
  go_ret
  exact ⟨z17_5, z17_4⟩

/-! ### laws_within: function 28 -/
def laws_within.l0 : Nat → List ByteArray → List ByteArray → Int → Option (Bool)
  | 0, _, _, _ => none
  | k + 1, x0, x1, x5 => if x5 < (x0.length : Int) then (if 0 ≤ x5 then ((impl_HasWord.f k x1 (rdOf ByteArray.empty x0 x5)).bind fun t384 => (if t384 = true then (laws_within.l0 k x0 x1 (wrap64 (x5 + 1))) else (some false))) else (none)) else (some true)
def laws_within.f (k : Nat) (l0 : List ByteArray) (l1 : List ByteArray) : Option (Bool) := laws_within.l0 k l0 l1 0
theorem laws_within.mono_l : ∀ k, (∀ y0 y1 y2, LeO (laws_within.l0 k y0 y1 y2) (laws_within.l0 (k + 1) y0 y1 y2))
  | 0 => fun _ _ _ r h => by simp [laws_within.l0] at h
  | k + 1 => by
   have ih0 := laws_within.mono_l k
   ·intro y0 y1 y2
    unfold laws_within.l0
    with_reducible repeat' first
    | exact ih0 _ _ _
    | exact impl_HasWord.mono _ _ _
    | exact LeO.refl _
    | exact LeO.none _
    | refine LeO.ite ?_ ?_
    | refine LeO.bind ?_ (fun _ => ?_)
theorem laws_within.mono : ∀ a0 a1 k, LeO (laws_within.f k a0 a1) (laws_within.f (k + 1) a0 a1) := by
  intro a0 a1 k
  have ih0 := laws_within.mono_l k; unfold laws_within.f
  with_reducible repeat' first
  | exact ih0 _ _ _
  | exact impl_HasWord.mono _ _ _
  | exact LeO.refl _
  | exact LeO.none _
  | refine LeO.ite ?_ ?_
  | refine LeO.bind ?_ (fun _ => ?_)
set_option maxHeartbeats 8000000 in
set_option maxRecDepth 100000 in
theorem laws_within.calls (k : Nat) (A0 : Option Addr) (c0 : Nat) (l0 : List ByteArray) (A1 : Option Addr) (c1 : Nat) (l1 : List ByteArray) (r : Bool) (w : World) (hr0 : Kd.C Kd.string w A0 l0.length l0) (hc0 : l0.length ≤ c0) (hr1 : Kd.C Kd.string w A1 l1.length l1) (hc1 : l1.length ≤ c1) (h : laws_within.f k l0 l1 = some r) :
   Calls Try.prog 28 #[.slice A0 l0.length c0, .slice A1 l1.length c1] w fun e w' => e = .returned (.bool r) ∧ Drawn0 w w' := by
  have HR0 := Aside0.mk hr0; have HC0 := Aside0.mk hc0; clear hr0 hc0; have HR1 := Aside0.mk hr1; have HC1 := Aside0.mk hc1; clear hr1 hc1; have H : (laws_within.l0 k l0 l1 0) = some r := h; clear h; have H' := Aside0.mk H
  clear H; go_enter Try.func28, Try.ntmps28
  go_wp2
  go_loopg [5] k (fun kq v5 w' => ∃ (x5_1 : Int), v5 = .int .i64 x5_1 ∧ Aside0 (laws_within.l0 kq l0 l1 x5_1 = some r) ∧ Aside0 (kq ≤ k) ∧ Drawn0 w w')
  case atStart => exact ⟨(0), z17_5, H', ⟨Nat.le_refl _⟩, z17_4⟩
  case round =>
   clear H'; try clear c1
   try clear c2
   try clear p2
   obtain ⟨x5_1, rfl, HA, HK1, ⟨m1, rfl⟩⟩ := hrel
   cases gk with
   | zero => exact absurd HA.out (by simp [laws_within.l0])
   | succ k1 =>
    have H := HA.out; clear HA; simp only [laws_within.l0] at H; by_cases c3 : x5_1 < (l0.length : Int)
    ·rw [if_pos c3] at H
     have c3b0 : decide (x5_1 < (l0.length : Int)) = true := decide_eq_true c3; clear c3; by_cases c4 : 0 ≤ x5_1
     ·rw [if_pos c4] at H
      have c4b0 : decide (0 ≤ x5_1) = true := decide_eq_true c4; clear c4; replace H := Option.bind_eq_some_iff.mp H; obtain ⟨t384, A50, H⟩ := H; try dsimp only at H
      have A5 := Aside0.mk A50; clear A50; by_cases c6 : t384 = true
      ·subst c6; rw [if_pos rfl] at H
       have H' := Aside0.mk H
       clear H; have p383 : 0 ≤ (x5_1 : Int) := of_decide_eq_true z17_2; have q383 : x5_1 < (l0.length : Int) := of_decide_eq_true z17_2; obtain ⟨ad383, e383, hx383_0⟩ := Kd.at_string HR0.out x5_1 p383 q383
       cases e383; replace p383 := eq_true p383; replace q383 := eq_true q383; go_wp2_with (first | ((with_reducible refine gate_callee (f := 29) rfl ?_); refine goesL_ (some 17) rfl rfl Try.func29 (by kernel_rfl) rfl #[.slice A1 l1.length c1, .string (rdOf ByteArray.empty l0 x5_1)] rfl z17_3 ?_; (with_reducible refine (impl_HasWord.calls k1 _ _ l1 (rdOf ByteArray.empty l0 x5_1) true _ ?side1 ?side2 A5.out).mono ?_); (case side1 => repeat (first | exact HR1.out | (with_reducible refine Kd.C_alloc ?_ _) | (with_reducible refine Kd.C_drewN ?_ _) | (with_reducible refine Kd.C_drew ?_))); (case side2 => exact HC1.out); rintro e w' ⟨rfl, ⟨nd, rfl⟩⟩; refine ⟨_, rfl, ?_⟩))
       go_roundg k1
       case measure => have := HK1.out; omega
       case rel => exact ⟨(wrap64 (x5_1 + 1)), z17_5, H', ⟨by have := HK1.out; omega⟩, z17_4⟩
      ·replace c6 := Bool.eq_false_iff.mpr c6; subst c6; rw [if_neg (show ¬ (false = true) by decide)] at H
       obtain rfl := Option.some.inj H; have p383 : 0 ≤ (x5_1 : Int) := of_decide_eq_true z17_2; have q383 : x5_1 < (l0.length : Int) := of_decide_eq_true z17_2; obtain ⟨ad383, e383, hx383_0⟩ := Kd.at_string HR0.out x5_1 p383 q383
       cases e383; replace p383 := eq_true p383; replace q383 := eq_true q383; go_wp2_with (first | ((with_reducible refine gate_callee (f := 29) rfl ?_); refine goesL_ (some 17) rfl rfl Try.func29 (by kernel_rfl) rfl #[.slice A1 l1.length c1, .string (rdOf ByteArray.empty l0 x5_1)] rfl z17_3 ?_; (with_reducible refine (impl_HasWord.calls k1 _ _ l1 (rdOf ByteArray.empty l0 x5_1) false _ ?side1 ?side2 A5.out).mono ?_); (case side1 => repeat (first | exact HR1.out | (with_reducible refine Kd.C_alloc ?_ _) | (with_reducible refine Kd.C_drewN ?_ _) | (with_reducible refine Kd.C_drew ?_))); (case side2 => exact HC1.out); rintro e w' ⟨rfl, ⟨nd, rfl⟩⟩; refine ⟨_, rfl, ?_⟩))
       go_ret
       exact ⟨z17_5, z17_4⟩
     ·rw [if_neg c4] at H
      exact absurd H (by simp)
    ·rw [if_neg c3] at H
     have c3b0 : decide (x5_1 < (l0.length : Int)) = false := decide_eq_false c3; clear c3; obtain rfl := Option.some.inj H; go_wp2
     go_ret
     exact ⟨z17_5, z17_4⟩

-- NOT PRINTED: function 100 (impl_WordsFitting_1)

end Go.Proofs.Ytodcckiphdnjeaa.QFnFilled
