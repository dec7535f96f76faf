-- Written by a changed copy of the kit's printer (wip/mp.py of this repo), for this claim; Lean checks it.
import Derived.Test.YtodcckiphdnjeaaQFnFilledx0
import Derived.Test.YtodcckiphdnjeaaQFnFilledx8
import Derived.Test.YtodcckiphdnjeaaQFnFilledx9
namespace Go.Proofs.Ytodcckiphdnjeaa.QFnFilled
open Go.RowKit Go.Proofs.YtodcckiphdnjeaaW.PrintWords Go.Proofs.YtodcckiphdnjeaaW.PrintLast Go.Proofs.YtodcckiphdnjeaaW.PrintMore
attribute [local go_sem] max2_int min2_int max_two min_two max_three min_three max_four min_four   -- for this text's walks alone
set_option linter.unusedVariables false
set_option linter.unusedSimpArgs false

theorem bc3_10_ {W : World} {g : Nat} {v0 v1 v2 : Value} {t : TypeId} (h : W.heap[g]? = some (.cells #[v0, v1, v2] t (0, 0))) : W.cell? ⟨g, 0, none⟩ = some v0 ∧ W.cell? ⟨g, 1, none⟩ = some v1 ∧ W.cell? ⟨g, 2, none⟩ = some v2 ∧ W.frozen? ⟨g, 0, none⟩ = false ∧ W.frozen? ⟨g, 1, none⟩ = false ∧ W.frozen? ⟨g, 2, none⟩ = false := ⟨(blk_cell h 0).trans rfl, (blk_cell h 1).trans rfl, (blk_cell h 2).trans rfl, blk_frozen h 0, blk_frozen h 1, blk_frozen h 2⟩
theorem bd10_ {p q : Prop} (h0 : q) (h : q → p := by intro h_; (with_reducible repeat (first | refine blk_drewN ?_ _ | refine blk_drew ?_ | refine blk_alloc ?_ _)); exact h_) : p := h h0
theorem kd10_ {p q : Prop} (h0 : q) (h : q → p := by intro h_; (with_reducible repeat (first | apply Kd.R_alloc | apply Kd.R_drewN | apply Kd.R_drew)); exact h_) : p := h h0
theorem z10_0 {p : Prop} (h : p := by repeat (first | (with_reducible first | exact HB.out | apply below_alloc | apply pw_below_drewN | apply below_drew1 | refine below_set ?_ GE173.out) | exact HB.out)) : p := h
theorem z10_1 {p : Prop} (h : p := by repeat (first | (with_reducible first | exact HK.out | apply KeepBut.set_ | apply keep_drewN | apply keep_drew | apply keep_alloc) | exact HK.out)) : p := h
theorem z10_2 {p : Prop} (h : p := by (with_reducible repeat (first | refine blk_drewN ?_ _ | refine blk_drew ?_ | refine blk_alloc ?_ _)); exact BK173.out) : p := h
theorem z10_3 {p : Prop} (h : p := by repeat (first | (with_reducible first | exact HI0.out | apply IsS103.alloc | apply IsS103.drewN | apply IsS103.drew | apply IsS103.set_1 | apply IsS103.set_2) | exact HI0.out)) : p := h
theorem z10_4 {p : Prop} (h : p := by repeat (first | (with_reducible first | exact HB.out | apply below_alloc | apply pw_below_drewN | apply below_drew1 | refine below_set ?_ (IsS103.ge HI0.out)) | exact HB.out)) : p := h
theorem z10_5 {p : Prop} (h : p := by (try simp only [List.map_toArray, List.map_cons, List.map_nil]); first | done | rfl | (simp only [List.length_drop, List.length_take]; rfl)) : p := h
theorem z10_6 {p : Prop} (h : p := by (with_reducible repeat (first | apply Kd.R_alloc | apply Kd.R_drewN | apply Kd.R_drew)); exact HO_3.out) : p := h
theorem z10_7 {p : Prop} (h : p := by first | rfl | (simp; done) | (simp [*]; done)) : p := h
theorem z10_8 {p : Prop} (h : p := by first | rfl | (simp [errW_none, errW_some] <;> rfl) | (simp [*, errW_none, errW_some] <;> rfl)) : p := h
/-! ### spec_SlotsOf: function 45 -/
mutual
def spec_SlotsOf.l0 : Nat → List (S65) → Int → Int → Int → Int → ByteArray → Option ((List (S65)))
  | 0, _, _, _, _, _, _ => none
  | k + 1, x3, x4, x5, x174000, x174001, x174002 => if x5 < (x174002.size : Int) then ((spec_IsGrid.f k x174000 x174001 x174002).bind fun t177 => (spec_SlotsOf.j1 k x3 x4 x5 t177 x174000 x174001 x174002)) else (spec_SlotsOf.j1 k x3 x4 x5 false x174000 x174001 x174002)
def spec_SlotsOf.j1 : Nat → List (S65) → Int → Int → Bool → Int → Int → ByteArray → Option ((List (S65)))
  | 0, _, _, _, _, _, _, _ => none
  | k + 1, x3, x4, x5, x17, x174000, x174001, x174002 => if x17 = true then ((spec_l8From.f k x174000 x174001 x174002 x5 false).bind fun t178 => ((spec_l8From.f k x174000 x174001 x174002 x5 true).bind fun t179 => (if t178 ≥ 2 then (spec_SlotsOf.j2 k x3 x4 x5 t178 t179 true x174000 x174001 x174002) else (spec_SlotsOf.j2 k x3 x4 x5 t178 t179 (decide (t179 ≥ 2)) x174000 x174001 x174002)))) else (some x3)
def spec_SlotsOf.j2 : Nat → List (S65) → Int → Int → Int → Int → Bool → Int → Int → ByteArray → Option ((List (S65)))
  | 0, _, _, _, _, _, _, _, _, _ => none
  | k + 1, x3, x4, x5, x6, x7, x31, x174000, x174001, x174002 => if x31 = true then (spec_SlotsOf.j3 k x3 (wrap64 (x4 + 1)) x5 x6 x7 x174000 x174001 x174002) else (spec_SlotsOf.j3 k x3 x4 x5 x6 x7 x174000 x174001 x174002)
def spec_SlotsOf.j3 : Nat → List (S65) → Int → Int → Int → Int → Int → Int → ByteArray → Option ((List (S65)))
  | 0, _, _, _, _, _, _, _, _ => none
  | k + 1, x3, x4, x5, x6, x7, x174000, x174001, x174002 => if x6 ≥ 2 then (if x3.length < 4398046511104 then ((some (x3 ++ [(⟨x4, false, x5, x6⟩ : S65)] : List (S65))).bind fun y180 => (if x7 ≥ 2 then (if y180.length < 4398046511104 then (spec_SlotsOf.l0 k (y180 ++ [(⟨x4, true, x5, x7⟩ : S65)]) x4 (wrap64 (x5 + 1)) x174000 x174001 x174002) else (none)) else (spec_SlotsOf.l0 k y180 x4 (wrap64 (x5 + 1)) x174000 x174001 x174002))) else (none)) else (if x7 ≥ 2 then (if x3.length < 4398046511104 then (spec_SlotsOf.l0 k (x3 ++ [(⟨x4, true, x5, x7⟩ : S65)]) x4 (wrap64 (x5 + 1)) x174000 x174001 x174002) else (none)) else (spec_SlotsOf.l0 k x3 x4 (wrap64 (x5 + 1)) x174000 x174001 x174002))
end
def spec_SlotsOf.f (k : Nat) (a0_0 : Int) (a0_1 : Int) (a0_2 : ByteArray) : Option ((List (S65))) := spec_SlotsOf.l0 k (([] : List (S65))) 0 0 a0_0 a0_1 a0_2
theorem spec_SlotsOf.mono_l : ∀ k, (∀ y0 y1 y2 y3 y4 y5, LeO (spec_SlotsOf.l0 k y0 y1 y2 y3 y4 y5) (spec_SlotsOf.l0 (k + 1) y0 y1 y2 y3 y4 y5)) ∧ (∀ y0 y1 y2 y3 y4 y5 y6, LeO (spec_SlotsOf.j1 k y0 y1 y2 y3 y4 y5 y6) (spec_SlotsOf.j1 (k + 1) y0 y1 y2 y3 y4 y5 y6)) ∧ (∀ y0 y1 y2 y3 y4 y5 y6 y7 y8, LeO (spec_SlotsOf.j2 k y0 y1 y2 y3 y4 y5 y6 y7 y8) (spec_SlotsOf.j2 (k + 1) y0 y1 y2 y3 y4 y5 y6 y7 y8)) ∧ (∀ y0 y1 y2 y3 y4 y5 y6 y7, LeO (spec_SlotsOf.j3 k y0 y1 y2 y3 y4 y5 y6 y7) (spec_SlotsOf.j3 (k + 1) y0 y1 y2 y3 y4 y5 y6 y7))
  | 0 => ⟨fun _ _ _ _ _ _ r h => by simp [spec_SlotsOf.l0] at h, fun _ _ _ _ _ _ _ r h => by simp [spec_SlotsOf.j1] at h, fun _ _ _ _ _ _ _ _ _ r h => by simp [spec_SlotsOf.j2] at h, fun _ _ _ _ _ _ _ _ r h => by simp [spec_SlotsOf.j3] at h⟩
  | k + 1 => by
   obtain ⟨ih0, ih1, ih2, ih3⟩ := spec_SlotsOf.mono_l k; refine ⟨?_, ?_, ?_, ?_⟩
   ·intro y0 y1 y2 y3 y4 y5
    unfold spec_SlotsOf.l0
    with_reducible repeat' first
    | exact ih0 _ _ _ _ _ _
    | exact ih1 _ _ _ _ _ _ _
    | exact ih2 _ _ _ _ _ _ _ _ _
    | exact ih3 _ _ _ _ _ _ _ _
    | exact spec_IsGrid.mono _ _ _ _
    | exact spec_l8From.mono _ _ _ _ _ _
    | exact LeO.refl _
    | exact LeO.none _
    | refine LeO.ite ?_ ?_
    | refine LeO.bind ?_ (fun _ => ?_)
   ·intro y0 y1 y2 y3 y4 y5 y6
    unfold spec_SlotsOf.j1
    with_reducible repeat' first
    | exact ih0 _ _ _ _ _ _
    | exact ih1 _ _ _ _ _ _ _
    | exact ih2 _ _ _ _ _ _ _ _ _
    | exact ih3 _ _ _ _ _ _ _ _
    | exact spec_IsGrid.mono _ _ _ _
    | exact spec_l8From.mono _ _ _ _ _ _
    | exact LeO.refl _
    | exact LeO.none _
    | refine LeO.ite ?_ ?_
    | refine LeO.bind ?_ (fun _ => ?_)
   ·intro y0 y1 y2 y3 y4 y5 y6 y7 y8
    unfold spec_SlotsOf.j2
    with_reducible repeat' first
    | exact ih0 _ _ _ _ _ _
    | exact ih1 _ _ _ _ _ _ _
    | exact ih2 _ _ _ _ _ _ _ _ _
    | exact ih3 _ _ _ _ _ _ _ _
    | exact spec_IsGrid.mono _ _ _ _
    | exact spec_l8From.mono _ _ _ _ _ _
    | exact LeO.refl _
    | exact LeO.none _
    | refine LeO.ite ?_ ?_
    | refine LeO.bind ?_ (fun _ => ?_)
   ·intro y0 y1 y2 y3 y4 y5 y6 y7
    unfold spec_SlotsOf.j3
    with_reducible repeat' first
    | exact ih0 _ _ _ _ _ _
    | exact ih1 _ _ _ _ _ _ _
    | exact ih2 _ _ _ _ _ _ _ _ _
    | exact ih3 _ _ _ _ _ _ _ _
    | exact spec_IsGrid.mono _ _ _ _
    | exact spec_l8From.mono _ _ _ _ _ _
    | exact LeO.refl _
    | exact LeO.none _
    | refine LeO.ite ?_ ?_
    | refine LeO.bind ?_ (fun _ => ?_)
theorem spec_SlotsOf.mono : ∀ a0 a1 a2 k, LeO (spec_SlotsOf.f k a0 a1 a2) (spec_SlotsOf.f (k + 1) a0 a1 a2) := by
  intro a0 a1 a2 k
  obtain ⟨ih0, ih1, ih2, ih3⟩ := spec_SlotsOf.mono_l k; unfold spec_SlotsOf.f
  with_reducible repeat' first
  | exact ih0 _ _ _ _ _ _
  | exact ih1 _ _ _ _ _ _ _
  | exact ih2 _ _ _ _ _ _ _ _ _
  | exact ih3 _ _ _ _ _ _ _ _
  | exact spec_IsGrid.mono _ _ _ _
  | exact spec_l8From.mono _ _ _ _ _ _
  | exact LeO.refl _
  | exact LeO.none _
  | refine LeO.ite ?_ ?_
  | refine LeO.bind ?_ (fun _ => ?_)
set_option maxHeartbeats 8000000 in
set_option maxRecDepth 100000 in
theorem spec_SlotsOf.calls (k : Nat) (a0_0 : Int) (a0_1 : Int) (a0_2 : ByteArray) (r : List (S65)) (w : World) (h : spec_SlotsOf.f k a0_0 a0_1 a0_2 = some r) :
   Calls Try.prog 45 #[.agg #[.int .i64 a0_0, .int .i64 a0_1, .string a0_2]] w fun e w' => ∃ v0_ : Value, e = .returned (v0_) ∧ Kd.R k65 65 w' w.heap.size (fun _ => True) v0_ r ∧ Below w.heap.size w w' := by
  have hu28 := Try.underlying28; have hu65 := Try.underlying65; have HB := Aside0.mk (Below.refl w.heap.size w); have H : (spec_SlotsOf.l0 k (([] : List (S65))) 0 0 a0_0 a0_1 a0_2) = some r := h; clear h; obtain ⟨y174, hy174⟩ : ∃ y_ : List (S65), y_ = (([] : List (S65))) := ⟨_, rfl⟩; replace H : (spec_SlotsOf.l0 k y174 0 0 a0_0 a0_1 a0_2) = some r := by first | (rw [hy174]; with_reducible exact H) | (have H2_ := (Option.bind_some _ _).symm.trans H; rw [hy174]; with_reducible exact H2_) | (have H2_ := (Option.bind_some _ _).symm.trans H; with_reducible exact H2_) | with_reducible exact H | (rw [hy174]; exact H) | exact H
  have Ny174 := Aside0.mk hy174; clear hy174; have H' := Aside0.mk H
  clear H; go_enter Try.func45, Try.ntmps45
  go_wp2_with (first | ((with_reducible refine gate_dst (N := 1) rfl ?_); refine box_event ?hg (N := 1) ?hd (cs := #[.int .i64 a0_0, .int .i64 a0_1, .string a0_2]) (t := 28) ?hr ?_; (case hd => rfl); (case hg => rfl); (case hr => first | (go_simp; done) | (go_simp; rfl)); intro gb173 hg w2 hbox hb; have BK173 := Aside0.mk (hbox); have GW173 := Aside0.mk ((by rw [hg]; exact (below_size (by repeat (first | (with_reducible first | exact HB.out | apply below_alloc | apply pw_below_drewN | apply below_drew1) | exact HB.out))) : w.heap.size ≤ gb173)); have GE173 := Aside0.mk ((by rw [hg]; exact (below_size (by repeat (first | (with_reducible first | exact HB.out | apply below_alloc | apply pw_below_drewN | apply below_drew1) | exact HB.out))) : w.heap.size ≤ gb173)); replace HB := Aside0.mk (below_step (by repeat (first | (with_reducible first | exact HB.out | apply below_alloc | apply pw_below_drewN | apply below_drew1) | exact HB.out)) hb); clear hb hbox hg) | ((with_reducible refine gate_dst (N := 8) rfl ?_); refine Kd.R_lit k65 _ 65 ?hg (N := 8) ?hd (xs := ([] : List (S65))) (inner := []) (ok := fun _ => True) (okp := fun _ => True) ?hr ?hp (fun _ hk => hk) trivial (Below.refl _ _) (Nat.le_refl _) (by simp) ?_; (case hd => rfl); (case hg => rfl); (case hr => first | (go_simp; done) | (go_simp; rfl)); (case hp => exact (Reps.none _ _)); intro v175 w3 ho4 hb hg_ hnew_; clear hg_ hnew_; (first | rw [← Ny174.out] at ho4 | (simp only [Int.reduceToNat] at ho4; rw [← Ny174.out] at ho4)); have HO176 := Aside0.mk (Kd.R_lower ho4 (below_size z10_0)); replace BK173 := Aside0.mk (blk_below (g := gb173) (o := .cells #[.int .i64 a0_0, .int .i64 a0_1, .string a0_2] 28 (0, 0)) (bd10_ BK173.out) hb); replace HB := Aside0.mk (below_step z10_0 hb); clear hb ho4))
  go_loopg [3, 4, 5] k (fun kq v3 v4 v5 w' => ∃ (x3_1 : List (S65)) (x4_1 : Int) (x5_1 : Int), v4 = .int .i64 x4_1 ∧ v5 = .int .i64 x5_1 ∧ Aside0 (spec_SlotsOf.l0 kq x3_1 x4_1 x5_1 a0_0 a0_1 a0_2 = some r) ∧ Aside0 (kq ≤ k) ∧ Aside0 (Kd.R k65 65 w' w.heap.size (fun _ => True) v3 x3_1) ∧ Aside0 (w'.heap[gb173]? = some (.cells #[.int .i64 a0_0, .int .i64 a0_1, .string a0_2] 28 (0, 0))) ∧ Aside0 (Below w.heap.size w w'))
  case atStart => exact ⟨(y174), (0), (0), z10_7, z10_7, H', ⟨Nat.le_refl _⟩, ⟨by (with_reducible repeat (first | apply Kd.R_alloc | apply Kd.R_drewN | apply Kd.R_drew)); exact HO176.out⟩, ⟨z10_2⟩, ⟨z10_0⟩⟩
  case round =>
   clear H'; try clear p2
   try clear c4
   obtain ⟨x3_1, x4_1, x5_1, rfl, rfl, HA, HK1, HO_3, BK173, HB⟩ := hrel
   cases gk with
   | zero => exact absurd HA.out (by simp [spec_SlotsOf.l0])
   | succ k1 =>
    have H := HA.out; clear HA; simp only [spec_SlotsOf.l0] at H; have HC5 := Aside0.mk H; clear H; go_upto_region 4 with (fail)
    go_cut [17] (fun v17 wc => ∃ (kq : Nat) (x17_4 : Bool), v17 = .bool x17_4 ∧ Aside0 (spec_SlotsOf.j1 kq x3_1 x4_1 x5_1 x17_4 a0_0 a0_1 a0_2 = some r) ∧ Aside0 (kq ≤ k1) ∧ Aside0 (Kd.R k65 65 wc w.heap.size (fun _ => True) u3 x3_1) ∧ Aside0 (wc.heap[gb173]? = some (.cells #[.int .i64 a0_0, .int .i64 a0_1, .string a0_2] 28 (0, 0))) ∧ Aside0 (Below w.heap.size w wc))
    case first =>
     have H := HC5.out; clear HC5; by_cases c6 : x5_1 < (a0_2.size : Int)
     ·rw [if_pos c6] at H
      have c6b0 : decide (x5_1 < (a0_2.size : Int)) = true := decide_eq_true c6; clear c6; (first | rw [c6b0] | (simp only [i64_w, i32_w]; rw [c6b0]) | skip)
      replace H := Option.bind_eq_some_iff.mp H; obtain ⟨t177, A70, H⟩ := H; try dsimp only at H
      have A7 := Aside0.mk A70; clear A70; have H' := Aside0.mk H
      clear H; obtain ⟨hcz8_0, hcz8_1, hcz8_2, hfz8_0, hfz8_1, hfz8_2⟩ := bc3_10_ BK173.out; go_wp2_with (first | (go_at_call 80; (with_reducible refine (spec_IsGrid.calls k1 a0_0 a0_1 a0_2 t177 _ A7.out).mono ?_); rintro e w9 ⟨rfl, hb⟩; replace HO_3 := Aside0.mk (Kd.R_below (kd10_ HO_3.out) hb); replace BK173 := Aside0.mk (blk_below (g := gb173) (o := .cells #[.int .i64 a0_0, .int .i64 a0_1, .string a0_2] 28 (0, 0)) (bd10_ BK173.out) hb); replace HB := Aside0.mk (below_step z10_0 hb); (try clear hb)))
      go_meet
      case rel => exact ⟨_, (t177), z10_7, H', ⟨by have := HK1.out; first | omega | exact Nat.le_refl _⟩, ⟨z10_6⟩, ⟨z10_2⟩, ⟨z10_0⟩⟩
     ·rw [if_neg c6] at H
      have c6b0 : decide (x5_1 < (a0_2.size : Int)) = false := decide_eq_false c6; clear c6; (first | rw [c6b0] | (simp only [i64_w, i32_w]; rw [c6b0]) | skip)
      have H' := Aside0.mk H
      clear H; obtain ⟨hcz10_0, hcz10_1, hcz10_2, hfz10_0, hfz10_1, hfz10_2⟩ := bc3_10_ BK173.out; go_wp2
      go_meet
      case rel => exact ⟨_, (false), z10_7, H', ⟨by have := HK1.out; first | omega | exact Nat.le_refl _⟩, ⟨z10_6⟩, ⟨z10_2⟩, ⟨z10_0⟩⟩
    case rest =>
     clear HC5; try clear p2
     try clear c4
     try clear c6
     try clear c6b0
     try clear hcz10_0
     try clear hcz10_1
     try clear hcz10_2
     try clear hcz8_0
     try clear hcz8_1
     try clear hcz8_2
     try clear hfz10_0
     try clear hfz10_1
     try clear hfz10_2
     try clear hfz8_0
     try clear hfz8_1
     try clear hfz8_2
     try clear p2
     obtain ⟨kq, x17_4, rfl, HA, HJ4, HO_3, BK173, HB⟩ := hcut
     cases kq with
     | zero => exact absurd HA.out (by simp [spec_SlotsOf.j1])
     | succ kj4 =>
      have H := HA.out; clear HA; simp only [spec_SlotsOf.j1] at H; by_cases c11 : x17_4 = true
      ·subst c11; rw [if_pos rfl] at H
       replace H := Option.bind_eq_some_iff.mp H; obtain ⟨t178, A120, H⟩ := H; try dsimp only at H
       have A12 := Aside0.mk A120; clear A120; replace H := Option.bind_eq_some_iff.mp H; obtain ⟨t179, A130, H⟩ := H; try dsimp only at H
       have A13 := Aside0.mk A130; clear A130; have HC14 := Aside0.mk H; clear H; obtain ⟨hcz15_0, hcz15_1, hcz15_2, hfz15_0, hfz15_1, hfz15_2⟩ := bc3_10_ BK173.out; go_upto_region 8 with (first | ((with_reducible refine gate_callee (f := 82) rfl ?_); refine goesL_ (some 22) rfl rfl Try.func82 (by kernel_rfl) rfl #[.agg #[.int .i64 a0_0, .int .i64 a0_1, .string a0_2], .int .i64 x5_1, .bool false] rfl z10_5 ?_; (with_reducible refine (spec_l8From.calls kj4 a0_0 a0_1 a0_2 x5_1 false t178 _ A12.out).mono ?_); rintro e w16 ⟨rfl, hb⟩; refine ⟨_, rfl, ?_⟩; replace HO_3 := Aside0.mk (Kd.R_below (kd10_ HO_3.out) hb); replace BK173 := Aside0.mk (blk_below (g := gb173) (o := .cells #[.int .i64 a0_0, .int .i64 a0_1, .string a0_2] 28 (0, 0)) (bd10_ BK173.out) hb); replace HB := Aside0.mk (below_step z10_0 hb); (try clear hb); obtain ⟨hcz17_0, hcz17_1, hcz17_2, hfz17_0, hfz17_1, hfz17_2⟩ := bc3_10_ BK173.out) | ((with_reducible refine gate_callee (f := 82) rfl ?_); refine goesL_ (some 25) rfl rfl Try.func82 (by kernel_rfl) rfl #[.agg #[.int .i64 a0_0, .int .i64 a0_1, .string a0_2], .int .i64 x5_1, .bool true] rfl z10_5 ?_; (with_reducible refine (spec_l8From.calls kj4 a0_0 a0_1 a0_2 x5_1 true t179 _ A13.out).mono ?_); rintro e w18 ⟨rfl, hb⟩; refine ⟨_, rfl, ?_⟩; replace HO_3 := Aside0.mk (Kd.R_below (kd10_ HO_3.out) hb); replace BK173 := Aside0.mk (blk_below (g := gb173) (o := .cells #[.int .i64 a0_0, .int .i64 a0_1, .string a0_2] 28 (0, 0)) (bd10_ BK173.out) hb); replace HB := Aside0.mk (below_step z10_0 hb); (try clear hb)))
       (try simp only [Act.put, List.setIfInBounds_toArray, List.set_cons_zero, List.set_cons_succ])
       go_cut [31] (fun v31 wc => ∃ (kq : Nat) (x31_13 : Bool), v31 = .bool x31_13 ∧ Aside0 (spec_SlotsOf.j2 kq x3_1 x4_1 x5_1 t178 t179 x31_13 a0_0 a0_1 a0_2 = some r) ∧ Aside0 (kq ≤ kj4) ∧ Aside0 (Kd.R k65 65 wc w.heap.size (fun _ => True) u3 x3_1) ∧ Aside0 (wc.heap[gb173]? = some (.cells #[.int .i64 a0_0, .int .i64 a0_1, .string a0_2] 28 (0, 0))) ∧ Aside0 (Below w.heap.size w wc))
       case first =>
        have H := HC14.out; clear HC14; by_cases c19 : t178 ≥ 2
        ·rw [if_pos c19] at H
         have c19b0 : decide (2 ≤ t178) = true := decide_eq_true c19; clear c19; (first | rw [c19b0] | (simp only [i64_w, i32_w]; rw [c19b0]) | skip)
         have H' := Aside0.mk H
         clear H; go_wp2
         go_meet
         case rel => exact ⟨_, (true), z10_7, H', ⟨by have := HK1.out; have := HJ4.out; first | omega | exact Nat.le_refl _⟩, ⟨z10_6⟩, ⟨z10_2⟩, ⟨z10_0⟩⟩
        ·rw [if_neg c19] at H
         have c19b0 : decide (2 ≤ t178) = false := decide_eq_false c19; clear c19; (first | rw [c19b0] | (simp only [i64_w, i32_w]; rw [c19b0]) | skip)
         have H' := Aside0.mk H
         clear H; go_wp2
         go_meet
         case rel => exact ⟨_, (decide (t179 ≥ 2)), z10_7, H', ⟨by have := HK1.out; have := HJ4.out; first | omega | exact Nat.le_refl _⟩, ⟨z10_6⟩, ⟨z10_2⟩, ⟨z10_0⟩⟩
       case rest =>
        clear HC14; try clear c1
        try clear p2
        try clear c4
        try clear c6
        try clear c6b0
        try clear c8
        try clear c11
        try clear c19
        try clear c19b0
        try clear hcz10_0
        try clear hcz10_1
        try clear hcz10_2
        try clear hcz15_0
        try clear hcz15_1
        try clear hcz15_2
        try clear hcz17_0
        try clear hcz17_1
        try clear hcz17_2
        try clear hcz8_0
        try clear hcz8_1
        try clear hcz8_2
        try clear hfz10_0
        try clear hfz10_1
        try clear hfz10_2
        try clear hfz15_0
        try clear hfz15_1
        try clear hfz15_2
        try clear hfz17_0
        try clear hfz17_1
        try clear hfz17_2
        try clear hfz8_0
        try clear hfz8_1
        try clear hfz8_2
        try clear p2
        obtain ⟨kq, x31_13, rfl, HA, HJ13, HO_3, BK173, HB⟩ := hcut
        cases kq with
        | zero => exact absurd HA.out (by simp [spec_SlotsOf.j2])
        | succ kj13 =>
         have H := HA.out; clear HA; simp only [spec_SlotsOf.j2] at H; have HC20 := Aside0.mk H; clear H; go_upto_if 31 with (fail)
         go_cut [4] (fun v4 wc => ∃ (kq : Nat) (x4_19 : Int), v4 = .int .i64 x4_19 ∧ Aside0 (spec_SlotsOf.j3 kq x3_1 x4_19 x5_1 t178 t179 a0_0 a0_1 a0_2 = some r) ∧ Aside0 (kq ≤ kj13) ∧ Aside0 (Kd.R k65 65 wc w.heap.size (fun _ => True) u3 x3_1) ∧ Aside0 (wc.heap[gb173]? = some (.cells #[.int .i64 a0_0, .int .i64 a0_1, .string a0_2] 28 (0, 0))) ∧ Aside0 (Below w.heap.size w wc))
         case first =>
          have H := HC20.out; clear HC20; by_cases c21 : x31_13 = true
          ·subst c21; rw [if_pos rfl] at H
           have H' := Aside0.mk H
           clear H; go_wp2
           go_meet
           case rel => exact ⟨_, (wrap64 (x4_1 + 1)), z10_7, H', ⟨by have := HK1.out; have := HJ4.out; have := HJ13.out; first | omega | exact Nat.le_refl _⟩, ⟨z10_6⟩, ⟨z10_2⟩, ⟨z10_0⟩⟩
          ·replace c21 := Bool.eq_false_iff.mpr c21; subst c21; rw [if_neg (show ¬ (false = true) by decide)] at H
           have H' := Aside0.mk H
           clear H; go_wp2
           go_meet
           case rel => exact ⟨_, (x4_1), z10_7, H', ⟨by have := HK1.out; have := HJ4.out; have := HJ13.out; first | omega | exact Nat.le_refl _⟩, ⟨z10_6⟩, ⟨z10_2⟩, ⟨z10_0⟩⟩
         case rest =>
          clear HC20; try clear c1
          try clear c2
          try clear p2
          try clear c4
          try clear c6
          try clear c6b0
          try clear p6
          try clear c8
          try clear c11
          try clear c19
          try clear c19b0
          try clear c21
          try clear hcz10_0
          try clear hcz10_1
          try clear hcz10_2
          try clear hcz15_0
          try clear hcz15_1
          try clear hcz15_2
          try clear hcz17_0
          try clear hcz17_1
          try clear hcz17_2
          try clear hcz8_0
          try clear hcz8_1
          try clear hcz8_2
          try clear hfz10_0
          try clear hfz10_1
          try clear hfz10_2
          try clear hfz15_0
          try clear hfz15_1
          try clear hfz15_2
          try clear hfz17_0
          try clear hfz17_1
          try clear hfz17_2
          try clear hfz8_0
          try clear hfz8_1
          try clear hfz8_2
          try clear p2
          obtain ⟨kq, x4_19, rfl, HA, HJ19, HO_3, BK173, HB⟩ := hcut
          cases kq with
          | zero => exact absurd HA.out (by simp [spec_SlotsOf.j3])
          | succ kj19 =>
           have H := HA.out; clear HA; simp only [spec_SlotsOf.j3] at H; by_cases c22 : t178 ≥ 2
           ·rw [if_pos c22] at H
            have c22b0 : decide (2 ≤ t178) = true := decide_eq_true c22; clear c22; by_cases c23 : x3_1.length < 4398046511104
            ·rw [if_pos c23] at H
             have LMc23 := Aside0.mk c23; clear c23; obtain ⟨y180, hy180⟩ : ∃ y_ : List (S65), y_ = (x3_1 ++ [(⟨x4_19, false, x5_1, t178⟩ : S65)]) := ⟨_, rfl⟩; replace H : (if t179 ≥ 2 then (if y180.length < 4398046511104 then (spec_SlotsOf.l0 kj19 (y180 ++ [(⟨x4_19, true, x5_1, t179⟩ : S65)]) x4_19 (wrap64 (x5_1 + 1)) a0_0 a0_1 a0_2) else (none)) else (spec_SlotsOf.l0 kj19 y180 x4_19 (wrap64 (x5_1 + 1)) a0_0 a0_1 a0_2)) = some r := by first | (rw [hy180]; with_reducible exact H) | (have H2_ := (Option.bind_some _ _).symm.trans H; rw [hy180]; with_reducible exact H2_) | (have H2_ := (Option.bind_some _ _).symm.trans H; with_reducible exact H2_) | with_reducible exact H | (rw [hy180]; exact H) | exact H
             have Ny180 := Aside0.mk hy180; clear hy180; by_cases c24 : t179 ≥ 2
             ·rw [if_pos c24] at H
              have c24b0 : decide (2 ≤ t179) = true := decide_eq_true c24; clear c24; by_cases c25 : y180.length < 4398046511104
              ·rw [if_pos c25] at H
               have LMc25 := Aside0.mk c25; clear c25; obtain ⟨y183, hy183⟩ : ∃ y_ : List (S65), y_ = (y180 ++ [(⟨x4_19, true, x5_1, t179⟩ : S65)]) := ⟨_, rfl⟩; replace H : (spec_SlotsOf.l0 kj19 y183 x4_19 (wrap64 (x5_1 + 1)) a0_0 a0_1 a0_2) = some r := by first | (rw [hy183]; with_reducible exact H) | (have H2_ := (Option.bind_some _ _).symm.trans H; rw [hy183]; with_reducible exact H2_) | (have H2_ := (Option.bind_some _ _).symm.trans H; with_reducible exact H2_) | with_reducible exact H | (rw [hy183]; exact H) | exact H
               have Ny183 := Aside0.mk hy183; clear hy183; have H' := Aside0.mk H
               clear H; go_wp2_with (first | ((with_reducible refine gate_builtin (b := .append) (xs := #[.tmp 36, .tmp 41]) rfl ?_); at_builtin; refine Kd.R_append k65 (w0 := w) w.heap.size rfl (.tmp 36) (.tmp 41) 44 65 (.agg #[(.int .i64 0), (.bool false), (.int .i64 0), (.int .i64 0)]) 32 rfl Try.underlying44 info65 rfl (by decide) (by omega) u3 x3_1 (⟨x4_19, false, x5_1, t178⟩ : S65) [.int .i64 x4_19, .bool false, .int .i64 x5_1, .int .i64 t178] (fun _ => True) (fun _ => False) rfl rfl ?aP (fun _ hk => hk.elim) ?aF ?aO ?aB ?aS ?aL ?_; (case aP => exact k65_mkM _ _ _ (⟨x4_19, false, x5_1, t178⟩ : S65)); (case aB => exact z10_0); (case aF => exact (fun _ _ => trivial)); (case aO => exact (kd10_ HO_3.out)); (case aS => exact (below_size z10_0)); (case aL => have := LMc23.out; omega); intro v181 w26 ho hb hg hat; rw [← Ny180.out] at ho; have n0_ := Aside0.mk (blk_grown (g := gb173) (o := .cells #[.int .i64 a0_0, .int .i64 a0_1, .string a0_2] 28 (0, 0)) (bd10_ BK173.out) hg (Kd.R_ne HO_3.out BK173.out (by decide))); have n1_ := Aside0.mk (hb); have n2_ := Aside0.mk (ho); clear BK173; clear HB; clear HO_3; have BK173 := n0_; have HB := n1_; have HO182 := n2_; clear n0_ n1_ n2_; clear ho hb hg hat) | ((with_reducible refine gate_builtin (b := .append) (xs := #[.tmp 45, .tmp 50]) rfl ?_); at_builtin; refine Kd.R_append k65 (w0 := w) w.heap.size rfl (.tmp 45) (.tmp 50) 44 65 (.agg #[(.int .i64 0), (.bool false), (.int .i64 0), (.int .i64 0)]) 32 rfl Try.underlying44 info65 rfl (by decide) (by omega) v181 y180 (⟨x4_19, true, x5_1, t179⟩ : S65) [.int .i64 x4_19, .bool true, .int .i64 x5_1, .int .i64 t179] (fun _ => True) (fun _ => False) rfl rfl ?aP (fun _ hk => hk.elim) ?aF ?aO ?aB ?aS ?aL ?_; (case aP => exact k65_mkM _ _ _ (⟨x4_19, true, x5_1, t179⟩ : S65)); (case aB => exact z10_0); (case aF => exact (fun _ _ => trivial)); (case aO => exact (kd10_ HO182.out)); (case aS => exact (below_size z10_0)); (case aL => have := LMc25.out; omega); intro v184 w27 ho hb hg hat; rw [← Ny183.out] at ho; have n0_ := Aside0.mk (blk_grown (g := gb173) (o := .cells #[.int .i64 a0_0, .int .i64 a0_1, .string a0_2] 28 (0, 0)) (bd10_ BK173.out) hg (Kd.R_ne HO182.out BK173.out (by decide))); have n1_ := Aside0.mk (hb); have n2_ := Aside0.mk (ho); clear BK173; clear HB; clear HO182; have BK173 := n0_; have HB := n1_; have HO185 := n2_; clear n0_ n1_ n2_; clear ho hb hg hat))
               go_roundg kj19
               case measure => have := HK1.out; have := HJ4.out; have := HJ13.out; have := HJ19.out; omega
               case rel => exact ⟨(y183), (x4_19), (wrap64 (x5_1 + 1)), z10_7, z10_7, H', ⟨by have := HK1.out; have := HJ4.out; have := HJ13.out; have := HJ19.out; omega⟩, ⟨by (with_reducible repeat (first | apply Kd.R_alloc | apply Kd.R_drewN | apply Kd.R_drew)); exact HO185.out⟩, ⟨z10_2⟩, ⟨z10_0⟩⟩
              ·rw [if_neg c25] at H
               exact absurd H (by simp)
             ·rw [if_neg c24] at H
              have c24b0 : decide (2 ≤ t179) = false := decide_eq_false c24; clear c24; have H' := Aside0.mk H
              clear H; go_wp2_with (first | ((with_reducible refine gate_builtin (b := .append) (xs := #[.tmp 36, .tmp 41]) rfl ?_); at_builtin; refine Kd.R_append k65 (w0 := w) w.heap.size rfl (.tmp 36) (.tmp 41) 44 65 (.agg #[(.int .i64 0), (.bool false), (.int .i64 0), (.int .i64 0)]) 32 rfl Try.underlying44 info65 rfl (by decide) (by omega) u3 x3_1 (⟨x4_19, false, x5_1, t178⟩ : S65) [.int .i64 x4_19, .bool false, .int .i64 x5_1, .int .i64 t178] (fun _ => True) (fun _ => False) rfl rfl ?aP (fun _ hk => hk.elim) ?aF ?aO ?aB ?aS ?aL ?_; (case aP => exact k65_mkM _ _ _ (⟨x4_19, false, x5_1, t178⟩ : S65)); (case aB => exact z10_0); (case aF => exact (fun _ _ => trivial)); (case aO => exact (kd10_ HO_3.out)); (case aS => exact (below_size z10_0)); (case aL => have := LMc23.out; omega); intro v181 w28 ho hb hg hat; rw [← Ny180.out] at ho; have n0_ := Aside0.mk (blk_grown (g := gb173) (o := .cells #[.int .i64 a0_0, .int .i64 a0_1, .string a0_2] 28 (0, 0)) (bd10_ BK173.out) hg (Kd.R_ne HO_3.out BK173.out (by decide))); have n1_ := Aside0.mk (hb); have n2_ := Aside0.mk (ho); clear BK173; clear HB; clear HO_3; have BK173 := n0_; have HB := n1_; have HO182 := n2_; clear n0_ n1_ n2_; clear ho hb hg hat))
              go_roundg kj19
              case measure => have := HK1.out; have := HJ4.out; have := HJ13.out; have := HJ19.out; omega
              case rel => exact ⟨(y180), (x4_19), (wrap64 (x5_1 + 1)), z10_7, z10_7, H', ⟨by have := HK1.out; have := HJ4.out; have := HJ13.out; have := HJ19.out; omega⟩, ⟨by (with_reducible repeat (first | apply Kd.R_alloc | apply Kd.R_drewN | apply Kd.R_drew)); exact HO182.out⟩, ⟨z10_2⟩, ⟨z10_0⟩⟩
            ·rw [if_neg c23] at H
             exact absurd H (by simp)
           ·rw [if_neg c22] at H
            have c22b0 : decide (2 ≤ t178) = false := decide_eq_false c22; clear c22; by_cases c29 : t179 ≥ 2
            ·rw [if_pos c29] at H
             have c29b0 : decide (2 ≤ t179) = true := decide_eq_true c29; clear c29; by_cases c30 : x3_1.length < 4398046511104
             ·rw [if_pos c30] at H
              have LMc30 := Aside0.mk c30; clear c30; obtain ⟨y186, hy186⟩ : ∃ y_ : List (S65), y_ = (x3_1 ++ [(⟨x4_19, true, x5_1, t179⟩ : S65)]) := ⟨_, rfl⟩; replace H : (spec_SlotsOf.l0 kj19 y186 x4_19 (wrap64 (x5_1 + 1)) a0_0 a0_1 a0_2) = some r := by first | (rw [hy186]; with_reducible exact H) | (have H2_ := (Option.bind_some _ _).symm.trans H; rw [hy186]; with_reducible exact H2_) | (have H2_ := (Option.bind_some _ _).symm.trans H; with_reducible exact H2_) | with_reducible exact H | (rw [hy186]; exact H) | exact H
              have Ny186 := Aside0.mk hy186; clear hy186; have H' := Aside0.mk H
              clear H; go_wp2_with (first | ((with_reducible refine gate_builtin (b := .append) (xs := #[.tmp 45, .tmp 50]) rfl ?_); at_builtin; refine Kd.R_append k65 (w0 := w) w.heap.size rfl (.tmp 45) (.tmp 50) 44 65 (.agg #[(.int .i64 0), (.bool false), (.int .i64 0), (.int .i64 0)]) 32 rfl Try.underlying44 info65 rfl (by decide) (by omega) u3 x3_1 (⟨x4_19, true, x5_1, t179⟩ : S65) [.int .i64 x4_19, .bool true, .int .i64 x5_1, .int .i64 t179] (fun _ => True) (fun _ => False) rfl rfl ?aP (fun _ hk => hk.elim) ?aF ?aO ?aB ?aS ?aL ?_; (case aP => exact k65_mkM _ _ _ (⟨x4_19, true, x5_1, t179⟩ : S65)); (case aB => exact z10_0); (case aF => exact (fun _ _ => trivial)); (case aO => exact (kd10_ HO_3.out)); (case aS => exact (below_size z10_0)); (case aL => have := LMc30.out; omega); intro v187 w31 ho hb hg hat; rw [← Ny186.out] at ho; have n0_ := Aside0.mk (blk_grown (g := gb173) (o := .cells #[.int .i64 a0_0, .int .i64 a0_1, .string a0_2] 28 (0, 0)) (bd10_ BK173.out) hg (Kd.R_ne HO_3.out BK173.out (by decide))); have n1_ := Aside0.mk (hb); have n2_ := Aside0.mk (ho); clear BK173; clear HB; clear HO_3; have BK173 := n0_; have HB := n1_; have HO188 := n2_; clear n0_ n1_ n2_; clear ho hb hg hat))
              go_roundg kj19
              case measure => have := HK1.out; have := HJ4.out; have := HJ13.out; have := HJ19.out; omega
              case rel => exact ⟨(y186), (x4_19), (wrap64 (x5_1 + 1)), z10_7, z10_7, H', ⟨by have := HK1.out; have := HJ4.out; have := HJ13.out; have := HJ19.out; omega⟩, ⟨by (with_reducible repeat (first | apply Kd.R_alloc | apply Kd.R_drewN | apply Kd.R_drew)); exact HO188.out⟩, ⟨z10_2⟩, ⟨z10_0⟩⟩
             ·rw [if_neg c30] at H
              exact absurd H (by simp)
            ·rw [if_neg c29] at H
             have c29b0 : decide (2 ≤ t179) = false := decide_eq_false c29; clear c29; have H' := Aside0.mk H
             clear H; go_wp2
             go_roundg kj19
             case measure => have := HK1.out; have := HJ4.out; have := HJ13.out; have := HJ19.out; omega
             case rel => exact ⟨(x3_1), (x4_19), (wrap64 (x5_1 + 1)), z10_7, z10_7, H', ⟨by have := HK1.out; have := HJ4.out; have := HJ13.out; have := HJ19.out; omega⟩, ⟨z10_6⟩, ⟨z10_2⟩, ⟨z10_0⟩⟩
      ·replace c11 := Bool.eq_false_iff.mpr c11; subst c11; rw [if_neg (show ¬ (false = true) by decide)] at H
       obtain rfl := Option.some.inj H; go_wp2
       go_ret
       exact ⟨_, z10_8, z10_6, z10_0⟩

/-! ### spec_l1Byte: function 118 -/
def spec_l1Byte.f (s0_0 : List Int) (s0_1 : Int) (s0_2 : Int) : Option (Int × Int × Int) := if s0_1 < (s0_0.length : Int) then (if 0 ≤ s0_1 then (some (Go.bits .and .i64 (wrap64 ((Go.bits .and .i64 (Go.bits .xor .i64 ((wrap64 ((wrap64 (s0_2 * 6364136223846793005)) + 1442695040888963407)) / 8589934592) ((wrap64 ((wrap64 (s0_2 * 6364136223846793005)) + 1442695040888963407)) / 140737488355328)) 255) + (wrap64 (rd s0_0 s0_1)))) 255, wrap64 (s0_1 + 1), wrap64 ((wrap64 (s0_2 * 6364136223846793005)) + 1442695040888963407))) else (none)) else (some (Go.bits .and .i64 (Go.bits .xor .i64 ((wrap64 ((wrap64 (s0_2 * 6364136223846793005)) + 1442695040888963407)) / 8589934592) ((wrap64 ((wrap64 (s0_2 * 6364136223846793005)) + 1442695040888963407)) / 140737488355328)) 255, s0_1, wrap64 ((wrap64 (s0_2 * 6364136223846793005)) + 1442695040888963407)))
set_option maxHeartbeats 8000000 in
set_option maxRecDepth 100000 in
theorem spec_l1Byte.calls (g : Nat) (s0_0 : List Int) (s0_1 : Int) (s0_2 : Int) (r1 : Int) (r2 : Int) (r3 : Int) (w0 w : World) (hI : IsS103 w0 w g s0_0 s0_1 s0_2) (hB : Below w0.heap.size w0 w) (h : spec_l1Byte.f s0_0 s0_1 s0_2 = some (r1, r2, r3)) :
   Calls Try.prog 118 #[.pointer (some ⟨g, 0, none⟩)] w fun e w' => e = .returned (.int .i64 r1) ∧ IsS103 w0 w' g s0_0 r2 r3 ∧ Below w0.heap.size w0 w' ∧ KeepBut w w' g none := by
  have HI0 := Aside0.mk hI; have HK := Aside0.mk (KeepBut.refl w g none); have HL := Aside0.mk hB.size; clear hI; have HW0 := Aside0.mk hB.size; have HB := Aside0.mk hB; clear hB; have H : (if s0_1 < (s0_0.length : Int) then (if 0 ≤ s0_1 then (some (Go.bits .and .i64 (wrap64 ((Go.bits .and .i64 (Go.bits .xor .i64 ((wrap64 ((wrap64 (s0_2 * 6364136223846793005)) + 1442695040888963407)) / 8589934592) ((wrap64 ((wrap64 (s0_2 * 6364136223846793005)) + 1442695040888963407)) / 140737488355328)) 255) + (wrap64 (rd s0_0 s0_1)))) 255, wrap64 (s0_1 + 1), wrap64 ((wrap64 (s0_2 * 6364136223846793005)) + 1442695040888963407))) else (none)) else (some (Go.bits .and .i64 (Go.bits .xor .i64 ((wrap64 ((wrap64 (s0_2 * 6364136223846793005)) + 1442695040888963407)) / 8589934592) ((wrap64 ((wrap64 (s0_2 * 6364136223846793005)) + 1442695040888963407)) / 140737488355328)) 255, s0_1, wrap64 ((wrap64 (s0_2 * 6364136223846793005)) + 1442695040888963407)))) = some (r1, r2, r3) := h; clear h; by_cases c2 : s0_1 < (s0_0.length : Int)
  ·rw [if_pos c2] at H
   have c2b0 : decide (s0_1 < (s0_0.length : Int)) = true := decide_eq_true c2; clear c2; by_cases c3 : 0 ≤ s0_1
   ·rw [if_pos c3] at H
    have c3b0 : decide (0 ≤ s0_1) = true := decide_eq_true c3; clear c3; simp only [Option.some.injEq, Prod.mk.injEq] at H; obtain ⟨rfl, rfl, rfl⟩ := H; obtain ⟨ASz4_0, cSz4_0, HGz4, hgz4, HSz4_0⟩ := HI0.out; have hcz4_0 := cellS103_0 HGz4; have hcz4_1 := cellS103_1 HGz4; have hcz4_2 := cellS103_2 HGz4; have hfz4_1 := blk_frozen HGz4 1; have hfz4_2 := blk_frozen HGz4 2; clear HGz4 hgz4; have p189 : 0 ≤ (s0_1 : Int) := of_decide_eq_true (by first | (with_reducible assumption) | assumption)
    have q189 : s0_1 < (s0_0.length : Int) := of_decide_eq_true (by first | (with_reducible assumption) | assumption)
    obtain ⟨ad189, e189, hx189_0⟩ := Kd.at_int HSz4_0 s0_1 p189 q189
    cases e189; have hn189_0 : ad189.block ≠ g := Nat.ne_of_lt (Nat.lt_of_lt_of_le (by have := World.block_lt_of_cell? _ _ hx189_0; first | rwa [add_block] at this | exact this) (IsS103.ge HI0.out))
    replace hx189_0 := pw_cell_below HB.out hx189_0; replace hx189_0 := (cell_far (p := ⟨g, 2, none⟩) (by first | (rw [add_block]; exact hn189_0) | (show (Addr.add _ _).block ≠ _; rw [add_block]; exact hn189_0) | exact hn189_0) (.int .i64 (wrap64 ((wrap64 (s0_2 * 6364136223846793005)) + 1442695040888963407)))).trans hx189_0
    (try have hy189_0 := fun (n_ : Nat) => (show (((w.drewN n_).setCell ⟨g, 2, none⟩ (.int .i64 (wrap64 ((wrap64 (s0_2 * 6364136223846793005)) + 1442695040888963407))))).cell? _ = some _ from hx189_0))
    clear hn189_0; replace p189 := eq_true p189; replace q189 := eq_true q189; go_enter Try.func118, Try.ntmps118
    go_wp2
    repeat (go_quiet (fail); try go_wp2)
    go_ret
    exact ⟨z10_8, z10_3, z10_4, z10_1⟩
   ·rw [if_neg c3] at H
    exact absurd H (by simp)
  ·rw [if_neg c2] at H
   have c2b0 : decide (s0_1 < (s0_0.length : Int)) = false := decide_eq_false c2; clear c2; simp only [Option.some.injEq, Prod.mk.injEq] at H; obtain ⟨rfl, rfl, rfl⟩ := H; obtain ⟨ASz5_0, cSz5_0, HGz5, hgz5, HSz5_0⟩ := HI0.out; have hcz5_0 := cellS103_0 HGz5; have hcz5_1 := cellS103_1 HGz5; have hcz5_2 := cellS103_2 HGz5; have hfz5_1 := blk_frozen HGz5 1; have hfz5_2 := blk_frozen HGz5 2; clear HGz5 hgz5; go_enter Try.func118, Try.ntmps118
   go_wp2
   repeat (go_quiet (fail); try go_wp2)
   go_ret
   exact ⟨z10_8, z10_3, z10_4, z10_1⟩

/-! ### spec_l1Below: function 97 -/
def spec_l1Below.f (s0_0 : List Int) (s0_1 : Int) (s0_2 : Int) (a1 : Int) : Option (Int × Int × Int) := if a1 ≤ 0 then (some (0, s0_1, s0_2)) else (if a1 ≤ 256 then ((spec_l1Byte.f s0_0 s0_1 s0_2).bind fun bt190 => (if a1 = 0 then (none) else (some (Int.tmod bt190.1 a1, bt190.2.1, bt190.2.2)))) else ((spec_l1Byte.f s0_0 s0_1 s0_2).bind fun bt193 => ((spec_l1Byte.f s0_0 bt193.2.1 bt193.2.2).bind fun bt196 => ((spec_l1Byte.f s0_0 bt196.2.1 bt196.2.2).bind fun bt199 => (if a1 = 0 then (none) else (some (Int.tmod (wrap64 ((wrap64 ((wrap64 (bt193.1 * 65536)) + (wrap64 (bt196.1 * 256)))) + bt199.1)) a1, bt199.2.1, bt199.2.2)))))))
set_option maxHeartbeats 8000000 in
set_option maxRecDepth 100000 in
theorem spec_l1Below.calls (g : Nat) (s0_0 : List Int) (s0_1 : Int) (s0_2 : Int) (a1 : Int) (r1 : Int) (r2 : Int) (r3 : Int) (w0 w : World) (hI : IsS103 w0 w g s0_0 s0_1 s0_2) (hB : Below w0.heap.size w0 w) (h : spec_l1Below.f s0_0 s0_1 s0_2 a1 = some (r1, r2, r3)) :
   Calls Try.prog 97 #[.pointer (some ⟨g, 0, none⟩), .int .i64 a1] w fun e w' => e = .returned (.int .i64 r1) ∧ IsS103 w0 w' g s0_0 r2 r3 ∧ Below w0.heap.size w0 w' ∧ KeepBut w w' g none := by
  have HI0 := Aside0.mk hI; have HK := Aside0.mk (KeepBut.refl w g none); have HL := Aside0.mk hB.size; clear hI; have HW0 := Aside0.mk hB.size; have HB := Aside0.mk hB; clear hB; have H : (if a1 ≤ 0 then (some (0, s0_1, s0_2)) else (if a1 ≤ 256 then ((spec_l1Byte.f s0_0 s0_1 s0_2).bind fun bt190 => (if a1 = 0 then (none) else (some (Int.tmod bt190.1 a1, bt190.2.1, bt190.2.2)))) else ((spec_l1Byte.f s0_0 s0_1 s0_2).bind fun bt193 => ((spec_l1Byte.f s0_0 bt193.2.1 bt193.2.2).bind fun bt196 => ((spec_l1Byte.f s0_0 bt196.2.1 bt196.2.2).bind fun bt199 => (if a1 = 0 then (none) else (some (Int.tmod (wrap64 ((wrap64 ((wrap64 (bt193.1 * 65536)) + (wrap64 (bt196.1 * 256)))) + bt199.1)) a1, bt199.2.1, bt199.2.2)))))))) = some (r1, r2, r3) := h; clear h; by_cases c3 : a1 ≤ 0
  ·rw [if_pos c3] at H
   have c3b0 : decide (a1 ≤ 0) = true := decide_eq_true c3; clear c3; simp only [Option.some.injEq, Prod.mk.injEq] at H; obtain ⟨rfl, rfl, rfl⟩ := H; go_enter Try.func97, Try.ntmps97
   go_wp2
   go_ret
   exact ⟨z10_8, z10_3, z10_4, z10_1⟩
  ·rw [if_neg c3] at H
   have c3b0 : decide (a1 ≤ 0) = false := decide_eq_false c3; clear c3; by_cases c4 : a1 ≤ 256
   ·rw [if_pos c4] at H
    have c4b0 : decide (a1 ≤ 256) = true := decide_eq_true c4; clear c4; replace H := Option.bind_eq_some_iff.mp H; obtain ⟨⟨t190, t191, t192⟩, A50, H⟩ := H; try dsimp only at H
    have A5 := Aside0.mk A50; clear A50; by_cases c6 : a1 = 0
    ·rw [if_pos c6] at H
     exact absurd H (by simp)
    ·rw [if_neg c6] at H
     have c6b0 : (a1 == 0) = false := beq_eq_false_iff_ne.mpr c6; have c6b1 : (a1 != 0) = true := bne_iff_ne.mpr c6; simp only [Option.some.injEq, Prod.mk.injEq] at H; obtain ⟨rfl, rfl, rfl⟩ := H; go_enter Try.func97, Try.ntmps97
     go_wp2_with (first | ((with_reducible refine gate_callee (f := 118) rfl ?_); refine goesL_ (some 13) rfl rfl Try.func118 (by kernel_rfl) rfl #[.pointer (some ⟨g, 0, none⟩)] rfl z10_5 ?_; (with_reducible refine (spec_l1Byte.calls g s0_0 s0_1 s0_2 t190 t191 t192 w0 _ ?side1 ?side2 A5.out).mono ?_); (case side1 => exact z10_3); (case side2 => exact z10_4); rintro e w7 ⟨rfl, hi, hb, hk⟩; refine ⟨_, rfl, ?_⟩; replace HK := Aside0.mk (KeepBut.trans z10_1 hk (.inl rfl)); replace HB := Aside0.mk (hb); replace HI0 := Aside0.mk (hi); (try clear hb)))
     go_ret
     exact ⟨z10_8, z10_3, z10_4, z10_1⟩
   ·rw [if_neg c4] at H
    have c4b0 : decide (a1 ≤ 256) = false := decide_eq_false c4; clear c4; replace H := Option.bind_eq_some_iff.mp H; obtain ⟨⟨t193, t194, t195⟩, A80, H⟩ := H; try dsimp only at H
    have A8 := Aside0.mk A80; clear A80; replace H := Option.bind_eq_some_iff.mp H; obtain ⟨⟨t196, t197, t198⟩, A90, H⟩ := H; try dsimp only at H
    have A9 := Aside0.mk A90; clear A90; replace H := Option.bind_eq_some_iff.mp H; obtain ⟨⟨t199, t200, t201⟩, A100, H⟩ := H; try dsimp only at H
    have A10 := Aside0.mk A100; clear A100; by_cases c11 : a1 = 0
    ·rw [if_pos c11] at H
     exact absurd H (by simp)
    ·rw [if_neg c11] at H
     have c11b0 : (a1 == 0) = false := beq_eq_false_iff_ne.mpr c11; have c11b1 : (a1 != 0) = true := bne_iff_ne.mpr c11; simp only [Option.some.injEq, Prod.mk.injEq] at H; obtain ⟨rfl, rfl, rfl⟩ := H; go_enter Try.func97, Try.ntmps97
     go_wp2_with (first | ((with_reducible refine gate_callee (f := 118) rfl ?_); refine goesL_ (some 17) rfl rfl Try.func118 (by kernel_rfl) rfl #[.pointer (some ⟨g, 0, none⟩)] rfl z10_5 ?_; (with_reducible refine (spec_l1Byte.calls g s0_0 s0_1 s0_2 t193 t194 t195 w0 _ ?side1 ?side2 A8.out).mono ?_); (case side1 => exact z10_3); (case side2 => exact z10_4); rintro e w12 ⟨rfl, hi, hb, hk⟩; refine ⟨_, rfl, ?_⟩; replace HK := Aside0.mk (KeepBut.trans z10_1 hk (.inl rfl)); replace HB := Aside0.mk (hb); replace HI0 := Aside0.mk (hi); (try clear hb)) | ((with_reducible refine gate_callee (f := 118) rfl ?_); refine goesL_ (some 19) rfl rfl Try.func118 (by kernel_rfl) rfl #[.pointer (some ⟨g, 0, none⟩)] rfl z10_5 ?_; (with_reducible refine (spec_l1Byte.calls g s0_0 t194 t195 t196 t197 t198 w0 _ ?side1 ?side2 A9.out).mono ?_); (case side1 => exact z10_3); (case side2 => exact z10_4); rintro e w13 ⟨rfl, hi, hb, hk⟩; refine ⟨_, rfl, ?_⟩; replace HK := Aside0.mk (KeepBut.trans z10_1 hk (.inl rfl)); replace HB := Aside0.mk (hb); replace HI0 := Aside0.mk (hi); (try clear hb)) | ((with_reducible refine gate_callee (f := 118) rfl ?_); refine goesL_ (some 21) rfl rfl Try.func118 (by kernel_rfl) rfl #[.pointer (some ⟨g, 0, none⟩)] rfl z10_5 ?_; (with_reducible refine (spec_l1Byte.calls g s0_0 t197 t198 t199 t200 t201 w0 _ ?side1 ?side2 A10.out).mono ?_); (case side1 => exact z10_3); (case side2 => exact z10_4); rintro e w14 ⟨rfl, hi, hb, hk⟩; refine ⟨_, rfl, ?_⟩; replace HK := Aside0.mk (KeepBut.trans z10_1 hk (.inl rfl)); replace HB := Aside0.mk (hb); replace HI0 := Aside0.mk (hi); (try clear hb)))
     go_ret
     exact ⟨z10_8, z10_3, z10_4, z10_1⟩

/-! ### spec_l1Once: function 74 -/
def spec_l1Once.f (s0_0 : List Int) (s0_1 : Int) (s0_2 : Int) (a1 : Int) : Option (Bool × Int × Int) := (spec_l1Below.f s0_0 s0_1 s0_2 a1).bind fun bt202 => (some ((bt202.1 == 0), bt202.2.1, bt202.2.2))
set_option maxHeartbeats 8000000 in
set_option maxRecDepth 100000 in
theorem spec_l1Once.calls (g : Nat) (s0_0 : List Int) (s0_1 : Int) (s0_2 : Int) (a1 : Int) (r1 : Bool) (r2 : Int) (r3 : Int) (w0 w : World) (hI : IsS103 w0 w g s0_0 s0_1 s0_2) (hB : Below w0.heap.size w0 w) (h : spec_l1Once.f s0_0 s0_1 s0_2 a1 = some (r1, r2, r3)) :
   Calls Try.prog 74 #[.pointer (some ⟨g, 0, none⟩), .int .i64 a1] w fun e w' => e = .returned (.bool r1) ∧ IsS103 w0 w' g s0_0 r2 r3 ∧ Below w0.heap.size w0 w' ∧ KeepBut w w' g none := by
  have HI0 := Aside0.mk hI; have HK := Aside0.mk (KeepBut.refl w g none); have HL := Aside0.mk hB.size; clear hI; have HW0 := Aside0.mk hB.size; have HB := Aside0.mk hB; clear hB; have H : ((spec_l1Below.f s0_0 s0_1 s0_2 a1).bind fun bt202 => (some ((bt202.1 == 0), bt202.2.1, bt202.2.2))) = some (r1, r2, r3) := h; clear h; replace H := Option.bind_eq_some_iff.mp H; obtain ⟨⟨t202, t203, t204⟩, A30, H⟩ := H; try dsimp only at H
  have A3 := Aside0.mk A30; clear A30; simp only [Option.some.injEq, Prod.mk.injEq] at H; obtain ⟨rfl, rfl, rfl⟩ := H; go_enter Try.func74, Try.ntmps74
  go_wp2_with (first | ((with_reducible refine gate_callee (f := 97) rfl ?_); refine goesL_ (some 7) rfl rfl Try.func97 (by kernel_rfl) rfl #[.pointer (some ⟨g, 0, none⟩), .int .i64 a1] rfl z10_5 ?_; (with_reducible refine (spec_l1Below.calls g s0_0 s0_1 s0_2 a1 t202 t203 t204 w0 _ ?side1 ?side2 A3.out).mono ?_); (case side1 => exact z10_3); (case side2 => exact z10_4); rintro e w4 ⟨rfl, hi, hb, hk⟩; refine ⟨_, rfl, ?_⟩; replace HK := Aside0.mk (KeepBut.trans z10_1 hk (.inl rfl)); replace HB := Aside0.mk (hb); replace HI0 := Aside0.mk (hi); (try clear hb)))
  go_ret
  exact ⟨z10_8, z10_3, z10_4, z10_1⟩

end Go.Proofs.Ytodcckiphdnjeaa.QFnFilled
