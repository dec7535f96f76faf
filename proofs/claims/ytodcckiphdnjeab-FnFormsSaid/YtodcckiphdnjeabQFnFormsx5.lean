-- Written by a changed copy of the kit's printer (wip/mp.py of this repo), for this claim; Lean checks it.
import Derived.Shelf.Sort.Plain
import Derived.Shelf.Slices.Clone
import Derived.Shelf.Slices.CompactI
import Derived.Shelf.Slices.In.SortNone
import Derived.Test.YtodcckiphdnjeabQFnFormsx0
import Derived.Test.YtodcckiphdnjeabQFnFormsx4
namespace Go.Proofs.Ytodcckiphdnjeab.QFnForms
open Go.RowKit Go.Proofs.YtodcckiphdnjeabW.PrintWords Go.Proofs.YtodcckiphdnjeabW.PrintLast Go.Proofs.YtodcckiphdnjeabW.PrintMore
attribute [local go_sem] max2_int min2_int max_two min_two max_three min_three max_four min_four   -- for this text's walks alone
set_option linter.unusedVariables false
set_option linter.unusedSimpArgs false

/-! ### slices_Index_int_int: function 75 -/
def slices_Index_int_int.l0 : Nat → List Int → Int → Int → Int → Option (Int)
  | 0, _, _, _, _ => none
  | k + 1, x0, x1, x7, x8 => if x8 < x7 then (if 0 ≤ x8 then (if x8 < (x0.length : Int) then (if x1 = (rd x0 x8) then (some x8) else (slices_Index_int_int.l0 k x0 x1 x7 (wrap64 (x8 + 1)))) else (none)) else (none)) else (some (-1))
def slices_Index_int_int.f (k : Nat) (l0 : List Int) (a1 : Int) : Option (Int) := slices_Index_int_int.l0 k l0 a1 (l0.length : Int) 0
theorem slices_Index_int_int.mono_l : ∀ k, (∀ y0 y1 y2 y3, LeO (slices_Index_int_int.l0 k y0 y1 y2 y3) (slices_Index_int_int.l0 (k + 1) y0 y1 y2 y3))
  | 0 => fun _ _ _ _ r h => by simp [slices_Index_int_int.l0] at h
  | k + 1 => by
   have ih0 := slices_Index_int_int.mono_l k
   ·intro y0 y1 y2 y3
    unfold slices_Index_int_int.l0
    repeat' first
    | (with_reducible exact ih0 _ _ _ _)
    | (with_reducible exact LeO.refl _)
    | (with_reducible exact LeO.none _)
    | (with_reducible refine LeO.ite ?_ ?_)
    | (with_reducible refine LeO.bind ?_ (fun _ => ?_))
    | exact ih0 _ _ _ _
    | exact LeO.none _
    | refine LeO.ite ?_ ?_
    | refine LeO.bind ?_ (fun _ => ?_)
theorem slices_Index_int_int.mono : ∀ a0 a1 k, LeO (slices_Index_int_int.f k a0 a1) (slices_Index_int_int.f (k + 1) a0 a1) := by
  intro a0 a1 k
  have ih0 := slices_Index_int_int.mono_l k
  unfold slices_Index_int_int.f
  repeat' first
    | (with_reducible exact ih0 _ _ _ _)
    | (with_reducible exact LeO.refl _)
    | (with_reducible exact LeO.none _)
    | (with_reducible refine LeO.ite ?_ ?_)
    | (with_reducible refine LeO.bind ?_ (fun _ => ?_))
    | exact ih0 _ _ _ _
    | exact LeO.none _
    | refine LeO.ite ?_ ?_
    | refine LeO.bind ?_ (fun _ => ?_)
set_option maxHeartbeats 8000000 in
set_option maxRecDepth 100000 in
theorem slices_Index_int_int.calls (k : Nat) (A0 : Option Addr) (c0 : Nat) (l0 : List Int) (a1 : Int) (r : Int) (w : World) (hr0 : Kd.C (Kd.int .i64) w A0 l0.length l0) (hc0 : l0.length ≤ c0) (h : slices_Index_int_int.f k l0 a1 = some r) :
   Calls Try.prog 75 #[.slice A0 l0.length c0, .int .i64 a1] w fun e w' => e = .returned (.int .i64 r) ∧ Drawn0 w w' := by
  have HR0 := Aside0.mk hr0
  have HC0 := Aside0.mk hc0
  clear hr0 hc0
  have H : (slices_Index_int_int.l0 k l0 a1 (l0.length : Int) 0) = some r := h
  clear h
  have H' := Aside0.mk H
  clear H
  go_enter Try.func75, Try.ntmps75
  go_wp2
  go_loopg [8] k (fun kq v8 w' => ∃ (x8_1 : Int), v8 = .int .i64 x8_1 ∧ Aside0 (slices_Index_int_int.l0 kq l0 a1 (l0.length : Int) x8_1 = some r) ∧ Aside0 (kq ≤ k) ∧ Drawn0 w w')
  case atStart => exact ⟨(0), (by first | rfl | (simp; done) | (simp [*]; done)), H', ⟨Nat.le_refl _⟩, by repeat (first | exact Drawn0.refl _ | apply Drawn0.step)⟩
  case round =>
   clear H'
   try clear p2
   obtain ⟨x8_1, rfl, HA, HK1, ⟨m1, rfl⟩⟩ := hrel
   cases gk with
   | zero => exact absurd HA.out (by simp [slices_Index_int_int.l0])
   | succ k1 =>
    have H := HA.out
    clear HA
    simp only [slices_Index_int_int.l0] at H
    by_cases c3 : x8_1 < (l0.length : Int)
    ·rw [if_pos c3] at H
     have c3b0 : decide (x8_1 < (l0.length : Int)) = true := decide_eq_true c3
     clear c3
     by_cases c4 : 0 ≤ x8_1
     ·rw [if_pos c4] at H
      have c4b0 : decide (0 ≤ x8_1) = true := decide_eq_true c4
      clear c4
      by_cases c5 : x8_1 < (l0.length : Int)
      ·rw [if_pos c5] at H
       have c5b0 : decide (x8_1 < (l0.length : Int)) = true := decide_eq_true c5
       clear c5
       by_cases c6 : a1 = (rd l0 x8_1)
       ·rw [if_pos c6] at H
        have c6b0 : (a1 == (rd l0 x8_1)) = true := beq_iff_eq.mpr c6
        have c6b1 : (a1 != (rd l0 x8_1)) = false := bne_eq_false_iff_eq.mpr c6
        clear c6
        obtain rfl := Option.some.inj H
        have p135 : 0 ≤ (x8_1 : Int) := of_decide_eq_true (by first | (with_reducible assumption) | assumption)
        have q135 : x8_1 < (l0.length : Int) := of_decide_eq_true (by first | (with_reducible assumption) | assumption)
        obtain ⟨ad135, e135, hx135_0⟩ := Kd.at_int HR0.out x8_1 p135 q135
        cases e135
        replace p135 := eq_true p135
        replace q135 := eq_true q135
        go_wp2
        go_ret
        exact ⟨by first | rfl | (simp; done) | (simp [*]; done), by repeat (first | exact Drawn0.refl _ | apply Drawn0.step)⟩
       ·rw [if_neg c6] at H
        have c6b0 : (a1 == (rd l0 x8_1)) = false := beq_eq_false_iff_ne.mpr c6
        have c6b1 : (a1 != (rd l0 x8_1)) = true := bne_iff_ne.mpr c6
        have H' := Aside0.mk H
        clear H
        have p135 : 0 ≤ (x8_1 : Int) := of_decide_eq_true (by first | (with_reducible assumption) | assumption)
        have q135 : x8_1 < (l0.length : Int) := of_decide_eq_true (by first | (with_reducible assumption) | assumption)
        obtain ⟨ad135, e135, hx135_0⟩ := Kd.at_int HR0.out x8_1 p135 q135
        cases e135
        replace p135 := eq_true p135
        replace q135 := eq_true q135
        go_wp2
        go_roundg k1
        case measure => have := HK1.out; omega
        case rel => exact ⟨(wrap64 (x8_1 + 1)), (by first | rfl | (simp; done) | (simp [*]; done)), H', ⟨by have := HK1.out; omega⟩, by repeat (first | exact Drawn0.refl _ | apply Drawn0.step)⟩
      ·rw [if_neg c5] at H
       exact absurd H (by simp)
     ·rw [if_neg c4] at H
      exact absurd H (by simp)
    ·rw [if_neg c3] at H
     have c3b0 : decide (x8_1 < (l0.length : Int)) = false := decide_eq_false c3
     clear c3
     obtain rfl := Option.some.inj H
     go_wp2
     go_ret
     exact ⟨by first | rfl | (simp; done) | (simp [*]; done), by repeat (first | exact Drawn0.refl _ | apply Drawn0.step)⟩

/-! ### impl_CrossingsOf: function 33 -/
mutual
def impl_CrossingsOf.l0 : Nat → List (List Int) → List (S59) → Int → Int → Option ((List (S59)))
  | 0, _, _, _, _ => none
  | k + 1, x3, x4, x15, x16 => if x16 < x15 then (impl_CrossingsOf.l1 k x3 x4 x16 (-1) 0 x15 x16 x3 (x3.length : Int) 0) else (some x4)
def impl_CrossingsOf.l1 : Nat → List (List Int) → List (S59) → Int → Int → Int → Int → Int → List (List Int) → Int → Int → Option ((List (S59)))
  | 0, _, _, _, _, _, _, _, _, _, _ => none
  | k + 1, x3, x4, x5, x6, x7, x15, x16, x19, x20, x21 => if x21 < x20 then (if 0 ≤ x21 then (if x21 < (x19.length : Int) then ((slices_Index_int_int.f k (rd_L4 x19 x21) x5).bind fun t141 => (if t141 < 0 then (impl_CrossingsOf.l1 k x3 x4 x5 x6 x7 x15 x16 x19 x20 (wrap64 (x21 + 1))) else (if x6 < 0 then (impl_CrossingsOf.l1 k x3 x4 x5 x21 t141 x15 x16 x19 x20 (wrap64 (x21 + 1))) else (if x4.length < 3518437208883 then (impl_CrossingsOf.l1 k x3 (x4 ++ [(⟨x6, x21, x7, t141, x5⟩ : S59)]) x5 x6 x7 x15 x16 x19 x20 (wrap64 (x21 + 1))) else (none))))) else (none)) else (none)) else (impl_CrossingsOf.l0 k x3 x4 x15 (wrap64 (x16 + 1)))
end
def impl_CrossingsOf.f (k : Nat) (a0_0 : Int) (a0_1 : Int) (a0_2 : ByteArray) : Option ((List (S59))) := (impl_layout.f k a0_0 a0_1 a0_2).bind fun t137 => (impl_CrossingsOf.l0 k t137 ([] : List (S59)) (a0_2.size : Int) 0)
theorem impl_CrossingsOf.mono_l : ∀ k, (∀ y0 y1 y2 y3, LeO (impl_CrossingsOf.l0 k y0 y1 y2 y3) (impl_CrossingsOf.l0 (k + 1) y0 y1 y2 y3)) ∧ (∀ y0 y1 y2 y3 y4 y5 y6 y7 y8 y9, LeO (impl_CrossingsOf.l1 k y0 y1 y2 y3 y4 y5 y6 y7 y8 y9) (impl_CrossingsOf.l1 (k + 1) y0 y1 y2 y3 y4 y5 y6 y7 y8 y9))
  | 0 => ⟨fun _ _ _ _ r h => by simp [impl_CrossingsOf.l0] at h, fun _ _ _ _ _ _ _ _ _ _ r h => by simp [impl_CrossingsOf.l1] at h⟩
  | k + 1 => by
   obtain ⟨ih0, ih1⟩ := impl_CrossingsOf.mono_l k
   refine ⟨?_, ?_⟩
   ·intro y0 y1 y2 y3
    unfold impl_CrossingsOf.l0
    repeat' first
    | (with_reducible exact ih0 _ _ _ _)
    | (with_reducible exact ih1 _ _ _ _ _ _ _ _ _ _)
    | (with_reducible exact impl_layout.mono _ _ _ _)
    | (with_reducible exact slices_Index_int_int.mono _ _ _)
    | (with_reducible exact LeO.refl _)
    | (with_reducible exact LeO.none _)
    | (with_reducible refine LeO.ite ?_ ?_)
    | (with_reducible refine LeO.bind ?_ (fun _ => ?_))
    | exact ih0 _ _ _ _
    | exact ih1 _ _ _ _ _ _ _ _ _ _
    | exact impl_layout.mono _ _ _ _
    | exact slices_Index_int_int.mono _ _ _
    | exact LeO.none _
    | refine LeO.ite ?_ ?_
    | refine LeO.bind ?_ (fun _ => ?_)
   ·intro y0 y1 y2 y3 y4 y5 y6 y7 y8 y9
    unfold impl_CrossingsOf.l1
    repeat' first
    | (with_reducible exact ih0 _ _ _ _)
    | (with_reducible exact ih1 _ _ _ _ _ _ _ _ _ _)
    | (with_reducible exact impl_layout.mono _ _ _ _)
    | (with_reducible exact slices_Index_int_int.mono _ _ _)
    | (with_reducible exact LeO.refl _)
    | (with_reducible exact LeO.none _)
    | (with_reducible refine LeO.ite ?_ ?_)
    | (with_reducible refine LeO.bind ?_ (fun _ => ?_))
    | exact ih0 _ _ _ _
    | exact ih1 _ _ _ _ _ _ _ _ _ _
    | exact impl_layout.mono _ _ _ _
    | exact slices_Index_int_int.mono _ _ _
    | exact LeO.none _
    | refine LeO.ite ?_ ?_
    | refine LeO.bind ?_ (fun _ => ?_)
theorem impl_CrossingsOf.mono : ∀ a0 a1 a2 k, LeO (impl_CrossingsOf.f k a0 a1 a2) (impl_CrossingsOf.f (k + 1) a0 a1 a2) := by
  intro a0 a1 a2 k
  obtain ⟨ih0, ih1⟩ := impl_CrossingsOf.mono_l k
  unfold impl_CrossingsOf.f
  repeat' first
    | (with_reducible exact ih0 _ _ _ _)
    | (with_reducible exact ih1 _ _ _ _ _ _ _ _ _ _)
    | (with_reducible exact impl_layout.mono _ _ _ _)
    | (with_reducible exact slices_Index_int_int.mono _ _ _)
    | (with_reducible exact LeO.refl _)
    | (with_reducible exact LeO.none _)
    | (with_reducible refine LeO.ite ?_ ?_)
    | (with_reducible refine LeO.bind ?_ (fun _ => ?_))
    | exact ih0 _ _ _ _
    | exact ih1 _ _ _ _ _ _ _ _ _ _
    | exact impl_layout.mono _ _ _ _
    | exact slices_Index_int_int.mono _ _ _
    | exact LeO.none _
    | refine LeO.ite ?_ ?_
    | refine LeO.bind ?_ (fun _ => ?_)
set_option maxHeartbeats 8000000 in
set_option maxRecDepth 100000 in
theorem impl_CrossingsOf.calls (k : Nat) (a0_0 : Int) (a0_1 : Int) (a0_2 : ByteArray) (r : List (S59)) (w : World) (h : impl_CrossingsOf.f k a0_0 a0_1 a0_2 = some r) :
   Calls Try.prog 33 #[.agg #[.int .i64 a0_0, .int .i64 a0_1, .string a0_2]] w fun e w' => ∃ v0_ : Value, e = .returned (v0_) ∧ Kd.R k59 59 w' w.heap.size (fun _ => True) v0_ r ∧ Below w.heap.size w w' := by
  have hu48 := Try.underlying48
  have hu59 := Try.underlying59
  have HB := Aside0.mk (Below.refl w.heap.size w)
  have H : ((impl_layout.f k a0_0 a0_1 a0_2).bind fun t137 => (impl_CrossingsOf.l0 k t137 ([] : List (S59)) (a0_2.size : Int) 0)) = some r := h
  clear h
  replace H := Option.bind_eq_some_iff.mp H
  obtain ⟨t137, A20, H⟩ := H
  replace H : (impl_CrossingsOf.l0 k t137 ([] : List (S59)) (a0_2.size : Int) 0) = some r := H
  have A2 := Aside0.mk A20
  clear A20
  have H' := Aside0.mk H
  clear H
  go_enter Try.func33, Try.ntmps33
  go_wp2_with (first | ((with_reducible refine gate_dst (N := 1) rfl ?_); refine box_event ?hg (N := 1) ?hd (cs := #[.int .i64 a0_0, .int .i64 a0_1, .string a0_2]) (t := 48) ?hr ?_; (case hd => rfl); (case hg => rfl); (case hr => first | (go_simp; done) | (go_simp; rfl)); intro gb136 hg w3 hbox hb; have n0_ := Aside0.mk (below_step (by repeat (first | (with_reducible first | exact HB.out | apply below_alloc | apply pw_below_drewN | apply below_drew1) | exact HB.out)) hb); have n1_ := Aside0.mk (hbox); have n2_ := Aside0.mk ((by rw [hg]; exact (below_size (by repeat (first | (with_reducible first | exact HB.out | apply below_alloc | apply pw_below_drewN | apply below_drew1) | exact HB.out))) : w.heap.size ≤ gb136)); have n3_ := Aside0.mk ((by rw [hg]; exact (below_size (by repeat (first | (with_reducible first | exact HB.out | apply below_alloc | apply pw_below_drewN | apply below_drew1) | exact HB.out))) : w.heap.size ≤ gb136)); clear HB; have HB := n0_; have BK136 := n1_; have GW136 := n2_; have GE136 := n3_; clear n0_ n1_ n2_ n3_; clear hb hbox hg; have hcz4_0 : w3.cell? ⟨gb136, 0, none⟩ = some (.int .i64 a0_0) := (blk_cell BK136.out 0).trans rfl; have hcz4_1 : w3.cell? ⟨gb136, 1, none⟩ = some (.int .i64 a0_1) := (blk_cell BK136.out 1).trans rfl; have hcz4_2 : w3.cell? ⟨gb136, 2, none⟩ = some (.string a0_2) := (blk_cell BK136.out 2).trans rfl; have hfz4_0 := blk_frozen BK136.out 0; have hfz4_1 := blk_frozen BK136.out 1; have hfz4_2 := blk_frozen BK136.out 2) | ((with_reducible refine gate_callee (f := 74) rfl ?_); refine goesL_ (some 12) rfl rfl Try.func74 (by kernel_rfl) rfl #[.agg #[.int .i64 a0_0, .int .i64 a0_1, .string a0_2]] rfl (by (try simp only [List.map_toArray, List.map_cons, List.map_nil]); first | done | rfl | (simp only [List.length_drop, List.length_take]; rfl)) ?_; (with_reducible refine (impl_layout.calls k a0_0 a0_1 a0_2 t137 _ A2.out).mono ?_); rintro e w5 ⟨v138, rfl, ho0, hb⟩; refine ⟨_, rfl, ?_⟩; have n0_ := Aside0.mk (Kd.S_lower ho0 (below_size (by repeat (first | (with_reducible first | exact HB.out | apply below_alloc | apply pw_below_drewN | apply below_drew1 | refine below_set ?_ GE136.out) | exact HB.out)))); have n1_ := Aside0.mk (blk_below (g := gb136) (o := .cells #[.int .i64 a0_0, .int .i64 a0_1, .string a0_2] 48 (0, 0)) (by (with_reducible repeat (first | refine blk_drewN ?_ _ | refine blk_drew ?_ | refine blk_alloc ?_ _)); exact BK136.out) hb); have n2_ := Aside0.mk (below_step (by repeat (first | (with_reducible first | exact HB.out | apply below_alloc | apply pw_below_drewN | apply below_drew1 | refine below_set ?_ GE136.out) | exact HB.out)) hb); clear BK136; clear HB; have HO139 := n0_; have BK136 := n1_; have HB := n2_; clear n0_ n1_ n2_; (try clear hb); (try clear hb2); (try clear hk); (try clear hi); (try clear ho0); have hcz6_0 : w5.cell? ⟨gb136, 0, none⟩ = some (.int .i64 a0_0) := (blk_cell BK136.out 0).trans rfl; have hcz6_1 : w5.cell? ⟨gb136, 1, none⟩ = some (.int .i64 a0_1) := (blk_cell BK136.out 1).trans rfl; have hcz6_2 : w5.cell? ⟨gb136, 2, none⟩ = some (.string a0_2) := (blk_cell BK136.out 2).trans rfl; have hfz6_0 := blk_frozen BK136.out 0; have hfz6_1 := blk_frozen BK136.out 1; have hfz6_2 := blk_frozen BK136.out 2))
  go_loopg [4, 16] k (fun kq v4 v16 w' => ∃ (x4_1 : List (S59)) (x16_1 : Int), v16 = .int .i64 x16_1 ∧ Aside0 (impl_CrossingsOf.l0 kq t137 x4_1 (a0_2.size : Int) x16_1 = some r) ∧ Aside0 (kq ≤ k) ∧ Aside0 (Kd.S (Kd.slice 3 (Kd.int .i64)) 54 w' w.heap.size (fun _ => True) v138 t137) ∧ Aside0 (Kd.R k59 59 w' w.heap.size (fun _ => True) v4 x4_1) ∧ Aside0 (w'.heap[gb136]? = some (.cells #[.int .i64 a0_0, .int .i64 a0_1, .string a0_2] 48 (0, 0))) ∧ Aside0 (Below w.heap.size w w'))
  case atStart => exact ⟨(([] : List (S59))), (0), (by first | rfl | (simp; done) | (simp [*]; done)), H', ⟨Nat.le_refl _⟩, ⟨by (with_reducible repeat (first | apply Kd.S_alloc | apply Kd.S_drewN | apply Kd.S_drew)); exact HO139.out⟩, ⟨by first | exact Kd.R_nil _ _ _ _ _ | exact Kd.N_nil _ _ _ _ _ | exact Kd.V_nil _ _ _ _ _ | exact Kd.Q_nil _ _ _ _ _ | exact Kd.S_nil _ _ _ _ _⟩, ⟨by (with_reducible repeat (first | refine blk_drewN ?_ _ | refine blk_drew ?_ | refine blk_alloc ?_ _)); exact BK136.out⟩, ⟨by repeat (first | (with_reducible first | exact HB.out | apply below_alloc | apply pw_below_drewN | apply below_drew1 | refine below_set ?_ GE136.out) | exact HB.out)⟩⟩
  case round =>
   clear H'
   try clear p2
   try clear c3
   try clear hcz4_0
   try clear hcz4_1
   try clear hcz4_2
   try clear hcz6_0
   try clear hcz6_1
   try clear hcz6_2
   try clear hfz4_0
   try clear hfz4_1
   try clear hfz4_2
   try clear hfz6_0
   try clear hfz6_1
   try clear hfz6_2
   obtain ⟨x4_1, x16_1, rfl, HA, HK1, HO_3, HO_4, BK136, HB⟩ := hrel
   cases gk with
   | zero => exact absurd HA.out (by simp [impl_CrossingsOf.l0])
   | succ k1 =>
    have H := HA.out
    clear HA
    simp only [impl_CrossingsOf.l0] at H
    by_cases c7 : x16_1 < (a0_2.size : Int)
    ·rw [if_pos c7] at H
     have c7b0 : decide (x16_1 < (a0_2.size : Int)) = true := decide_eq_true c7
     clear c7
     have H' := Aside0.mk H
     clear H
     obtain ⟨Ao8, co8, eo8⟩ := Kd.S_slice HO_3.out
     subst eo8
     go_wp2
     go_loopg [4, 6, 7, 21] k1 (fun kq v4 v6 v7 v21 w' => ∃ (x4_2 : List (S59)) (x6_2 : Int) (x7_2 : Int) (x21_2 : Int), v6 = .int .i64 x6_2 ∧ v7 = .int .i64 x7_2 ∧ v21 = .int .i64 x21_2 ∧ Aside0 (impl_CrossingsOf.l1 kq t137 x4_2 x16_1 x6_2 x7_2 (a0_2.size : Int) x16_1 t137 (t137.length : Int) x21_2 = some r) ∧ Aside0 (kq ≤ k1) ∧ Aside0 (Kd.S (Kd.slice 3 (Kd.int .i64)) 54 w' w.heap.size (fun _ => True) (.slice Ao8 t137.length co8) t137) ∧ Aside0 (Kd.R k59 59 w' w.heap.size (fun _ => True) v4 x4_2) ∧ Aside0 (Kd.S (Kd.slice 3 (Kd.int .i64)) 54 w' w.heap.size (fun _ => True) (.slice Ao8 t137.length co8) t137) ∧ Aside0 (w'.heap[gb136]? = some (.cells #[.int .i64 a0_0, .int .i64 a0_1, .string a0_2] 48 (0, 0))) ∧ Aside0 (Below w.heap.size w w'))
     case atStart => exact ⟨(x4_1), ((-1)), (0), (0), (by first | rfl | (simp; done) | (simp [*]; done)), (by first | rfl | (simp; done) | (simp [*]; done)), (by first | rfl | (simp; done) | (simp [*]; done)), H', ⟨Nat.le_refl _⟩, ⟨by (with_reducible repeat (first | apply Kd.S_alloc | apply Kd.S_drewN | apply Kd.S_drew)); exact HO_3.out⟩, ⟨by (with_reducible repeat (first | apply Kd.R_alloc | apply Kd.R_drewN | apply Kd.R_drew)); exact HO_4.out⟩, ⟨by (with_reducible repeat (first | apply Kd.S_alloc | apply Kd.S_drewN | apply Kd.S_drew)); exact HO_3.out⟩, ⟨by (with_reducible repeat (first | refine blk_drewN ?_ _ | refine blk_drew ?_ | refine blk_alloc ?_ _)); exact BK136.out⟩, ⟨by repeat (first | (with_reducible first | exact HB.out | apply below_alloc | apply pw_below_drewN | apply below_drew1 | refine below_set ?_ GE136.out) | exact HB.out)⟩⟩
     case round =>
      clear H'
      try clear p2
      try clear c3
      try clear c7
      try clear c7b0
      try clear hcz4_0
      try clear hcz4_1
      try clear hcz4_2
      try clear hcz6_0
      try clear hcz6_1
      try clear hcz6_2
      try clear hfz4_0
      try clear hfz4_1
      try clear hfz4_2
      try clear hfz6_0
      try clear hfz6_1
      try clear hfz6_2
      try clear p2
      obtain ⟨x4_2, x6_2, x7_2, x21_2, rfl, rfl, rfl, HA, HK2, HO_3, HO_4, HO_19, BK136, HB⟩ := hrel
      cases gk with
      | zero => exact absurd HA.out (by simp [impl_CrossingsOf.l1])
      | succ k2 =>
       have H := HA.out
       clear HA
       simp only [impl_CrossingsOf.l1] at H
       by_cases c9 : x21_2 < (t137.length : Int)
       ·rw [if_pos c9] at H
        have c9b0 : decide (x21_2 < (t137.length : Int)) = true := decide_eq_true c9
        clear c9
        by_cases c10 : 0 ≤ x21_2
        ·rw [if_pos c10] at H
         have c10b0 : decide (0 ≤ x21_2) = true := decide_eq_true c10
         clear c10
         by_cases c11 : x21_2 < (t137.length : Int)
         ·rw [if_pos c11] at H
          have c11b0 : decide (x21_2 < (t137.length : Int)) = true := decide_eq_true c11
          clear c11
          replace H := Option.bind_eq_some_iff.mp H
          obtain ⟨t141, A120, H⟩ := H
          replace H : (if t141 < 0 then (impl_CrossingsOf.l1 k2 t137 x4_2 x16_1 x6_2 x7_2 (a0_2.size : Int) x16_1 t137 (t137.length : Int) (wrap64 (x21_2 + 1))) else (if x6_2 < 0 then (impl_CrossingsOf.l1 k2 t137 x4_2 x16_1 x21_2 t141 (a0_2.size : Int) x16_1 t137 (t137.length : Int) (wrap64 (x21_2 + 1))) else (if x4_2.length < 3518437208883 then (impl_CrossingsOf.l1 k2 t137 (x4_2 ++ [(⟨x6_2, x21_2, x7_2, t141, x16_1⟩ : S59)]) x16_1 x6_2 x7_2 (a0_2.size : Int) x16_1 t137 (t137.length : Int) (wrap64 (x21_2 + 1))) else (none)))) = some r := H
          have A12 := Aside0.mk A120
          clear A120
          by_cases c13 : t141 < 0
          ·rw [if_pos c13] at H
           have c13b0 : decide (t141 < 0) = true := decide_eq_true c13
           clear c13
           have H' := Aside0.mk H
           clear H
           have p140 : 0 ≤ (x21_2 : Int) := of_decide_eq_true (by first | (with_reducible assumption) | assumption)
           have q140 : x21_2 < (t137.length : Int) := of_decide_eq_true (by first | (with_reducible assumption) | assumption)
           obtain ⟨ad140, A140_0, c140_0, e140, hx140_0, hl140_0, hi140_0⟩ := at_L4 (Kd.S_reads' HO_19.out).2.2 x21_2 p140 q140
           cases e140
           obtain ⟨ce140, hce140, hMe140, hcc140⟩ := Kd.S_get HO_19.out [] x21_2 p140 (by first | exact q140 | exact of_decide_eq_true (by first | (with_reducible assumption) | assumption) | (have e_ := (Kd.S_reads' HO_19.out).1; omega))
           obtain ⟨ve140_0, rfl, ge140_0⟩ := hMe140
           have hv140_0 := hcc140 0 _ rfl
           rw [Nat.add_zero, show ((Kd.slice 3 (Kd.int .i64))).sz = 1 from rfl, Nat.mul_one] at hv140_0
           replace hv140_0 := Option.some.inj (hv140_0.symm.trans hx140_0)
           rw [hv140_0] at ge140_0
           have HL140_0 := Aside0.mk (show Kd.R (Kd.int .i64) 3 _ _ _ _ (rd_L4 t137 x21_2) from ge140_0)
           clear hv140_0 ge140_0
           clear hcc140 hce140
           have HR140_0 := Aside0.mk hi140_0
           have HC140_0 := Aside0.mk hl140_0
           clear hi140_0 hl140_0
           replace p140 := eq_true p140
           replace q140 := eq_true q140
           go_wp2_with (first | ((with_reducible refine gate_callee (f := 75) rfl ?_); refine goesL_ (some 28) rfl rfl Try.func75 (by kernel_rfl) rfl #[.slice A140_0 (rd_L4 t137 x21_2).length c140_0, .int .i64 x16_1] rfl (by (try simp only [List.map_toArray, List.map_cons, List.map_nil]); first | done | rfl | (simp only [List.length_drop, List.length_take]; rfl)) ?_; (with_reducible refine (slices_Index_int_int.calls k2 _ _ (rd_L4 t137 x21_2) x16_1 t141 _ ?side1 ?side2 A12.out).mono ?_); (case side1 => repeat (first | exact (by repeat (first | (with_reducible exact HR140_0.out) | (with_reducible refine Kd.C_alloc ?_ _) | (with_reducible refine Kd.C_drewN ?_ _) | (with_reducible refine Kd.C_drew ?_) | exact HR140_0.out)) | (with_reducible refine Kd.C_alloc ?_ _) | (with_reducible refine Kd.C_drewN ?_ _) | (with_reducible refine Kd.C_drew ?_))); (case side2 => exact HC140_0.out); rintro e w' ⟨rfl, ⟨nd, rfl⟩⟩; refine ⟨_, rfl, ?_⟩))
           go_roundg k2
           case measure => have := HK1.out; have := HK2.out; omega
           case rel => exact ⟨(x4_2), (x6_2), (x7_2), (wrap64 (x21_2 + 1)), (by first | rfl | (simp; done) | (simp [*]; done)), (by first | rfl | (simp; done) | (simp [*]; done)), (by first | rfl | (simp; done) | (simp [*]; done)), H', ⟨by have := HK1.out; have := HK2.out; omega⟩, ⟨by (with_reducible repeat (first | apply Kd.S_alloc | apply Kd.S_drewN | apply Kd.S_drew)); exact HO_3.out⟩, ⟨by (with_reducible repeat (first | apply Kd.R_alloc | apply Kd.R_drewN | apply Kd.R_drew)); exact HO_4.out⟩, ⟨by (with_reducible repeat (first | apply Kd.S_alloc | apply Kd.S_drewN | apply Kd.S_drew)); exact HO_19.out⟩, ⟨by (with_reducible repeat (first | refine blk_drewN ?_ _ | refine blk_drew ?_ | refine blk_alloc ?_ _)); exact BK136.out⟩, ⟨by repeat (first | (with_reducible first | exact HB.out | apply below_alloc | apply pw_below_drewN | apply below_drew1 | refine below_set ?_ GE136.out) | exact HB.out)⟩⟩
          ·rw [if_neg c13] at H
           have c13b0 : decide (t141 < 0) = false := decide_eq_false c13
           clear c13
           by_cases c14 : x6_2 < 0
           ·rw [if_pos c14] at H
            have c14b0 : decide (x6_2 < 0) = true := decide_eq_true c14
            clear c14
            have H' := Aside0.mk H
            clear H
            have p140 : 0 ≤ (x21_2 : Int) := of_decide_eq_true (by first | (with_reducible assumption) | assumption)
            have q140 : x21_2 < (t137.length : Int) := of_decide_eq_true (by first | (with_reducible assumption) | assumption)
            obtain ⟨ad140, A140_0, c140_0, e140, hx140_0, hl140_0, hi140_0⟩ := at_L4 (Kd.S_reads' HO_19.out).2.2 x21_2 p140 q140
            cases e140
            obtain ⟨ce140, hce140, hMe140, hcc140⟩ := Kd.S_get HO_19.out [] x21_2 p140 (by first | exact q140 | exact of_decide_eq_true (by first | (with_reducible assumption) | assumption) | (have e_ := (Kd.S_reads' HO_19.out).1; omega))
            obtain ⟨ve140_0, rfl, ge140_0⟩ := hMe140
            have hv140_0 := hcc140 0 _ rfl
            rw [Nat.add_zero, show ((Kd.slice 3 (Kd.int .i64))).sz = 1 from rfl, Nat.mul_one] at hv140_0
            replace hv140_0 := Option.some.inj (hv140_0.symm.trans hx140_0)
            rw [hv140_0] at ge140_0
            have HL140_0 := Aside0.mk (show Kd.R (Kd.int .i64) 3 _ _ _ _ (rd_L4 t137 x21_2) from ge140_0)
            clear hv140_0 ge140_0
            clear hcc140 hce140
            have HR140_0 := Aside0.mk hi140_0
            have HC140_0 := Aside0.mk hl140_0
            clear hi140_0 hl140_0
            replace p140 := eq_true p140
            replace q140 := eq_true q140
            go_wp2_with (first | ((with_reducible refine gate_callee (f := 75) rfl ?_); refine goesL_ (some 28) rfl rfl Try.func75 (by kernel_rfl) rfl #[.slice A140_0 (rd_L4 t137 x21_2).length c140_0, .int .i64 x16_1] rfl (by (try simp only [List.map_toArray, List.map_cons, List.map_nil]); first | done | rfl | (simp only [List.length_drop, List.length_take]; rfl)) ?_; (with_reducible refine (slices_Index_int_int.calls k2 _ _ (rd_L4 t137 x21_2) x16_1 t141 _ ?side1 ?side2 A12.out).mono ?_); (case side1 => repeat (first | exact (by repeat (first | (with_reducible exact HR140_0.out) | (with_reducible refine Kd.C_alloc ?_ _) | (with_reducible refine Kd.C_drewN ?_ _) | (with_reducible refine Kd.C_drew ?_) | exact HR140_0.out)) | (with_reducible refine Kd.C_alloc ?_ _) | (with_reducible refine Kd.C_drewN ?_ _) | (with_reducible refine Kd.C_drew ?_))); (case side2 => exact HC140_0.out); rintro e w' ⟨rfl, ⟨nd, rfl⟩⟩; refine ⟨_, rfl, ?_⟩))
            go_roundg k2
            case measure => have := HK1.out; have := HK2.out; omega
            case rel => exact ⟨(x4_2), (x21_2), (t141), (wrap64 (x21_2 + 1)), (by first | rfl | (simp; done) | (simp [*]; done)), (by first | rfl | (simp; done) | (simp [*]; done)), (by first | rfl | (simp; done) | (simp [*]; done)), H', ⟨by have := HK1.out; have := HK2.out; omega⟩, ⟨by (with_reducible repeat (first | apply Kd.S_alloc | apply Kd.S_drewN | apply Kd.S_drew)); exact HO_3.out⟩, ⟨by (with_reducible repeat (first | apply Kd.R_alloc | apply Kd.R_drewN | apply Kd.R_drew)); exact HO_4.out⟩, ⟨by (with_reducible repeat (first | apply Kd.S_alloc | apply Kd.S_drewN | apply Kd.S_drew)); exact HO_19.out⟩, ⟨by (with_reducible repeat (first | refine blk_drewN ?_ _ | refine blk_drew ?_ | refine blk_alloc ?_ _)); exact BK136.out⟩, ⟨by repeat (first | (with_reducible first | exact HB.out | apply below_alloc | apply pw_below_drewN | apply below_drew1 | refine below_set ?_ GE136.out) | exact HB.out)⟩⟩
           ·rw [if_neg c14] at H
            have c14b0 : decide (x6_2 < 0) = false := decide_eq_false c14
            clear c14
            by_cases c15 : x4_2.length < 3518437208883
            ·rw [if_pos c15] at H
             have LMc15 := Aside0.mk c15
             clear c15
             obtain ⟨y142, hy142⟩ : ∃ y_ : List (S59), y_ = (x4_2 ++ [(⟨x6_2, x21_2, x7_2, t141, x16_1⟩ : S59)]) := ⟨_, rfl⟩
             replace H : (impl_CrossingsOf.l1 k2 t137 y142 x16_1 x6_2 x7_2 (a0_2.size : Int) x16_1 t137 (t137.length : Int) (wrap64 (x21_2 + 1))) = some r := by first | (rw [hy142]; with_reducible exact H) | (have H2_ := (Option.bind_some _ _).symm.trans H; rw [hy142]; with_reducible exact H2_) | (have H2_ := (Option.bind_some _ _).symm.trans H; with_reducible exact H2_) | with_reducible exact H | (rw [hy142]; exact H) | exact H
             have Ny142 := Aside0.mk hy142
             clear hy142
             have H' := Aside0.mk H
             clear H
             have p140 : 0 ≤ (x21_2 : Int) := of_decide_eq_true (by first | (with_reducible assumption) | assumption)
             have q140 : x21_2 < (t137.length : Int) := of_decide_eq_true (by first | (with_reducible assumption) | assumption)
             obtain ⟨ad140, A140_0, c140_0, e140, hx140_0, hl140_0, hi140_0⟩ := at_L4 (Kd.S_reads' HO_19.out).2.2 x21_2 p140 q140
             cases e140
             obtain ⟨ce140, hce140, hMe140, hcc140⟩ := Kd.S_get HO_19.out [] x21_2 p140 (by first | exact q140 | exact of_decide_eq_true (by first | (with_reducible assumption) | assumption) | (have e_ := (Kd.S_reads' HO_19.out).1; omega))
             obtain ⟨ve140_0, rfl, ge140_0⟩ := hMe140
             have hv140_0 := hcc140 0 _ rfl
             rw [Nat.add_zero, show ((Kd.slice 3 (Kd.int .i64))).sz = 1 from rfl, Nat.mul_one] at hv140_0
             replace hv140_0 := Option.some.inj (hv140_0.symm.trans hx140_0)
             rw [hv140_0] at ge140_0
             have HL140_0 := Aside0.mk (show Kd.R (Kd.int .i64) 3 _ _ _ _ (rd_L4 t137 x21_2) from ge140_0)
             clear hv140_0 ge140_0
             clear hcc140 hce140
             have HR140_0 := Aside0.mk hi140_0
             have HC140_0 := Aside0.mk hl140_0
             clear hi140_0 hl140_0
             replace p140 := eq_true p140
             replace q140 := eq_true q140
             go_wp2_with (first | ((with_reducible refine gate_callee (f := 75) rfl ?_); refine goesL_ (some 28) rfl rfl Try.func75 (by kernel_rfl) rfl #[.slice A140_0 (rd_L4 t137 x21_2).length c140_0, .int .i64 x16_1] rfl (by (try simp only [List.map_toArray, List.map_cons, List.map_nil]); first | done | rfl | (simp only [List.length_drop, List.length_take]; rfl)) ?_; (with_reducible refine (slices_Index_int_int.calls k2 _ _ (rd_L4 t137 x21_2) x16_1 t141 _ ?side1 ?side2 A12.out).mono ?_); (case side1 => repeat (first | exact (by repeat (first | (with_reducible exact HR140_0.out) | (with_reducible refine Kd.C_alloc ?_ _) | (with_reducible refine Kd.C_drewN ?_ _) | (with_reducible refine Kd.C_drew ?_) | exact HR140_0.out)) | (with_reducible refine Kd.C_alloc ?_ _) | (with_reducible refine Kd.C_drewN ?_ _) | (with_reducible refine Kd.C_drew ?_))); (case side2 => exact HC140_0.out); rintro e w' ⟨rfl, ⟨nd, rfl⟩⟩; refine ⟨_, rfl, ?_⟩) | ((with_reducible refine gate_builtin (b := .append) (xs := #[.tmp 35, .tmp 42]) rfl ?_); at_builtin; refine Kd.R_append k59 (w0 := w) w.heap.size rfl (.tmp 35) (.tmp 42) 52 59 (.agg #[(.int .i64 0), (.int .i64 0), (.int .i64 0), (.int .i64 0), (.int .i64 0)]) 40 rfl Try.underlying52 info59 rfl (by decide) (by omega) u4 x4_2 (⟨x6_2, x21_2, x7_2, t141, x16_1⟩ : S59) [.int .i64 x6_2, .int .i64 x21_2, .int .i64 x7_2, .int .i64 t141, .int .i64 x16_1] (fun _ => True) (fun _ => False) rfl rfl ?aP (fun _ hk => hk.elim) ?aF ?aO ?aB ?aS ?aL ?_; (case aP => exact k59_mkM _ _ _ (⟨x6_2, x21_2, x7_2, t141, x16_1⟩ : S59)); (case aB => exact (by repeat (first | (with_reducible first | exact HB.out | apply below_alloc | apply pw_below_drewN | apply below_drew1 | refine below_set ?_ GE136.out) | exact HB.out))); (case aF => exact (fun _ _ => trivial)); (case aO => exact (by (with_reducible repeat (first | apply Kd.R_alloc | apply Kd.R_drewN | apply Kd.R_drew)); exact HO_4.out)); (case aS => exact (below_size (by repeat (first | (with_reducible first | exact HB.out | apply below_alloc | apply pw_below_drewN | apply below_drew1 | refine below_set ?_ GE136.out) | exact HB.out)))); (case aL => have := LMc15.out; omega); intro v143 w16 ho hb hg hat; rw [← Ny142.out] at ho; have n0_ := Aside0.mk (Kd.S_over' (by (with_reducible repeat (first | apply Kd.S_alloc | apply Kd.S_drewN | apply Kd.S_drew)); exact HO_3.out) (Kd.R_typed (by (with_reducible repeat (first | apply Kd.R_alloc | apply Kd.R_drewN | apply Kd.R_drew)); exact HO_4.out)) (by decide) hg); have n1_ := Aside0.mk (Kd.S_over' (by (with_reducible repeat (first | apply Kd.S_alloc | apply Kd.S_drewN | apply Kd.S_drew)); exact HO_19.out) (Kd.R_typed (by (with_reducible repeat (first | apply Kd.R_alloc | apply Kd.R_drewN | apply Kd.R_drew)); exact HO_4.out)) (by decide) hg); have n2_ := Aside0.mk (blk_grown (g := gb136) (o := .cells #[.int .i64 a0_0, .int .i64 a0_1, .string a0_2] 48 (0, 0)) (by (with_reducible repeat (first | refine blk_drewN ?_ _ | refine blk_drew ?_ | refine blk_alloc ?_ _)); exact BK136.out) hg (Kd.R_ne HO_4.out BK136.out (by decide))); have n3_ := Aside0.mk (Kd.R_over' (by (with_reducible repeat (first | apply Kd.R_alloc | apply Kd.R_drewN | apply Kd.R_drew)); exact HL140_0.out) (Kd.R_typed (by (with_reducible repeat (first | apply Kd.R_alloc | apply Kd.R_drewN | apply Kd.R_drew)); exact HO_4.out)) (by decide) hg); have n4_ := Aside0.mk (hb); have n5_ := Aside0.mk (ho); clear HO_3; clear HO_19; clear BK136; clear HL140_0; clear HB; clear HO_4; have HO_3 := n0_; have HO_19 := n1_; have BK136 := n2_; have HL140_0 := n3_; have HB := n4_; have HO144 := n5_; clear n0_ n1_ n2_ n3_ n4_ n5_; clear ho hb hg hat))
             go_roundg k2
             case measure => have := HK1.out; have := HK2.out; omega
             case rel => exact ⟨(y142), (x6_2), (x7_2), (wrap64 (x21_2 + 1)), (by first | rfl | (simp; done) | (simp [*]; done)), (by first | rfl | (simp; done) | (simp [*]; done)), (by first | rfl | (simp; done) | (simp [*]; done)), H', ⟨by have := HK1.out; have := HK2.out; omega⟩, ⟨by (with_reducible repeat (first | apply Kd.S_alloc | apply Kd.S_drewN | apply Kd.S_drew)); exact HO_3.out⟩, ⟨by (with_reducible repeat (first | apply Kd.R_alloc | apply Kd.R_drewN | apply Kd.R_drew)); exact HO144.out⟩, ⟨by (with_reducible repeat (first | apply Kd.S_alloc | apply Kd.S_drewN | apply Kd.S_drew)); exact HO_19.out⟩, ⟨by (with_reducible repeat (first | refine blk_drewN ?_ _ | refine blk_drew ?_ | refine blk_alloc ?_ _)); exact BK136.out⟩, ⟨by repeat (first | (with_reducible first | exact HB.out | apply below_alloc | apply pw_below_drewN | apply below_drew1 | refine below_set ?_ GE136.out) | exact HB.out)⟩⟩
            ·rw [if_neg c15] at H
             exact absurd H (by simp)
         ·rw [if_neg c11] at H
          exact absurd H (by simp)
        ·rw [if_neg c10] at H
         exact absurd H (by simp)
       ·rw [if_neg c9] at H
        have c9b0 : decide (x21_2 < (t137.length : Int)) = false := decide_eq_false c9
        clear c9
        have H' := Aside0.mk H
        clear H
        go_wp2
        go_roundg k2
        case measure => have := HK1.out; have := HK2.out; omega
        case rel => exact ⟨(x4_2), (wrap64 (x16_1 + 1)), (by first | rfl | (simp; done) | (simp [*]; done)), H', ⟨by have := HK1.out; have := HK2.out; omega⟩, ⟨by (with_reducible repeat (first | apply Kd.S_alloc | apply Kd.S_drewN | apply Kd.S_drew)); exact HO_3.out⟩, ⟨by (with_reducible repeat (first | apply Kd.R_alloc | apply Kd.R_drewN | apply Kd.R_drew)); exact HO_4.out⟩, ⟨by (with_reducible repeat (first | refine blk_drewN ?_ _ | refine blk_drew ?_ | refine blk_alloc ?_ _)); exact BK136.out⟩, ⟨by repeat (first | (with_reducible first | exact HB.out | apply below_alloc | apply pw_below_drewN | apply below_drew1 | refine below_set ?_ GE136.out) | exact HB.out)⟩⟩
    ·rw [if_neg c7] at H
     have c7b0 : decide (x16_1 < (a0_2.size : Int)) = false := decide_eq_false c7
     clear c7
     obtain rfl := Option.some.inj H
     go_wp2
     go_ret
     exact ⟨_, by first | rfl | (simp [errW_none, errW_some] <;> rfl) | (simp [*, errW_none, errW_some] <;> rfl), by (with_reducible repeat (first | apply Kd.R_alloc | apply Kd.R_drewN | apply Kd.R_drew)); exact HO_4.out, by repeat (first | (with_reducible first | exact HB.out | apply below_alloc | apply pw_below_drewN | apply below_drew1 | refine below_set ?_ GE136.out) | exact HB.out)⟩

/-! ### impl_sortedInts: function 79 (given) -/
def siLays189_ren : Go.Shelf.Ren := ⟨fun | 189 => 96 | 125 => 101 | 257 => 103 | 128 => 114 | 129 => 115 | 294 => 118 | 295 => 119 | 296 => 120 | 297 => 121 | 298 => 122 | 299 => 123 | 216 => 124 | 300 => 125 | 301 => 126 | 328 => 143 | 329 => 136 | 330 => 137 | 331 => 144 | 332 => 145 | 215 => 146 | 343 => 149 | n => n, fun | 28 => 54 | 3 => 3 | 46 => 110 | 0 => 0 | 51 => 122 | 53 => 124 | 4 => 4 | 183 => 114 | 182 => 113 | 131 => 119 | 5 => 5 | 9 => 9 | 218 => 133 | 222 => 137 | 228 => 142 | 229 => 63 | n => n, fun | n => n⟩
theorem siLays189 : Go.Proofs.Lays.n189 Try.prog siLays189_ren := {
  mixed := by kernel_rfl
  f125 := Try.func101.trans (congrArg some (by kernel_rfl))
  f128 := Try.func114.trans (congrArg some (by kernel_rfl))
  f129 := Try.func115.trans (congrArg some (by kernel_rfl))
  f189 := Try.func96.trans (congrArg some (by kernel_rfl))
  f215 := Try.func146.trans (congrArg some (by kernel_rfl))
  f216 := Try.func124.trans (congrArg some (by kernel_rfl))
  f257 := Try.func103.trans (congrArg some (by kernel_rfl))
  f294 := Try.func118.trans (congrArg some (by kernel_rfl))
  f295 := Try.func119.trans (congrArg some (by kernel_rfl))
  f296 := Try.func120.trans (congrArg some (by kernel_rfl))
  f297 := Try.func121.trans (congrArg some (by kernel_rfl))
  f298 := Try.func122.trans (congrArg some (by kernel_rfl))
  f299 := Try.func123.trans (congrArg some (by kernel_rfl))
  f300 := Try.func125.trans (congrArg some (by kernel_rfl))
  f301 := Try.func126.trans (congrArg some (by kernel_rfl))
  f328 := Try.func143.trans (congrArg some (by kernel_rfl))
  f329 := Try.func136.trans (congrArg some (by kernel_rfl))
  f330 := Try.func137.trans (congrArg some (by kernel_rfl))
  f331 := Try.func144.trans (congrArg some (by kernel_rfl))
  f332 := Try.func145.trans (congrArg some (by kernel_rfl))
  f343 := Try.func149.trans (congrArg some (by kernel_rfl))
  t0 := Try.underlying0
  a0 := Try.isAgg0
  z0 := Try.sizeOf0
  v0 := Try.zeroValue0
  t3 := Try.underlying3
  a3 := Try.isAgg3
  z3 := Try.sizeOf3
  v3 := Try.zeroValue3
  t4 := Try.underlying4
  a4 := Try.isAgg4
  z4 := Try.sizeOf4
  v4 := Try.zeroValue4
  t5 := Try.underlying5
  a5 := Try.isAgg5
  z5 := Try.sizeOf5
  v5 := Try.zeroValue5
  t9 := Try.underlying9
  a9 := Try.isAgg9
  z9 := Try.sizeOf9
  v9 := Try.zeroValue9
  t28 := Try.underlying54
  a28 := Try.isAgg54
  z28 := Try.sizeOf54
  v28 := Try.zeroValue54
  t46 := Try.underlying110
  a46 := Try.isAgg110
  z46 := Try.sizeOf110
  v46 := Try.zeroValue110
  t51 := Try.underlying122
  a51 := Try.isAgg122
  z51 := Try.sizeOf122
  v51 := Try.zeroValue122
  t53 := Try.underlying124
  a53 := Try.isAgg124
  z53 := Try.sizeOf124
  v53 := Try.zeroValue124
  t131 := Try.underlying119
  a131 := Try.isAgg119
  z131 := Try.sizeOf119
  v131 := Try.zeroValue119
  t182 := Try.underlying113
  a182 := Try.isAgg113
  z182 := Try.sizeOf113
  v182 := Try.zeroValue113
  t183 := Try.underlying114
  a183 := Try.isAgg114
  z183 := Try.sizeOf114
  v183 := Try.zeroValue114
  t218 := Try.underlying133
  a218 := Try.isAgg133
  z218 := Try.sizeOf133
  v218 := Try.zeroValue133
  t222 := Try.underlying137
  a222 := Try.isAgg137
  z222 := Try.sizeOf137
  v222 := Try.zeroValue137
  t228 := Try.underlying142
  a228 := Try.isAgg142
  z228 := Try.sizeOf142
  v228 := Try.zeroValue142
  t229 := Try.underlying63
  a229 := Try.isAgg63
  z229 := Try.sizeOf63
  v229 := Try.zeroValue63 }
def siLays215_ren : Go.Shelf.Ren := ⟨fun | 15 => 95 | n => n, fun | 22 => 54 | 3 => 3 | 4 => 4 | n => n, fun | n => n⟩
theorem siLays215 : Go.Proofs.Lays2.n15 Try.prog siLays215_ren := {
  mixed := by kernel_rfl
  f15 := Try.func95.trans (congrArg some (by kernel_rfl))
  t3 := Try.underlying3
  a3 := Try.isAgg3
  z3 := Try.sizeOf3
  v3 := Try.zeroValue3
  t4 := Try.underlying4
  a4 := Try.isAgg4
  z4 := Try.sizeOf4
  v4 := Try.zeroValue4
  t22 := Try.underlying54
  a22 := Try.isAgg54
  z22 := Try.sizeOf54
  v22 := Try.zeroValue54
  i3 := by kernel_rfl }
def siLays220_ren : Go.Shelf.Ren := ⟨fun | 20 => 97 | n => n, fun | 22 => 54 | 3 => 3 | 4 => 4 | 0 => 0 | n => n, fun | n => n⟩
theorem siLays220 : Go.Proofs.Lays2.n20 Try.prog siLays220_ren := {
  mixed := by kernel_rfl
  f20 := Try.func97.trans (congrArg some (by kernel_rfl))
  t0 := Try.underlying0
  a0 := Try.isAgg0
  z0 := Try.sizeOf0
  v0 := Try.zeroValue0
  t3 := Try.underlying3
  a3 := Try.isAgg3
  z3 := Try.sizeOf3
  v3 := Try.zeroValue3
  t4 := Try.underlying4
  a4 := Try.isAgg4
  z4 := Try.sizeOf4
  v4 := Try.zeroValue4
  t22 := Try.underlying54
  a22 := Try.isAgg54
  z22 := Try.sizeOf54
  v22 := Try.zeroValue54
  i3 := by kernel_rfl }
open Go.Sort Go.RowKit in
theorem si_slices_Sort_int (blk off cap : Nat) (zs : List Int) (w : World) (hH : Holds (Value.int .i64) w blk off zs.toArray) (hblk : blk < w.heap.size) (hsz : zs.length < 4611686018427387904) :
    Calls Try.prog 96 #[.slice (some ⟨blk, off, none⟩) zs.length cap] w fun e w' =>
      e = .returned (.tuple #[]) ∧ ∃ n os, w' = grow (putRow (Value.int .i64) (Sort.ahead w n) blk off (zs.mergeSort fun x y => decide (x ≤ y)).toArray) os := Any.slices_Sort_int siLays189 blk off cap zs w hH hblk hsz
open Go.RowKit Go.Lib in
theorem si_slices_Clone_int (b off n c : Nat) (zs : List Int) (w : World) (hz : n ≤ zs.length) (hbig : n * 8 ≤ 140737488355328) (hc : ∀ j, j < zs.length → w.cell? ⟨b, off + j, none⟩ = some (.int .i64 (zs.getD j 0))) :
    Calls Try.prog 95 #[.slice (some ⟨b, off, none⟩) n c] w fun e w' => ∃ v', e = .returned v' ∧ w'.ownsRow w.heap.size 3 1 v' n ((zs.take n).map (Value.int .i64)) ∧ v' ≠ .slice none 0 0 ∧ Below w.heap.size w w' := Any.slices_Clone_int siLays215 b off n c zs w hz hbig hc
open Go.RowKit Go.Lib in
theorem si_slices_Clone_int_nil (n c : Nat) (w : World) :
    Calls Try.prog 95 #[.slice none n c] w fun e w' => e = .returned (.slice none 0 0) ∧ w' = w := Any.slices_Clone_int_nil siLays215 n c w
open Go.RowKit Go.Lib in
theorem si_slices_Clone_int_zero (a : Addr) (c : Nat) (w : World) :
    Calls Try.prog 95 #[.slice (some a) 0 c] w fun e w' => ∃ v', e = .returned v' ∧ w'.ownsRow w.heap.size 3 1 v' 0 [] ∧ v' ≠ .slice none 0 0 ∧ Below w.heap.size w w' := Any.slices_Clone_int_zero siLays215 a c w
open Go.RowKit Go.Lib Go.Sort in
theorem si_slices_Compact_int (blk off cap : Nat) (zs : List Int) (w : World) (hH : Holds (Value.int .i64) w blk off zs.toArray) (hsz : zs.length ≤ 9223372036854775807) (hcap : zs.length ≤ cap) :
    Calls Try.prog 97 #[.slice (some ⟨blk, off, none⟩) zs.length cap] w fun e w' => e = .returned (.slice (some ⟨blk, off, none⟩) (Lib.compact zs).length cap) ∧ ∃ q, w' = putRow (Value.int .i64) (Sort.ahead w q) blk off (Lib.compact zs ++ List.replicate (zs.length - (Lib.compact zs).length) 0).toArray := Any.slices_Compact_int siLays220 blk off cap zs w hH hsz hcap
open Go.RowKit Go.Lib Go.Sort in
theorem si_slices_Compact_int_empty (a : Option Addr) (cap : Nat) (w : World) :
    Calls Try.prog 97 #[.slice a 0 cap] w fun e w' => e = .returned (.slice a 0 cap) ∧ w' = w := Any.slices_Compact_int_empty siLays220 a cap w
open Go.RowKit Go.Sort in
theorem si_slices_Sort_int_none (p : Option Addr) (cap : Nat) (w : World) :
    Calls Try.prog 96 #[.slice p 0 cap] w fun e w' => e = .returned (.tuple #[]) ∧ w' = w := Any.slices_Sort_int_none siLays189 p cap w
def sortedM (l : List Int) : List Int := Lib.compact (l.mergeSort fun x y => decide (x ≤ y))
def impl_sortedInts.f (l0 : List Int) : Option (List Int) := if l0.length ≤ 1048576 then some (sortedM l0) else none
theorem si_compact_le (l : List Int) : (Lib.compact l).length ≤ l.length := by
  unfold Lib.compact Lib.compactUpTo
  rw [List.length_map]
  exact Nat.le_trans (List.length_filter_le _ _) (by simp)
theorem si_heap_putRow {α : Type} [Inhabited α] (enc : α → Value) (w : World) (g : Nat) (d : Array α) {cur : Array Value} {e : TypeId} {f : Nat × Nat} (h : w.heap[g]? = some (.cells cur e f)) :
    ∃ cur', (Go.Sort.putRow enc w g 0 d).heap[g]? = some (.cells cur' e f) ∧ cur'.size = cur.size :=
  ⟨Go.Sort.putCells enc 0 d cur, by simp [Go.Sort.putRow, Go.Sort.mapBlock, Array.getElem?_modify, h, Go.Sort.onCells], by simp [Go.Sort.putCells]⟩
theorem si_below_putRow {α : Type} [Inhabited α] {w W : World} (B : Nat) (enc : α → Value) (g n : Nat) (d : Array α) (h : Below B w W) (hb : B ≤ g) : Below B w (Go.Sort.putRow enc (Go.Sort.ahead W n) g 0 d) := by
  refine h.trans ⟨rfl, rfl, rfl, ?_, fun i hi => ?_⟩
  · simp [Go.Sort.putRow, Go.Sort.mapBlock, Go.Sort.ahead]
  · have : g ≠ i := by omega
    simp [Go.Sort.putRow, Go.Sort.mapBlock, Go.Sort.ahead, Array.getElem?_modify, this]
theorem si_below_grow {w W : World} (B : Nat) (os : Array Obj) (h : Below B w W) (hb : B ≤ W.heap.size) : Below B w (Go.Sort.grow W os) :=
  h.trans ⟨rfl, rfl, rfl, by simp, fun i hi => Go.Sort.heap_grow_old W os (by omega)⟩
theorem si_holds {w : World} {base g cap : Nat} {ok : Nat → Prop} {n : Nat} {l : List Int} (h : (Kd.int .i64).R 3 w base ok (.slice (some ⟨g, 0, none⟩) n cap) l) : Go.Sort.Holds (Value.int .i64) w g 0 l.toArray := by
  intro j hj
  have hl : j < l.length := by simpa using hj
  have hn := (Kd.R_reads' h).1
  obtain ⟨h1, h2⟩ := Kd.R_celln (0 : Int) h (j : Int) (by omega) (by omega)
  rw [Int.toNat_natCast] at h1 h2
  rw [Nat.zero_add, getElem!_pos l.toArray j hj]
  refine ⟨h1.trans ?_, h2⟩
  unfold rdOf
  simp [hl]
theorem si_own {w : World} {base g cap : Nat} {cur : Array Value} (xs ys : List Int) (hb : w.heap[g]? = some (.cells cur 3 (0, 0))) (hc : cur.size = cap) (hm : cap ≤ maxLen) (hbase : base ≤ g) (hx : xs.length ≤ cap) (hH : Go.Sort.Holds (Value.int .i64) w g 0 (xs ++ ys).toArray) :
    (Kd.int .i64).R 3 w base (fun _ => True) (.slice (some ⟨g, 0, none⟩) xs.length cap) xs := by
  refine Kd.R_of_own ⟨by rw [encs_length, Nat.mul_one], .inr ⟨g, cap, cur, rfl, hbase, hb, hx, hm, by rw [hc, Nat.mul_one], ?_⟩⟩ (fun _ _ => trivial)
  rw [Nat.mul_one]
  apply List.ext_getElem?
  intro j
  by_cases hj : j < xs.length
  · have hj2 : j < (xs ++ ys).toArray.size := by simp; omega
    have h1 := (hH j hj2).1
    rw [Nat.zero_add, getElem!_pos (xs ++ ys).toArray j hj2] at h1
    simp only [World.cell?, hb] at h1
    rw [List.getElem?_take, if_pos hj, Array.getElem?_toList]
    simp at h1
    rw [h1]
    simp [encs, hj, List.getElem_append_left]
  · rw [List.getElem?_eq_none (by simp; omega), List.getElem?_eq_none (by rw [encs_length]; omega)]
theorem si_addr {w : World} {A : Option Addr} {l : List Int} (h : Kd.C (Kd.int .i64) w A l.length l) (hp : 0 < l.length) : ∃ b off, A = some ⟨b, off, none⟩ ∧ ∀ j, j < l.length → w.cell? ⟨b, off + j, none⟩ = some (.int .i64 (l.getD j 0)) := by
  obtain ⟨ad, rfl, h0⟩ := Kd.at_int h 0 (by omega) (by omega)
  obtain ⟨b, off, sp⟩ := ad
  have hs : sp = none := by
    simp only [Int.toNat_zero, Addr.add, if_pos, World.cell?] at h0
    cases sp with
    | none => rfl
    | some x =>
      split at h0
      · simp at h0
      · cases h0
  subst hs
  refine ⟨b, off, rfl, fun j hj => ?_⟩
  obtain ⟨ad, e, hx⟩ := Kd.at_int h (j : Int) (by omega) (by omega)
  cases e
  rw [Int.toNat_natCast] at hx
  have : (⟨b, off, none⟩ : Addr).add j = ⟨b, off + j, none⟩ := by
    unfold Addr.add
    split
    · rename_i h; subst h; rfl
    · rfl
  rw [this] at hx
  rw [hx]
  simp [rd]
set_option maxHeartbeats 1600000 in
theorem impl_sortedInts.calls (A0 : Option Addr) (c0 : Nat) (l0 : List Int) (r : List Int) (w : World) (hr0 : Kd.C (Kd.int .i64) w A0 l0.length l0) (hc0 : l0.length ≤ c0) (h : impl_sortedInts.f l0 = some r) :
    Calls Try.prog 79 #[.slice A0 l0.length c0] w fun e w' => ∃ v0_ : Value, e = .returned (v0_) ∧ Kd.R (Kd.int .i64) 3 w' w.heap.size (fun _ => True) v0_ r ∧ Below w.heap.size w w' := by
  unfold impl_sortedInts.f at h
  by_cases hl : l0.length ≤ 1048576
  · rw [if_pos hl] at h
    injection h with h
    subst h
    by_cases hn : l0 = []
    · subst hn
      have hs : sortedM [] = [] := by
        unfold sortedM Lib.compact Lib.compactUpTo
        simp
      rw [hs]
      cases A0 with
      | none =>
        go_enter Try.func79, Try.ntmps79
        go_wp2_with fail
        go_at_call 95
        refine (si_slices_Clone_int_nil _ _ _).mono ?_
        rintro e w' ⟨rfl, rfl⟩
        go_wp2_with fail
        go_at_call 96
        refine (si_slices_Sort_int_none _ _ _).mono ?_
        rintro e w' ⟨rfl, rfl⟩
        go_wp2_with fail
        go_at_call 97
        refine (si_slices_Compact_int_empty _ _ _).mono ?_
        rintro e w' ⟨rfl, rfl⟩
        go_wp2_with fail
        go_ret
        exact ⟨_, rfl, Kd.R_nil _ _ _ _ _, Below.refl _ _⟩
      | some a =>
        go_enter Try.func79, Try.ntmps79
        go_wp2_with fail
        go_at_call 95
        refine (si_slices_Clone_int_zero a _ _).mono ?_
        rintro e w1 ⟨v1, rfl, ho, hv, hb⟩
        have HR := Aside0.mk (show (Kd.int .i64).R 3 w1 w.heap.size (fun _ => True) v1 [] from Kd.R_of_own ho (fun _ _ => trivial))
        obtain ⟨A1, c1, rfl⟩ := Kd.R_slice HR.out
        have HB := Aside0.mk hb
        clear ho hv hb
        go_wp2_with fail
        go_at_call 96
        refine (si_slices_Sort_int_none _ _ _).mono ?_
        rintro e w' ⟨rfl, rfl⟩
        go_wp2_with fail
        go_at_call 97
        refine (si_slices_Compact_int_empty _ _ _).mono ?_
        rintro e w' ⟨rfl, rfl⟩
        go_wp2_with fail
        go_ret
        exact ⟨_, rfl, HR.out, HB.out⟩
    · have hp : 0 < l0.length := List.length_pos_iff.2 hn
      obtain ⟨b, off, rfl, hcell⟩ := si_addr hr0 hp
      have kc := fun W (hW : Below w.heap.size w W) => si_slices_Clone_int b off l0.length c0 l0 W (Nat.le_refl _) (by omega) (fun j hj => (hW.cell (World.block_lt_of_cell? w _ (hcell j hj))).trans (hcell j hj))
      clear hr0 hcell
      go_enter Try.func79, Try.ntmps79
      go_wp2_with fail
      go_at_call 95
      refine (kc _ (Below.refl _ _)).mono ?_
      rintro e w1 ⟨v1, rfl, ho, hv, hb⟩
      rw [List.take_length] at ho
      have HR := Aside0.mk (show (Kd.int .i64).R 3 w1 w.heap.size (fun _ => True) v1 l0 from Kd.R_of_own ho (fun _ _ => trivial))
      obtain ⟨_, hoo⟩ := ho
      rcases hoo with ⟨rfl, _⟩ | ⟨g, cap, cur, rfl, hg, hheap, hcap, hmax, hcur, _⟩
      · exact absurd rfl hv
      have HB := Aside0.mk hb
      have hglt : g < w1.heap.size := by
        rcases Nat.lt_or_ge g w1.heap.size with h | h
        · exact h
        · rw [Array.getElem?_eq_none h] at hheap
          cases hheap
      have HH := Aside0.mk (si_holds HR.out)
      have HHE := Aside0.mk hheap
      have HCU := Aside0.mk hcur
      clear hb hv kc hheap hcur
      go_wp2_with fail
      go_at_call 96
      refine (si_slices_Sort_int g 0 cap l0 _ HH.out hglt (by omega)).mono ?_
      rintro e w2 ⟨rfl, n2, os2, hw2⟩
      have hsl : (l0.mergeSort fun x y => decide (x ≤ y)).length = l0.length := List.length_mergeSort _
      have hH2 : Go.Sort.Holds (Value.int .i64) w2 g 0 (l0.mergeSort fun x y => decide (x ≤ y)).toArray := by
        rw [hw2]
        refine Go.Sort.holds_grow _ _ _ _ _ _ (by simpa using hglt) ?_
        exact Go.Sort.holds_putRow _ _ g 0 l0.toArray _ (Go.Sort.holds_ahead _ _ _ _ _ _ HH.out) (by simp)
      have hb2 : Below w.heap.size w w2 := by
        rw [hw2]
        exact si_below_grow _ _ (si_below_putRow _ _ _ _ _ HB.out hg) (by have := HB.out.size; simpa using this)
      obtain ⟨cur2, hh2, hs2⟩ : ∃ cur2, w2.heap[g]? = some (.cells cur2 3 (0, 0)) ∧ cur2.size = cur.size := by
        rw [hw2]
        obtain ⟨c2, h1, h2⟩ := si_heap_putRow (Value.int .i64) (Go.Sort.ahead w1 n2) g (l0.mergeSort fun x y => decide (x ≤ y)).toArray HHE.out
        exact ⟨c2, by rw [Go.Sort.heap_grow_old _ _ (by simpa using hglt)]; exact h1, h2⟩
      have HH2 := Aside0.mk hH2
      have HB2 := Aside0.mk hb2
      have HHE2 := Aside0.mk hh2
      have HS2 := Aside0.mk hs2
      have HSL := Aside0.mk hsl
      have kk := si_slices_Compact_int g 0 cap (l0.mergeSort fun x y => decide (x ≤ y)) w2 hH2 (by omega) (by omega)
      rw [hsl] at kk
      clear hw2 hH2 hb2 hh2 hs2 HB HHE HH HR hsl
      go_wp2_with fail
      go_at_call 97
      refine kk.mono ?_
      rintro e w3 ⟨rfl, q3, hw3⟩
      have hcl := si_compact_le (l0.mergeSort fun x y => decide (x ≤ y))
      have hlen : (Lib.compact (l0.mergeSort fun x y => decide (x ≤ y)) ++ List.replicate (l0.length - (Lib.compact (l0.mergeSort fun x y => decide (x ≤ y))).length) 0).toArray.size = (l0.mergeSort fun x y => decide (x ≤ y)).toArray.size := by
        have := HSL.out
        simp
        omega
      have HH3 : Go.Sort.Holds (Value.int .i64) w3 g 0 (Lib.compact (l0.mergeSort fun x y => decide (x ≤ y)) ++ List.replicate (l0.length - (Lib.compact (l0.mergeSort fun x y => decide (x ≤ y))).length) 0).toArray := by
        rw [hw3]
        exact Go.Sort.holds_putRow _ _ g 0 _ _ (Go.Sort.holds_ahead _ _ _ _ _ _ HH2.out) hlen
      have hb3 : Below w.heap.size w w3 := by
        rw [hw3]
        exact si_below_putRow _ _ _ _ _ HB2.out hg
      obtain ⟨cur3, hh3, hs3⟩ : ∃ cur3, w3.heap[g]? = some (.cells cur3 3 (0, 0)) ∧ cur3.size = cur2.size := by
        rw [hw3]
        exact si_heap_putRow (Value.int .i64) (Go.Sort.ahead w2 q3) g _ HHE2.out
      have hfin := si_own (base := w.heap.size) (cap := cap) (Lib.compact (l0.mergeSort fun x y => decide (x ≤ y))) _ hh3 (by rw [hs3, HS2.out, HCU.out, Nat.mul_one]) hmax hg (by have := HSL.out; omega) HH3
      have HF := Aside0.mk hfin
      have HB3 := Aside0.mk hb3
      clear hfin hb3 HH3 hh3 hs3 hw3 hlen hcl kk
      go_wp2_with fail
      go_ret
      exact ⟨_, rfl, HF.out, HB3.out⟩
  · rw [if_neg hl] at h
    cases h


end Go.Proofs.Ytodcckiphdnjeab.QFnForms
