-- Written by a changed copy of the kit's printer (wip/mp.py of this repo), for this claim; Lean checks it.
import Derived.Test.YtodcckiphdnjeaaQFnFilledx0
import Derived.Test.YtodcckiphdnjeaaQFnFilledx4
import Derived.Test.YtodcckiphdnjeaaQFnFilledx18
namespace Go.Proofs.Ytodcckiphdnjeaa.QFnFilled
open Go.RowKit Go.Proofs.YtodcckiphdnjeaaW.PrintWords Go.Proofs.YtodcckiphdnjeaaW.PrintLast Go.Proofs.YtodcckiphdnjeaaW.PrintMore
attribute [local go_sem] max2_int min2_int max_two min_two max_three min_three max_four min_four   -- for this text's walks alone
set_option linter.unusedVariables false
set_option linter.unusedSimpArgs false

theorem bc3_19_ {W : World} {g : Nat} {v0 v1 v2 : Value} {t : TypeId} (h : W.heap[g]? = some (.cells #[v0, v1, v2] t (0, 0))) : W.cell? ⟨g, 0, none⟩ = some v0 ∧ W.cell? ⟨g, 1, none⟩ = some v1 ∧ W.cell? ⟨g, 2, none⟩ = some v2 ∧ W.frozen? ⟨g, 0, none⟩ = false ∧ W.frozen? ⟨g, 1, none⟩ = false ∧ W.frozen? ⟨g, 2, none⟩ = false := ⟨(blk_cell h 0).trans rfl, (blk_cell h 1).trans rfl, (blk_cell h 2).trans rfl, blk_frozen h 0, blk_frozen h 1, blk_frozen h 2⟩
theorem kd19_ {p q : Prop} (h0 : q) (h : q → p := by intro h_; (with_reducible repeat (first | apply Kd.R_alloc | apply Kd.R_drewN | apply Kd.R_drew)); exact h_) : p := h h0
theorem z19_0 {p : Prop} (h : p := by repeat (first | (with_reducible first | exact HB.out | apply below_alloc | apply pw_below_drewN | apply below_drew1 | refine below_set ?_ GE428.out) | exact HB.out)) : p := h
theorem z19_1 {p : Prop} (h : p := by (with_reducible repeat (first | refine blk_drewN ?_ _ | refine blk_drew ?_ | refine blk_alloc ?_ _)); exact BK428.out) : p := h
theorem z19_2 {p : Prop} (h : p := by (with_reducible repeat (first | apply Kd.S_alloc | apply Kd.S_drewN | apply Kd.S_drew)); exact HO_3.out) : p := h
theorem z19_3 {p : Prop} (h : p := by first | rfl | (simp; done) | (simp [*]; done)) : p := h
/-! ### impl_CrossingsOf: function 68 -/
mutual
def impl_CrossingsOf.l0 : Nat → List (List Int) → List (S114) → Int → Int → Option ((List (S114)))
  | 0, _, _, _, _ => none
  | k + 1, x3, x4, x15, x16 => if x16 < x15 then (impl_CrossingsOf.l1 k x3 x4 x16 (-1) 0 x15 x16 x3 (x3.length : Int) 0) else (some x4)
def impl_CrossingsOf.l1 : Nat → List (List Int) → List (S114) → Int → Int → Int → Int → Int → List (List Int) → Int → Int → Option ((List (S114)))
  | 0, _, _, _, _, _, _, _, _, _, _ => none
  | k + 1, x3, x4, x5, x6, x7, x15, x16, x19, x20, x21 => if x21 < x20 then (if 0 ≤ x21 then (if x21 < (x19.length : Int) then ((slices_Index_int_int.f k (rd_L3 x19 x21) x5).bind fun t433 => (if t433 < 0 then (impl_CrossingsOf.l1 k x3 x4 x5 x6 x7 x15 x16 x19 x20 (wrap64 (x21 + 1))) else (if x6 < 0 then (impl_CrossingsOf.l1 k x3 x4 x5 x21 t433 x15 x16 x19 x20 (wrap64 (x21 + 1))) else (if x4.length < 3518437208883 then (impl_CrossingsOf.l1 k x3 (x4 ++ [(⟨x6, x21, x7, t433, x5⟩ : S114)]) x5 x6 x7 x15 x16 x19 x20 (wrap64 (x21 + 1))) else (none))))) else (none)) else (none)) else (impl_CrossingsOf.l0 k x3 x4 x15 (wrap64 (x16 + 1)))
end
def impl_CrossingsOf.f (k : Nat) (a0_0 : Int) (a0_1 : Int) (a0_2 : ByteArray) : Option ((List (S114))) := (impl_layout.f k a0_0 a0_1 a0_2).bind fun t429 => (impl_CrossingsOf.l0 k t429 ([] : List (S114)) (a0_2.size : Int) 0)
theorem impl_CrossingsOf.mono_l : ∀ k, (∀ y0 y1 y2 y3, LeO (impl_CrossingsOf.l0 k y0 y1 y2 y3) (impl_CrossingsOf.l0 (k + 1) y0 y1 y2 y3)) ∧ (∀ y0 y1 y2 y3 y4 y5 y6 y7 y8 y9, LeO (impl_CrossingsOf.l1 k y0 y1 y2 y3 y4 y5 y6 y7 y8 y9) (impl_CrossingsOf.l1 (k + 1) y0 y1 y2 y3 y4 y5 y6 y7 y8 y9))
  | 0 => ⟨fun _ _ _ _ r h => by simp [impl_CrossingsOf.l0] at h, fun _ _ _ _ _ _ _ _ _ _ r h => by simp [impl_CrossingsOf.l1] at h⟩
  | k + 1 => by
   obtain ⟨ih0, ih1⟩ := impl_CrossingsOf.mono_l k; refine ⟨?_, ?_⟩
   ·intro y0 y1 y2 y3
    unfold impl_CrossingsOf.l0
    with_reducible repeat' first
    | exact ih0 _ _ _ _
    | exact ih1 _ _ _ _ _ _ _ _ _ _
    | exact impl_layout.mono _ _ _ _
    | exact slices_Index_int_int.mono _ _ _
    | exact LeO.refl _
    | exact LeO.none _
    | refine LeO.ite ?_ ?_
    | refine LeO.bind ?_ (fun _ => ?_)
   ·intro y0 y1 y2 y3 y4 y5 y6 y7 y8 y9
    unfold impl_CrossingsOf.l1
    with_reducible repeat' first
    | exact ih0 _ _ _ _
    | exact ih1 _ _ _ _ _ _ _ _ _ _
    | exact impl_layout.mono _ _ _ _
    | exact slices_Index_int_int.mono _ _ _
    | exact LeO.refl _
    | exact LeO.none _
    | refine LeO.ite ?_ ?_
    | refine LeO.bind ?_ (fun _ => ?_)
theorem impl_CrossingsOf.mono : ∀ a0 a1 a2 k, LeO (impl_CrossingsOf.f k a0 a1 a2) (impl_CrossingsOf.f (k + 1) a0 a1 a2) := by
  intro a0 a1 a2 k
  obtain ⟨ih0, ih1⟩ := impl_CrossingsOf.mono_l k; unfold impl_CrossingsOf.f
  with_reducible repeat' first
  | exact ih0 _ _ _ _
  | exact ih1 _ _ _ _ _ _ _ _ _ _
  | exact impl_layout.mono _ _ _ _
  | exact slices_Index_int_int.mono _ _ _
  | exact LeO.refl _
  | exact LeO.none _
  | refine LeO.ite ?_ ?_
  | refine LeO.bind ?_ (fun _ => ?_)
set_option maxHeartbeats 8000000 in
set_option maxRecDepth 100000 in
theorem impl_CrossingsOf.calls (k : Nat) (a0_0 : Int) (a0_1 : Int) (a0_2 : ByteArray) (r : List (S114)) (w : World) (h : impl_CrossingsOf.f k a0_0 a0_1 a0_2 = some r) :
   Calls Try.prog 68 #[.agg #[.int .i64 a0_0, .int .i64 a0_1, .string a0_2]] w fun e w' => ∃ v0_ : Value, e = .returned (v0_) ∧ Kd.R k114 114 w' w.heap.size (fun _ => True) v0_ r ∧ Below w.heap.size w w' := by
  have hu28 := Try.underlying28; have hu114 := Try.underlying114; have HB := Aside0.mk (Below.refl w.heap.size w); have H : ((impl_layout.f k a0_0 a0_1 a0_2).bind fun t429 => (impl_CrossingsOf.l0 k t429 ([] : List (S114)) (a0_2.size : Int) 0)) = some r := h; clear h; replace H := Option.bind_eq_some_iff.mp H; obtain ⟨t429, A20, H⟩ := H; try dsimp only at H
  have A2 := Aside0.mk A20; clear A20; have H' := Aside0.mk H
  clear H; go_enter Try.func68, Try.ntmps68
  go_wp2_with (first | ((with_reducible refine gate_dst (N := 1) rfl ?_); refine box_event ?hg (N := 1) ?hd (cs := #[.int .i64 a0_0, .int .i64 a0_1, .string a0_2]) (t := 28) ?hr ?_; (case hd => rfl); (case hg => rfl); (case hr => first | (go_simp; done) | (go_simp; rfl)); intro gb428 hg w3 hbox hb; have BK428 := Aside0.mk (hbox); have GW428 := Aside0.mk ((by rw [hg]; exact (below_size (by repeat (first | (with_reducible first | exact HB.out | apply below_alloc | apply pw_below_drewN | apply below_drew1) | exact HB.out))) : w.heap.size ≤ gb428)); have GE428 := Aside0.mk ((by rw [hg]; exact (below_size (by repeat (first | (with_reducible first | exact HB.out | apply below_alloc | apply pw_below_drewN | apply below_drew1) | exact HB.out))) : w.heap.size ≤ gb428)); replace HB := Aside0.mk (below_step (by repeat (first | (with_reducible first | exact HB.out | apply below_alloc | apply pw_below_drewN | apply below_drew1) | exact HB.out)) hb); clear hb hbox hg; obtain ⟨hcz4_0, hcz4_1, hcz4_2, hfz4_0, hfz4_1, hfz4_2⟩ := bc3_19_ BK428.out) | ((with_reducible refine gate_callee (f := 50) rfl ?_); refine goesL_ (some 12) rfl rfl Try.func50 (by kernel_rfl) rfl #[.agg #[.int .i64 a0_0, .int .i64 a0_1, .string a0_2]] rfl (by (try simp only [List.map_toArray, List.map_cons, List.map_nil]); first | done | rfl | (simp only [List.length_drop, List.length_take]; rfl)) ?_; (with_reducible refine (impl_layout.calls k a0_0 a0_1 a0_2 t429 _ A2.out).mono ?_); rintro e w5 ⟨v430, rfl, ho0, hb⟩; refine ⟨_, rfl, ?_⟩; have HO431 := Aside0.mk (Kd.S_lower ho0 (below_size z19_0)); replace BK428 := Aside0.mk (blk_below (g := gb428) (o := .cells #[.int .i64 a0_0, .int .i64 a0_1, .string a0_2] 28 (0, 0)) z19_1 hb); replace HB := Aside0.mk (below_step z19_0 hb); (try clear hb); (try clear ho0); obtain ⟨hcz6_0, hcz6_1, hcz6_2, hfz6_0, hfz6_1, hfz6_2⟩ := bc3_19_ BK428.out))
  go_loopg [4, 16] k (fun kq v4 v16 w' => ∃ (x4_1 : List (S114)) (x16_1 : Int), v16 = .int .i64 x16_1 ∧ Aside0 (impl_CrossingsOf.l0 kq t429 x4_1 (a0_2.size : Int) x16_1 = some r) ∧ Aside0 (kq ≤ k) ∧ Aside0 (Kd.S (Kd.slice 3 (Kd.int .i64)) 62 w' w.heap.size (fun _ => True) v430 t429) ∧ Aside0 (Kd.R k114 114 w' w.heap.size (fun _ => True) v4 x4_1) ∧ Aside0 (w'.heap[gb428]? = some (.cells #[.int .i64 a0_0, .int .i64 a0_1, .string a0_2] 28 (0, 0))) ∧ Aside0 (Below w.heap.size w w'))
  case atStart => exact ⟨(([] : List (S114))), (0), z19_3, H', ⟨Nat.le_refl _⟩, ⟨by (with_reducible repeat (first | apply Kd.S_alloc | apply Kd.S_drewN | apply Kd.S_drew)); exact HO431.out⟩, ⟨by first | exact Kd.R_nil _ _ _ _ _ | exact Kd.N_nil _ _ _ _ _ | exact Kd.V_nil _ _ _ _ _ | exact Kd.Q_nil _ _ _ _ _ | exact Kd.S_nil _ _ _ _ _⟩, ⟨z19_1⟩, ⟨z19_0⟩⟩
  case round =>
   clear H'; try clear p2
   try clear c5
   try clear c6
   try clear hcz4_0
   try clear hcz4_1
   try clear hcz4_2
   try clear hcz6_0
   try clear hcz6_1
   try clear hcz6_2
   try clear hfz4_0
   try clear hfz4_1
   try clear hfz4_2
   try clear hfz6_0
   try clear hfz6_1
   try clear hfz6_2
   obtain ⟨x4_1, x16_1, rfl, HA, HK1, HO_3, HO_4, BK428, HB⟩ := hrel
   cases gk with
   | zero => exact absurd HA.out (by simp [impl_CrossingsOf.l0])
   | succ k1 =>
    have H := HA.out; clear HA; simp only [impl_CrossingsOf.l0] at H; by_cases c7 : x16_1 < (a0_2.size : Int)
    ·rw [if_pos c7] at H
     have c7b0 : decide (x16_1 < (a0_2.size : Int)) = true := decide_eq_true c7; clear c7; have H' := Aside0.mk H
     clear H; obtain ⟨Ao8, co8, eo8⟩ := Kd.S_slice HO_3.out; subst eo8; go_wp2
     go_loopg [4, 6, 7, 21] k1 (fun kq v4 v6 v7 v21 w' => ∃ (x4_2 : List (S114)) (x6_2 : Int) (x7_2 : Int) (x21_2 : Int), v6 = .int .i64 x6_2 ∧ v7 = .int .i64 x7_2 ∧ v21 = .int .i64 x21_2 ∧ Aside0 (impl_CrossingsOf.l1 kq t429 x4_2 x16_1 x6_2 x7_2 (a0_2.size : Int) x16_1 t429 (t429.length : Int) x21_2 = some r) ∧ Aside0 (kq ≤ k1) ∧ Aside0 (Kd.S (Kd.slice 3 (Kd.int .i64)) 62 w' w.heap.size (fun _ => True) (.slice Ao8 t429.length co8) t429) ∧ Aside0 (Kd.R k114 114 w' w.heap.size (fun _ => True) v4 x4_2) ∧ Aside0 (Kd.S (Kd.slice 3 (Kd.int .i64)) 62 w' w.heap.size (fun _ => True) (.slice Ao8 t429.length co8) t429) ∧ Aside0 (w'.heap[gb428]? = some (.cells #[.int .i64 a0_0, .int .i64 a0_1, .string a0_2] 28 (0, 0))) ∧ Aside0 (Below w.heap.size w w'))
     case atStart => exact ⟨(x4_1), ((-1)), (0), (0), z19_3, z19_3, z19_3, H', ⟨Nat.le_refl _⟩, ⟨z19_2⟩, ⟨by (with_reducible repeat (first | apply Kd.R_alloc | apply Kd.R_drewN | apply Kd.R_drew)); exact HO_4.out⟩, ⟨z19_2⟩, ⟨z19_1⟩, ⟨z19_0⟩⟩
     case round =>
      clear H'; try clear p2
      try clear c5
      try clear c6
      try clear c7
      try clear c7b0
      try clear hcz4_0
      try clear hcz4_1
      try clear hcz4_2
      try clear hcz6_0
      try clear hcz6_1
      try clear hcz6_2
      try clear hfz4_0
      try clear hfz4_1
      try clear hfz4_2
      try clear hfz6_0
      try clear hfz6_1
      try clear hfz6_2
      try clear p2
      obtain ⟨x4_2, x6_2, x7_2, x21_2, rfl, rfl, rfl, HA, HK2, HO_3, HO_4, HO_19, BK428, HB⟩ := hrel
      cases gk with
      | zero => exact absurd HA.out (by simp [impl_CrossingsOf.l1])
      | succ k2 =>
       have H := HA.out; clear HA; simp only [impl_CrossingsOf.l1] at H; by_cases c9 : x21_2 < (t429.length : Int)
       ·rw [if_pos c9] at H
        have c9b0 : decide (x21_2 < (t429.length : Int)) = true := decide_eq_true c9; clear c9; by_cases c10 : 0 ≤ x21_2
        ·rw [if_pos c10] at H
         have c10b0 : decide (0 ≤ x21_2) = true := decide_eq_true c10; clear c10; by_cases c11 : x21_2 < (t429.length : Int)
         ·rw [if_pos c11] at H
          have c11b0 : decide (x21_2 < (t429.length : Int)) = true := decide_eq_true c11; clear c11; replace H := Option.bind_eq_some_iff.mp H; obtain ⟨t433, A120, H⟩ := H; try dsimp only at H
          have A12 := Aside0.mk A120; clear A120; by_cases c13 : t433 < 0
          ·rw [if_pos c13] at H
           have c13b0 : decide (t433 < 0) = true := decide_eq_true c13; clear c13; have H' := Aside0.mk H
           clear H; have p432 : 0 ≤ (x21_2 : Int) := of_decide_eq_true (by first | (with_reducible assumption) | assumption)
           have q432 : x21_2 < (t429.length : Int) := of_decide_eq_true (by first | (with_reducible assumption) | assumption)
           obtain ⟨ad432, A432_0, c432_0, e432, hx432_0, hl432_0, hi432_0⟩ := at_L3 (Kd.S_reads' HO_19.out).2.2 x21_2 p432 q432
           cases e432; obtain ⟨ce432, hce432, hMe432, hcc432⟩ := Kd.S_get HO_19.out [] x21_2 p432 (by first | exact q432 | exact of_decide_eq_true (by first | (with_reducible assumption) | assumption) | (have e_ := (Kd.S_reads' HO_19.out).1; omega))
           obtain ⟨ve432_0, rfl, ge432_0⟩ := hMe432; have hv432_0 := hcc432 0 _ rfl; rw [Nat.add_zero, show ((Kd.slice 3 (Kd.int .i64))).sz = 1 from rfl, Nat.mul_one] at hv432_0
           replace hv432_0 := Option.some.inj (hv432_0.symm.trans hx432_0); rw [hv432_0] at ge432_0
           have HL432_0 := Aside0.mk (show Kd.R (Kd.int .i64) 3 _ _ _ _ (rd_L3 t429 x21_2) from ge432_0); clear hv432_0 ge432_0; clear hcc432 hce432; have HR432_0 := Aside0.mk hi432_0; have HC432_0 := Aside0.mk hl432_0; clear hi432_0 hl432_0; replace p432 := eq_true p432; replace q432 := eq_true q432; go_wp2_with (first | ((with_reducible refine gate_callee (f := 102) rfl ?_); refine goesL_ (some 28) rfl rfl Try.func102 (by kernel_rfl) rfl #[.slice A432_0 (rd_L3 t429 x21_2).length c432_0, .int .i64 x16_1] rfl (by (try simp only [List.map_toArray, List.map_cons, List.map_nil]); first | done | rfl | (simp only [List.length_drop, List.length_take]; rfl)) ?_; (with_reducible refine (slices_Index_int_int.calls k2 _ _ (rd_L3 t429 x21_2) x16_1 t433 _ ?side1 ?side2 A12.out).mono ?_); (case side1 => repeat (first | exact (by repeat (first | (with_reducible exact HR432_0.out) | (with_reducible refine Kd.C_alloc ?_ _) | (with_reducible refine Kd.C_drewN ?_ _) | (with_reducible refine Kd.C_drew ?_) | exact HR432_0.out)) | (with_reducible refine Kd.C_alloc ?_ _) | (with_reducible refine Kd.C_drewN ?_ _) | (with_reducible refine Kd.C_drew ?_))); (case side2 => exact HC432_0.out); rintro e w' ⟨rfl, ⟨nd, rfl⟩⟩; refine ⟨_, rfl, ?_⟩))
           go_roundg k2
           case measure => have := HK1.out; have := HK2.out; omega
           case rel => exact ⟨(x4_2), (x6_2), (x7_2), (wrap64 (x21_2 + 1)), z19_3, z19_3, z19_3, H', ⟨by have := HK1.out; have := HK2.out; omega⟩, ⟨z19_2⟩, ⟨by (with_reducible repeat (first | apply Kd.R_alloc | apply Kd.R_drewN | apply Kd.R_drew)); exact HO_4.out⟩, ⟨by (with_reducible repeat (first | apply Kd.S_alloc | apply Kd.S_drewN | apply Kd.S_drew)); exact HO_19.out⟩, ⟨z19_1⟩, ⟨z19_0⟩⟩
          ·rw [if_neg c13] at H
           have c13b0 : decide (t433 < 0) = false := decide_eq_false c13; clear c13; by_cases c14 : x6_2 < 0
           ·rw [if_pos c14] at H
            have c14b0 : decide (x6_2 < 0) = true := decide_eq_true c14; clear c14; have H' := Aside0.mk H
            clear H; have p432 : 0 ≤ (x21_2 : Int) := of_decide_eq_true (by first | (with_reducible assumption) | assumption)
            have q432 : x21_2 < (t429.length : Int) := of_decide_eq_true (by first | (with_reducible assumption) | assumption)
            obtain ⟨ad432, A432_0, c432_0, e432, hx432_0, hl432_0, hi432_0⟩ := at_L3 (Kd.S_reads' HO_19.out).2.2 x21_2 p432 q432
            cases e432; obtain ⟨ce432, hce432, hMe432, hcc432⟩ := Kd.S_get HO_19.out [] x21_2 p432 (by first | exact q432 | exact of_decide_eq_true (by first | (with_reducible assumption) | assumption) | (have e_ := (Kd.S_reads' HO_19.out).1; omega))
            obtain ⟨ve432_0, rfl, ge432_0⟩ := hMe432; have hv432_0 := hcc432 0 _ rfl; rw [Nat.add_zero, show ((Kd.slice 3 (Kd.int .i64))).sz = 1 from rfl, Nat.mul_one] at hv432_0
            replace hv432_0 := Option.some.inj (hv432_0.symm.trans hx432_0); rw [hv432_0] at ge432_0
            have HL432_0 := Aside0.mk (show Kd.R (Kd.int .i64) 3 _ _ _ _ (rd_L3 t429 x21_2) from ge432_0); clear hv432_0 ge432_0; clear hcc432 hce432; have HR432_0 := Aside0.mk hi432_0; have HC432_0 := Aside0.mk hl432_0; clear hi432_0 hl432_0; replace p432 := eq_true p432; replace q432 := eq_true q432; go_wp2_with (first | ((with_reducible refine gate_callee (f := 102) rfl ?_); refine goesL_ (some 28) rfl rfl Try.func102 (by kernel_rfl) rfl #[.slice A432_0 (rd_L3 t429 x21_2).length c432_0, .int .i64 x16_1] rfl (by (try simp only [List.map_toArray, List.map_cons, List.map_nil]); first | done | rfl | (simp only [List.length_drop, List.length_take]; rfl)) ?_; (with_reducible refine (slices_Index_int_int.calls k2 _ _ (rd_L3 t429 x21_2) x16_1 t433 _ ?side1 ?side2 A12.out).mono ?_); (case side1 => repeat (first | exact (by repeat (first | (with_reducible exact HR432_0.out) | (with_reducible refine Kd.C_alloc ?_ _) | (with_reducible refine Kd.C_drewN ?_ _) | (with_reducible refine Kd.C_drew ?_) | exact HR432_0.out)) | (with_reducible refine Kd.C_alloc ?_ _) | (with_reducible refine Kd.C_drewN ?_ _) | (with_reducible refine Kd.C_drew ?_))); (case side2 => exact HC432_0.out); rintro e w' ⟨rfl, ⟨nd, rfl⟩⟩; refine ⟨_, rfl, ?_⟩))
            go_roundg k2
            case measure => have := HK1.out; have := HK2.out; omega
            case rel => exact ⟨(x4_2), (x21_2), (t433), (wrap64 (x21_2 + 1)), z19_3, z19_3, z19_3, H', ⟨by have := HK1.out; have := HK2.out; omega⟩, ⟨z19_2⟩, ⟨by (with_reducible repeat (first | apply Kd.R_alloc | apply Kd.R_drewN | apply Kd.R_drew)); exact HO_4.out⟩, ⟨by (with_reducible repeat (first | apply Kd.S_alloc | apply Kd.S_drewN | apply Kd.S_drew)); exact HO_19.out⟩, ⟨z19_1⟩, ⟨z19_0⟩⟩
           ·rw [if_neg c14] at H
            have c14b0 : decide (x6_2 < 0) = false := decide_eq_false c14; clear c14; by_cases c15 : x4_2.length < 3518437208883
            ·rw [if_pos c15] at H
             have LMc15 := Aside0.mk c15; clear c15; obtain ⟨y434, hy434⟩ : ∃ y_ : List (S114), y_ = (x4_2 ++ [(⟨x6_2, x21_2, x7_2, t433, x16_1⟩ : S114)]) := ⟨_, rfl⟩; replace H : (impl_CrossingsOf.l1 k2 t429 y434 x16_1 x6_2 x7_2 (a0_2.size : Int) x16_1 t429 (t429.length : Int) (wrap64 (x21_2 + 1))) = some r := by first | (rw [hy434]; with_reducible exact H) | (have H2_ := (Option.bind_some _ _).symm.trans H; rw [hy434]; with_reducible exact H2_) | (have H2_ := (Option.bind_some _ _).symm.trans H; with_reducible exact H2_) | with_reducible exact H | (rw [hy434]; exact H) | exact H
             have Ny434 := Aside0.mk hy434; clear hy434; have H' := Aside0.mk H
             clear H; have p432 : 0 ≤ (x21_2 : Int) := of_decide_eq_true (by first | (with_reducible assumption) | assumption)
             have q432 : x21_2 < (t429.length : Int) := of_decide_eq_true (by first | (with_reducible assumption) | assumption)
             obtain ⟨ad432, A432_0, c432_0, e432, hx432_0, hl432_0, hi432_0⟩ := at_L3 (Kd.S_reads' HO_19.out).2.2 x21_2 p432 q432
             cases e432; obtain ⟨ce432, hce432, hMe432, hcc432⟩ := Kd.S_get HO_19.out [] x21_2 p432 (by first | exact q432 | exact of_decide_eq_true (by first | (with_reducible assumption) | assumption) | (have e_ := (Kd.S_reads' HO_19.out).1; omega))
             obtain ⟨ve432_0, rfl, ge432_0⟩ := hMe432; have hv432_0 := hcc432 0 _ rfl; rw [Nat.add_zero, show ((Kd.slice 3 (Kd.int .i64))).sz = 1 from rfl, Nat.mul_one] at hv432_0
             replace hv432_0 := Option.some.inj (hv432_0.symm.trans hx432_0); rw [hv432_0] at ge432_0
             have HL432_0 := Aside0.mk (show Kd.R (Kd.int .i64) 3 _ _ _ _ (rd_L3 t429 x21_2) from ge432_0); clear hv432_0 ge432_0; clear hcc432 hce432; have HR432_0 := Aside0.mk hi432_0; have HC432_0 := Aside0.mk hl432_0; clear hi432_0 hl432_0; replace p432 := eq_true p432; replace q432 := eq_true q432; go_wp2_with (first | ((with_reducible refine gate_callee (f := 102) rfl ?_); refine goesL_ (some 28) rfl rfl Try.func102 (by kernel_rfl) rfl #[.slice A432_0 (rd_L3 t429 x21_2).length c432_0, .int .i64 x16_1] rfl (by (try simp only [List.map_toArray, List.map_cons, List.map_nil]); first | done | rfl | (simp only [List.length_drop, List.length_take]; rfl)) ?_; (with_reducible refine (slices_Index_int_int.calls k2 _ _ (rd_L3 t429 x21_2) x16_1 t433 _ ?side1 ?side2 A12.out).mono ?_); (case side1 => repeat (first | exact (by repeat (first | (with_reducible exact HR432_0.out) | (with_reducible refine Kd.C_alloc ?_ _) | (with_reducible refine Kd.C_drewN ?_ _) | (with_reducible refine Kd.C_drew ?_) | exact HR432_0.out)) | (with_reducible refine Kd.C_alloc ?_ _) | (with_reducible refine Kd.C_drewN ?_ _) | (with_reducible refine Kd.C_drew ?_))); (case side2 => exact HC432_0.out); rintro e w' ⟨rfl, ⟨nd, rfl⟩⟩; refine ⟨_, rfl, ?_⟩) | ((with_reducible refine gate_builtin (b := .append) (xs := #[.tmp 35, .tmp 42]) rfl ?_); at_builtin; refine Kd.R_append k114 (w0 := w) w.heap.size rfl (.tmp 35) (.tmp 42) 85 114 (.agg #[(.int .i64 0), (.int .i64 0), (.int .i64 0), (.int .i64 0), (.int .i64 0)]) 40 rfl Try.underlying85 info114 rfl (by decide) (by omega) u4 x4_2 (⟨x6_2, x21_2, x7_2, t433, x16_1⟩ : S114) [.int .i64 x6_2, .int .i64 x21_2, .int .i64 x7_2, .int .i64 t433, .int .i64 x16_1] (fun _ => True) (fun _ => False) rfl rfl ?aP (fun _ hk => hk.elim) ?aF ?aO ?aB ?aS ?aL ?_; (case aP => exact k114_mkM _ _ _ (⟨x6_2, x21_2, x7_2, t433, x16_1⟩ : S114)); (case aB => exact z19_0); (case aF => exact (fun _ _ => trivial)); (case aO => exact (kd19_ HO_4.out)); (case aS => exact (below_size z19_0)); (case aL => have := LMc15.out; omega); intro v435 w16 ho hb hg hat; rw [← Ny434.out] at ho; have n0_ := Aside0.mk (Kd.S_over' z19_2 (Kd.R_typed (kd19_ HO_4.out)) (by decide) hg); have n1_ := Aside0.mk (Kd.S_over' (by (with_reducible repeat (first | apply Kd.S_alloc | apply Kd.S_drewN | apply Kd.S_drew)); exact HO_19.out) (Kd.R_typed (kd19_ HO_4.out)) (by decide) hg); have n2_ := Aside0.mk (blk_grown (g := gb428) (o := .cells #[.int .i64 a0_0, .int .i64 a0_1, .string a0_2] 28 (0, 0)) z19_1 hg (Kd.R_ne HO_4.out BK428.out (by decide))); have n3_ := Aside0.mk (Kd.R_over' (kd19_ HL432_0.out) (Kd.R_typed (kd19_ HO_4.out)) (by decide) hg); have n4_ := Aside0.mk (hb); have n5_ := Aside0.mk (ho); clear HO_3; clear HO_19; clear BK428; clear HL432_0; clear HB; clear HO_4; have HO_3 := n0_; have HO_19 := n1_; have BK428 := n2_; have HL432_0 := n3_; have HB := n4_; have HO436 := n5_; clear n0_ n1_ n2_ n3_ n4_ n5_; clear ho hb hg hat))
             go_roundg k2
             case measure => have := HK1.out; have := HK2.out; omega
             case rel => exact ⟨(y434), (x6_2), (x7_2), (wrap64 (x21_2 + 1)), z19_3, z19_3, z19_3, H', ⟨by have := HK1.out; have := HK2.out; omega⟩, ⟨z19_2⟩, ⟨by (with_reducible repeat (first | apply Kd.R_alloc | apply Kd.R_drewN | apply Kd.R_drew)); exact HO436.out⟩, ⟨by (with_reducible repeat (first | apply Kd.S_alloc | apply Kd.S_drewN | apply Kd.S_drew)); exact HO_19.out⟩, ⟨z19_1⟩, ⟨z19_0⟩⟩
            ·rw [if_neg c15] at H
             exact absurd H (by simp)
         ·rw [if_neg c11] at H
          exact absurd H (by simp)
        ·rw [if_neg c10] at H
         exact absurd H (by simp)
       ·rw [if_neg c9] at H
        have c9b0 : decide (x21_2 < (t429.length : Int)) = false := decide_eq_false c9; clear c9; have H' := Aside0.mk H
        clear H; go_wp2
        go_roundg k2
        case measure => have := HK1.out; have := HK2.out; omega
        case rel => exact ⟨(x4_2), (wrap64 (x16_1 + 1)), z19_3, H', ⟨by have := HK1.out; have := HK2.out; omega⟩, ⟨z19_2⟩, ⟨by (with_reducible repeat (first | apply Kd.R_alloc | apply Kd.R_drewN | apply Kd.R_drew)); exact HO_4.out⟩, ⟨z19_1⟩, ⟨z19_0⟩⟩
    ·rw [if_neg c7] at H
     have c7b0 : decide (x16_1 < (a0_2.size : Int)) = false := decide_eq_false c7; clear c7; obtain rfl := Option.some.inj H; go_wp2
     go_ret
     exact ⟨_, by first | rfl | (simp [errW_none, errW_some] <;> rfl) | (simp [*, errW_none, errW_some] <;> rfl), by (with_reducible repeat (first | apply Kd.R_alloc | apply Kd.R_drewN | apply Kd.R_drew)); exact HO_4.out, z19_0⟩

-- NOT PRINTED: function 104 (impl_supported_1)

/-! ### impl_supported: function 71 (given) -/
/-- Has a word of a domain this letter at this place? -/
def supAt (place own : Int) (word x : ByteArray) : Bool := decide (place < (x.size : Int)) && (bt x place == bt word own)
def supLet (D : List (List ByteArray)) (other own place : Int) (word : ByteArray) : Option Bool := if ((0 ≤ other ∧ other < (D.length : Int)) ∧ (0 ≤ own ∧ own < (word.size : Int))) ∧ ((0 ≤ place ∧ place ≤ 1000000) ∧ (D.getD other.toNat []).length ≤ 1048576) then some ((D.getD other.toNat []).any (supAt place own word)) else none
def supGo (D : List (List ByteArray)) (slot : Int) (word : ByteArray) : List (S114) → Option Bool
  | [] => some true
  | x :: l => if slot = x.f0 then (supLet D x.f1 x.f2 x.f3 word).bind fun b => if b = true then supGo D slot word l else some false else if slot = x.f1 then (supLet D x.f0 x.f3 x.f2 word).bind fun b => if b = true then supGo D slot word l else some false else supGo D slot word l
theorem sup_at_row {w : World} {A : Option Addr} {n : Nat} {xs : List (List ByteArray)} (h : Kd.C (Kd.slice 9 Kd.string) w A n xs) (i : Int) (h0 : 0 ≤ i) (h1 : i < n) : ∃ ad A0 c0, A = some ad ∧ w.cell? (ad.add i.toNat) = some (.slice A0 (xs.getD i.toNat []).length c0) ∧ (xs.getD i.toNat []).length ≤ c0 ∧ Kd.string.C w A0 (xs.getD i.toNat []).length (xs.getD i.toNat []) := by
  obtain ⟨ad, c, hA, hl, ⟨A0, c0, rfl, hl0, hC⟩, hcc⟩ := Kd.C_get h [] i h0 h1; refine ⟨ad, A0, c0, hA, ?_, hl0, hC⟩
  have := hcc 0 _ rfl
  rw [show (Kd.slice 9 Kd.string).sz = 1 from rfl, Nat.mul_one, Nat.add_zero] at this
  exact this
/-- The first that p takes. -/
def firstAt (p : ByteArray → Bool) : List ByteArray → Nat → Int
  | [], _ => -1
  | x :: l, i => if p x = true then (i : Int) else firstAt p l (i + 1)
theorem firstAt_nil (p : ByteArray → Bool) (i : Nat) : firstAt p [] i = -1 := rfl
theorem firstAt_pos {p : ByteArray → Bool} {x : ByteArray} (l : List ByteArray) (i : Nat) (h : p x = true) : firstAt p (x :: l) i = i := if_pos h
theorem firstAt_neg {p : ByteArray → Bool} {x : ByteArray} (l : List ByteArray) (i : Nat) (h : ¬ p x = true) : firstAt p (x :: l) i = firstAt p l (i + 1) := if_neg h
theorem firstAt_any (p : ByteArray → Bool) : ∀ (l : List ByteArray) (i : Nat), decide (0 ≤ firstAt p l i) = l.any p
  | [], _ => rfl
  | x :: l, i => by
    rw [List.any_cons]
    by_cases h : p x = true
    · rw [firstAt_pos l i h, h]
      simp
    · rw [firstAt_neg l i h, firstAt_any p l (i + 1)]
      simp [h]
theorem sup_keep_calls (x word : ByteArray) (p o P V O : Nat) (w : World) (hp : w.cell? ⟨P, 0, none⟩ = some (.int .i64 (p : Int))) (hv : w.cell? ⟨V, 0, none⟩ = some (.string word)) (ho : w.cell? ⟨O, 0, none⟩ = some (.int .i64 (o : Int))) (hl : o < word.size) :
    Calls Try.prog 104 #[.string x, .pointer (some ⟨P, 0, none⟩), .pointer (some ⟨V, 0, none⟩), .pointer (some ⟨O, 0, none⟩)] w fun e w' => e = .returned (.bool (supAt p o word x)) ∧ Drawn0 w w' := by
  by_cases h : (p : Int) < (x.size : Int)
  · have hd : decide ((p : Int) < (x.size : Int)) = true := decide_eq_true h
    have hx8 := bt_at x (p : Int); simp only [Int.toNat_natCast] at hx8; replace hx8 := hx8 (by omega); have hy8 := bt_at word (o : Int); simp only [Int.toNat_natCast] at hy8; replace hy8 := hy8 hl; have p1 : (0 ≤ (p : Int)) = True := eq_true (by omega); have q1 : ((p : Int) < (x.size : Int)) = True := eq_true h; have p2 : (0 ≤ (o : Int)) = True := eq_true (by omega); have q2 : ((o : Int) < (word.size : Int)) = True := eq_true (by omega); have hE : supAt p o word x = (bt x p == bt word o) := by unfold supAt; rw [hd, Bool.true_and]
    rw [hE, ← hx8, ← hy8]
    have hd2 : decide (p < x.size) = true := decide_eq_true (by omega); clear hE hx8 hy8; go_enter Try.func104, Try.ntmps104
    go_wp2
    go_quiet (fail)
    go_wp2
    go_ret
    exact ⟨rfl, by repeat (first | exact Drawn0.refl _ | apply Drawn0.step)⟩
  · have hd : decide ((p : Int) < (x.size : Int)) = false := decide_eq_false h
    have hE : supAt p o word x = false := by unfold supAt; rw [hd, Bool.false_and]
    rw [hE]
    have hd2 : decide (p < x.size) = false := decide_eq_false (by omega); clear hE h; go_enter Try.func104, Try.ntmps104
    go_wp2
    go_quiet (fail)
    go_wp2
    go_ret
    exact ⟨rfl, by repeat (first | exact Drawn0.refl _ | apply Drawn0.step)⟩
theorem sup_idx_calls (word : ByteArray) (p o P V O : Nat) (A0 : Option Addr) (c0 : Nat) (l0 : List ByteArray) (w : World) (hp : w.cell? ⟨P, 0, none⟩ = some (.int .i64 (p : Int))) (hv : w.cell? ⟨V, 0, none⟩ = some (.string word)) (ho : w.cell? ⟨O, 0, none⟩ = some (.int .i64 (o : Int))) (hol : o < word.size) (hr0 : Kd.C Kd.string w A0 l0.length l0) (hl : l0.length ≤ 1048576) :
    Calls Try.prog 120 #[.slice A0 l0.length c0, .func (.func 104) #[] #[.pointer (some ⟨P, 0, none⟩), .pointer (some ⟨V, 0, none⟩), .pointer (some ⟨O, 0, none⟩)]] w fun e w' => e = .returned (.int .i64 (firstAt (supAt p o word) l0 0)) ∧ Drawn0 w w' := by
  have HR0 := Aside0.mk hr0; have KK := Aside0.mk (fun (x : ByteArray) (W : World) (hW : Drawn0 w W) => sup_keep_calls x word p o P V O W (by obtain ⟨n, rfl⟩ := hW; exact hp) (by obtain ⟨n, rfl⟩ := hW; exact hv) (by obtain ⟨n, rfl⟩ := hW; exact ho) hol); clear hr0 hp hv ho; go_enter Try.func120, Try.ntmps120
  go_wp2
  go_loopg [8] l0.length (fun kq v8 w' => ∃ (i : Nat), v8 = .int .i64 (i : Int) ∧ Aside0 (i ≤ l0.length) ∧ Aside0 (l0.length - i ≤ kq) ∧ Aside0 (firstAt (supAt p o word) (l0.drop i) i = firstAt (supAt p o word) l0 0) ∧ Drawn0 w w')
  case atStart => exact ⟨0, rfl, ⟨Nat.zero_le _⟩, ⟨by omega⟩, ⟨rfl⟩, Drawn0.refl _⟩
  case round =>
    obtain ⟨i, rfl, hi, hk, heq, ⟨m1, rfl⟩⟩ := hrel; by_cases hlt : i < l0.length
    · have cb0 : decide ((i : Int) < (l0.length : Int)) = true := by simp; exact hlt
      have hcr : rdOf ByteArray.empty l0 (i : Int) = l0[i] := by
        unfold rdOf
        simp [hlt]
      obtain ⟨ad, e1, hx⟩ := Kd.at_string HR0.out (i : Int) (by omega) (by omega)
      cases e1; rw [hcr] at hx
      simp only [Int.toNat_natCast] at hx; have p1 : (0 ≤ (i : Int)) = True := eq_true (by omega); have q1 : ((i : Int) < (l0.length : Int)) = True := eq_true (by omega); have heq' := heq.out
      rw [List.drop_eq_getElem_cons hlt] at heq'
      generalize l0[i] = x at hx heq' hcr
      by_cases hz : supAt p o word x = true
      · rw [firstAt_pos _ _ hz] at heq'
        have kk := fun W hW => KK.out x W hW
        rw [hz] at kk
        have HE := Aside0.mk heq'; clear heq heq' hcr hz; go_wp2_with fail
        go_at_call 104
        refine (kk _ (by repeat (first | exact Drawn0.refl _ | apply Drawn0.step))).mono ?_
        rintro e w' ⟨rfl, ⟨nd, rfl⟩⟩
        clear kk; go_wp2
        go_ret
        exact ⟨by rw [← HE.out] <;> rfl, by repeat (first | exact Drawn0.refl _ | apply Drawn0.step)⟩
      · rw [firstAt_neg _ _ hz] at heq'
        rw [Bool.not_eq_true] at hz
        have kk := fun W hW => KK.out x W hW
        rw [hz] at kk
        have HE := Aside0.mk heq'; clear heq heq' hcr hz; go_wp2_with fail
        go_at_call 104
        refine (kk _ (by repeat (first | exact Drawn0.refl _ | apply Drawn0.step))).mono ?_
        rintro e w' ⟨rfl, ⟨nd, rfl⟩⟩
        clear kk; go_wp2
        go_roundg (l0.length - (i + 1))
        case measure => have := hk.out; omega
        case rel => exact ⟨i + 1, by simp, ⟨by omega⟩, ⟨Nat.le_refl _⟩, HE, by repeat (first | exact Drawn0.refl _ | apply Drawn0.step)⟩
    · have cb0 : decide ((i : Int) < (l0.length : Int)) = false := by simp; omega
      have heq' := heq.out
      rw [List.drop_eq_nil_of_le (by omega), firstAt_nil] at heq'
      clear KK; go_wp2
      go_ret
      exact ⟨by rw [← heq'] <;> rfl, by repeat (first | exact Drawn0.refl _ | apply Drawn0.step)⟩
theorem sup_has_calls (word : ByteArray) (p o P V O : Nat) (A0 : Option Addr) (c0 : Nat) (l0 : List ByteArray) (w : World) (hp : w.cell? ⟨P, 0, none⟩ = some (.int .i64 (p : Int))) (hv : w.cell? ⟨V, 0, none⟩ = some (.string word)) (ho : w.cell? ⟨O, 0, none⟩ = some (.int .i64 (o : Int))) (hol : o < word.size) (hr0 : Kd.C Kd.string w A0 l0.length l0) (hl : l0.length ≤ 1048576) :
    Calls Try.prog 103 #[.slice A0 l0.length c0, .func (.func 104) #[] #[.pointer (some ⟨P, 0, none⟩), .pointer (some ⟨V, 0, none⟩), .pointer (some ⟨O, 0, none⟩)]] w fun e w' => e = .returned (.bool (l0.any (supAt p o word))) ∧ Drawn0 w w' := by
  have kd := sup_idx_calls word p o P V O A0 c0 l0 w hp hv ho hol hr0 hl; clear hr0 hp hv ho; rw [← firstAt_any _ l0 0]
  generalize firstAt (supAt p o word) l0 0 = q at kd ⊢
  go_enter Try.func103, Try.ntmps103
  go_wp2_with fail
  go_at_call 120
  refine kd.mono ?_
  rintro e w' ⟨rfl, ⟨nd, rfl⟩⟩
  go_wp2
  go_ret
  exact ⟨rfl, nd, rfl⟩
def impl_supported.f (l0 : List (S114)) (l1 : List (List ByteArray)) (a2 : Int) (a3 : ByteArray) : Option Bool := if l0.length ≤ 1000000 then supGo l1 a2 a3 l0 else none
theorem supGo_cons (D : List (List ByteArray)) (slot : Int) (word : ByteArray) (x : S114) (l : List (S114)) : supGo D slot word (x :: l) = if slot = x.f0 then (supLet D x.f1 x.f2 x.f3 word).bind fun b => if b = true then supGo D slot word l else some false else if slot = x.f1 then (supLet D x.f0 x.f3 x.f2 word).bind fun b => if b = true then supGo D slot word l else some false else supGo D slot word l := rfl
theorem sup_box_cell {w w1 : World} {cs : Array Value} {t : TypeId} (hb : Below (w.alloc (.cells cs t)).heap.size (w.alloc (.cells cs t)) w1) (j : Nat) (v : Value) (h : cs[j]? = some v) : w1.cell? ⟨w.heap.size, j, none⟩ = some v := by
  have h1 : (⟨w.heap.size, j, none⟩ : Addr).block < (w.alloc (.cells cs t)).heap.size := by simp [World.alloc, -World.alloc_eq]
  rw [hb.cell h1]
  simp [World.cell?, World.alloc, -World.alloc_eq, h]
/-- A crossing in its box, and the two places beside it. -/
structure SupW (x : S114) (g O P : Nat) (a b : Int) (wr w1 : World) : Prop where
  c0 : w1.cell? ⟨g, 0, none⟩ = some (.int .i64 x.f0)
  c1 : w1.cell? ⟨g, 1, none⟩ = some (.int .i64 x.f1)
  c2 : w1.cell? ⟨g, 2, none⟩ = some (.int .i64 x.f2)
  c3 : w1.cell? ⟨g, 3, none⟩ = some (.int .i64 x.f3)
  o : w1.cell? ⟨O, 0, none⟩ = some (.int .i64 a)
  p : w1.cell? ⟨P, 0, none⟩ = some (.int .i64 b)
  fo : w1.frozen? ⟨O, 0, none⟩ = false
  fp : w1.frozen? ⟨P, 0, none⟩ = false
  ne : O ≠ P
  go : g ≠ O
  gp : g ≠ P
  lo : wr.heap.size ≤ O
  lp : wr.heap.size ≤ P
  hb : Below wr.heap.size wr w1
theorem sup_size (w : World) (o : Obj) : (w.alloc o).heap.size = w.heap.size + 1 := by simp [World.alloc, -World.alloc_eq]
theorem sup_blkA (w : World) (a b c : Array Value) (t t1 t2 : TypeId) : (((w.alloc (.cells a t)).alloc (.cells b t1)).alloc (.cells c t2)).drew.heap[w.heap.size]? = some (.cells a t (0, 0)) := blk_drew (blk_alloc (blk_alloc (blk_new w _) _) _)
theorem sup_blkB (w : World) (a b c : Array Value) (t t1 t2 : TypeId) : (((w.alloc (.cells a t)).alloc (.cells b t1)).alloc (.cells c t2)).drew.heap[w.heap.size + 1]? = some (.cells b t1 (0, 0)) := by
  have h := blk_drew (blk_alloc (blk_new (w.alloc (.cells a t)) (.cells b t1)) (.cells c t2)); rw [sup_size] at h
  exact h
theorem sup_blkC (w : World) (a b c : Array Value) (t t1 t2 : TypeId) : (((w.alloc (.cells a t)).alloc (.cells b t1)).alloc (.cells c t2)).drew.heap[w.heap.size + 1 + 1]? = some (.cells c t2 (0, 0)) := by
  have h := blk_drew (blk_new ((w.alloc (.cells a t)).alloc (.cells b t1)) (.cells c t2)); rw [sup_size, sup_size] at h
  exact h
theorem sup_w1 (x : S114) (w : World) : SupW x w.heap.size (w.heap.size + 1) (w.heap.size + 1 + 1) x.f2 x.f3 w (((w.alloc (.cells #[.int .i64 x.f0, .int .i64 x.f1, .int .i64 x.f2, .int .i64 x.f3, .int .i64 x.f4] 114)).alloc (.cells #[.int .i64 x.f2] 3)).alloc (.cells #[.int .i64 x.f3] 3)).drew :=
  ⟨blk_cell (sup_blkA w _ _ _ _ _ _) 0, blk_cell (sup_blkA w _ _ _ _ _ _) 1, blk_cell (sup_blkA w _ _ _ _ _ _) 2, blk_cell (sup_blkA w _ _ _ _ _ _) 3, blk_cell (sup_blkB w _ _ _ _ _ _) 0, blk_cell (sup_blkC w _ _ _ _ _ _) 0, blk_frozen (sup_blkB w _ _ _ _ _ _) 0, blk_frozen (sup_blkC w _ _ _ _ _ _) 0, by omega, by omega, by omega, by omega, by omega, below_drew (below_alloc (below_alloc (below_alloc (Below.refl _ _) _) _) _)⟩
theorem sup_w2 (x : S114) (w : World) : SupW x w.heap.size (w.heap.size + 1 + 1) (w.heap.size + 1) x.f2 x.f3 w (((w.alloc (.cells #[.int .i64 x.f0, .int .i64 x.f1, .int .i64 x.f2, .int .i64 x.f3, .int .i64 x.f4] 114)).alloc (.cells #[.int .i64 x.f3] 3)).alloc (.cells #[.int .i64 x.f2] 3)).drew :=
  ⟨blk_cell (sup_blkA w _ _ _ _ _ _) 0, blk_cell (sup_blkA w _ _ _ _ _ _) 1, blk_cell (sup_blkA w _ _ _ _ _ _) 2, blk_cell (sup_blkA w _ _ _ _ _ _) 3, blk_cell (sup_blkC w _ _ _ _ _ _) 0, blk_cell (sup_blkB w _ _ _ _ _ _) 0, blk_frozen (sup_blkC w _ _ _ _ _ _) 0, blk_frozen (sup_blkB w _ _ _ _ _ _) 0, by omega, by omega, by omega, by omega, by omega, below_drew (below_alloc (below_alloc (below_alloc (Below.refl _ _) _) _) _)⟩
theorem SupW.swap {x : S114} {g O P : Nat} {a b : Int} {wr wc : World} (h : SupW x g O P a b wr wc) (c d : Int) : SupW x g O P c d wr ((wc.setCell ⟨O, 0, none⟩ (.int .i64 c)).setCell ⟨P, 0, none⟩ (.int .i64 d)).drew := by
  have n1 : ∀ i, (⟨O, 0, none⟩ : Addr) ≠ ⟨g, i, none⟩ := fun i e => by simp only [Addr.mk.injEq] at e; exact h.go e.1.symm
  have n2 : ∀ i, (⟨P, 0, none⟩ : Addr) ≠ ⟨g, i, none⟩ := fun i e => by simp only [Addr.mk.injEq] at e; exact h.gp e.1.symm
  have n3 : (⟨P, 0, none⟩ : Addr) ≠ ⟨O, 0, none⟩ := fun e => by simp only [Addr.mk.injEq] at e; exact h.ne e.1.symm
  have n4 : (⟨O, 0, none⟩ : Addr) ≠ ⟨P, 0, none⟩ := fun e => n3 e.symm
  have k : ∀ i v, wc.cell? ⟨g, i, none⟩ = some v → ((wc.setCell ⟨O, 0, none⟩ (.int .i64 c)).setCell ⟨P, 0, none⟩ (.int .i64 d)).drew.cell? ⟨g, i, none⟩ = some v := fun i v e => by
    show ((wc.setCell ⟨O, 0, none⟩ (.int .i64 c)).setCell ⟨P, 0, none⟩ (.int .i64 d)).cell? ⟨g, i, none⟩ = some v
    rw [World.cell?_setCell_other _ _ _ _ (n2 i), World.cell?_setCell_other _ _ _ _ (n1 i)]
    exact e
  refine ⟨k 0 _ h.c0, k 1 _ h.c1, k 2 _ h.c2, k 3 _ h.c3, ?_, ?_, ?_, ?_, h.ne, h.go, h.gp, h.lo, h.lp, below_drew ((h.hb.setCell h.lo _).setCell h.lp _)⟩
  · show ((wc.setCell ⟨O, 0, none⟩ (.int .i64 c)).setCell ⟨P, 0, none⟩ (.int .i64 d)).cell? ⟨O, 0, none⟩ = _
    rw [World.cell?_setCell_other _ _ _ _ n3]
    exact World.cell?_setCell_same _ _ _ h.o
  · show ((wc.setCell ⟨O, 0, none⟩ (.int .i64 c)).setCell ⟨P, 0, none⟩ (.int .i64 d)).cell? ⟨P, 0, none⟩ = _
    exact World.cell?_setCell_same _ _ _ (by rw [World.cell?_setCell_other _ _ _ _ n4]; exact h.p)
  · show ((wc.setCell ⟨O, 0, none⟩ (.int .i64 c)).setCell ⟨P, 0, none⟩ (.int .i64 d)).frozen? ⟨O, 0, none⟩ = false
    rw [World.frozen?_setCell, World.frozen?_setCell]
    exact h.fo
  · show ((wc.setCell ⟨O, 0, none⟩ (.int .i64 c)).setCell ⟨P, 0, none⟩ (.int .i64 d)).frozen? ⟨P, 0, none⟩ = false
    rw [World.frozen?_setCell, World.frozen?_setCell]
    exact h.fp
set_option maxHeartbeats 4000000 in
set_option maxRecDepth 100000 in
theorem impl_supported.calls (A0 : Option Addr) (c0 : Nat) (l0 : List (S114)) (A1 : Option Addr) (c1 : Nat) (l1 : List (List ByteArray)) (a2 : Int) (a3 : ByteArray) (r : Bool) (w : World) (hr0 : Kd.C k114 w A0 l0.length l0) (hc0 : l0.length ≤ c0) (hr1 : Kd.C (Kd.slice 9 Kd.string) w A1 l1.length l1) (hc1 : l1.length ≤ c1) (h : impl_supported.f l0 l1 a2 a3 = some r) :
    Calls Try.prog 71 #[.slice A0 l0.length c0, .slice A1 l1.length c1, .int .i64 a2, .string a3] w fun e w' => e = .returned (.bool r) ∧ Below w.heap.size w w' := by
  unfold impl_supported.f at h
  by_cases hl : l0.length ≤ 1000000
  · rw [if_pos hl] at h
    have HR0 := Aside0.mk (Kd.C_below hr0 (below_alloc (Below.refl _ _) (.cells #[.string a3] 9))); have HR1 := Aside0.mk (Kd.C_below hr1 (below_alloc (Below.refl _ _) (.cells #[.string a3] 9))); have HH := Aside0.mk h; clear hr0 hr1 h hc0 hc1; go_enter Try.func71, Try.ntmps71
    go_wp2
    go_loopg [16] l0.length (fun kq v16 w' => ∃ (i : Nat), v16 = .int .i64 (i : Int) ∧ Aside0 (i ≤ l0.length) ∧ Aside0 (l0.length - i ≤ kq) ∧ Aside0 (supGo l1 a2 a3 (l0.drop i) = some r) ∧ Aside0 (Below (w.alloc (.cells #[.string a3] 9)).heap.size (w.alloc (.cells #[.string a3] 9)) w'))
    case atStart => exact ⟨0, rfl, ⟨Nat.zero_le _⟩, ⟨by omega⟩, HH, ⟨Below.refl _ _⟩⟩
    case round =>
      clear HH; obtain ⟨i, rfl, hi, hk, heq, HB⟩ := hrel; by_cases hlt : i < l0.length
      · have cb0 : decide ((i : Int) < (l0.length : Int)) = true := by simp; exact hlt
        obtain ⟨ad, e1, hx0, hx1, hx2, hx3, hx4⟩ := at_T114 HR0.out (i : Int) (by omega) (by omega)
        cases e1
        have hcr : rd_T114 l0 (i : Int) = l0[i] := by
          unfold rd_T114
          simp [hlt]
        rw [hcr] at hx0 hx1 hx2 hx3 hx4
        simp only [Int.toNat_natCast] at hx0 hx1 hx2 hx3 hx4; replace hx0 := (HB.out.cell (World.block_lt_of_cell? _ _ hx0)).trans hx0; replace hx1 := (HB.out.cell (World.block_lt_of_cell? _ _ hx1)).trans hx1; replace hx2 := (HB.out.cell (World.block_lt_of_cell? _ _ hx2)).trans hx2; replace hx3 := (HB.out.cell (World.block_lt_of_cell? _ _ hx3)).trans hx3; replace hx4 := (HB.out.cell (World.block_lt_of_cell? _ _ hx4)).trans hx4; have p1 : (0 ≤ (i : Int)) = True := eq_true (by omega); have q1 : ((i : Int) < (l0.length : Int)) = True := eq_true (by omega); have heq' := heq.out
        rw [List.drop_eq_getElem_cons hlt, supGo_cons] at heq'
        generalize l0[i] = x at hx0 hx1 hx2 hx3 hx4 heq'
        clear hcr heq; by_cases hA : a2 = x.f0
        · rw [if_pos hA] at heq'
          obtain ⟨b, hb, heq'⟩ := Option.bind_eq_some_iff.mp heq'; unfold supLet at hb
          by_cases hg : ((0 ≤ x.f1 ∧ x.f1 < (l1.length : Int)) ∧ (0 ≤ x.f2 ∧ x.f2 < (a3.size : Int))) ∧ ((0 ≤ x.f3 ∧ x.f3 ≤ 1000000) ∧ (l1.getD (x.f1).toNat []).length ≤ 1048576)
          · rw [if_pos hg] at hb
            injection hb with hb
            obtain ⟨⟨⟨o0, o1⟩, ⟨w0, w1⟩⟩, ⟨⟨q0, _⟩, hlen⟩⟩ := hg; obtain ⟨on, hon⟩ := Int.eq_ofNat_of_zero_le w0; obtain ⟨pn, hpn⟩ := Int.eq_ofNat_of_zero_le q0; obtain ⟨ad1, A1', c1', e1, hxD, hle1, hC1⟩ := sup_at_row HR1.out x.f1 o0 o1; generalize l1.getD (x.f1).toNat [] = row at hxD hle1 hC1 hb hlen
            cases e1; have HXD := Aside0.mk ((HB.out.cell (World.block_lt_of_cell? _ _ hxD)).trans hxD); have HC1 := Aside0.mk (Kd.C_below hC1 HB.out); have HV := Aside0.mk (sup_box_cell HB.out 0 _ rfl); have HO := Aside0.mk (show on < a3.size by omega); have HL := Aside0.mk hlen; have HON := Aside0.mk hon; have HPN := Aside0.mk hpn; have HBV := Aside0.mk hb; have HE := Aside0.mk heq'; have P1 := Aside0.mk (eq_true o0); have Q1 := Aside0.mk (eq_true o1); have ZA := Aside0.mk (show (a2 == x.f0) = true from beq_iff_eq.mpr hA); clear heq' hA hb hlen hon hpn hxD hC1 o0 o1 w0 w1 q0 hle1; go_wp2
            clear hx0 hx1 hx2 hx3 hx4 p1 q1; go_cut [11, 12, 13] (fun v11 v12 v13 w1 => ∃ O P : Nat, v11 = .int .i64 x.f1 ∧ v12 = .pointer (some ⟨O, 0, none⟩) ∧ v13 = .pointer (some ⟨P, 0, none⟩) ∧ Aside0 (SupW x wr.heap.size O P x.f2 x.f3 wr w1))
            case first =>
              go_region
              · go_wp2_with fail
                go_meet
                case rel => exact ⟨_, _, rfl, rfl, rfl, ⟨sup_w1 x wr⟩⟩
              · go_wp2_with fail
                go_meet
                case rel => exact ⟨_, _, rfl, rfl, rfl, ⟨sup_w2 x wr⟩⟩
            case rest =>
              obtain ⟨O, P, rfl, rfl, rfl, HS⟩ := hcut; have y0 := HS.out.c0; have zA := ZA.out; have hxD := pw_cell_below HS.out.hb HXD.out; have hV := pw_cell_below HS.out.hb HV.out; have hcO := HS.out.o; have hcP := HS.out.p; rw [HON.out] at hcO
              rw [HPN.out] at hcP
              have kk := Aside0.mk (sup_has_calls a3 pn on P w.heap.size O A1' c1' row wc hcP hV hcO HO.out (Kd.C_below HC1.out HS.out.hb) HL.out); have p1 := P1.out; have q1 := Q1.out; clear hV hcO hcP; go_wp2_with fail
              go_at_call 103
              refine kk.out.mono ?_
              rintro e w3 ⟨rfl, nd, rfl⟩
              have hE := HE.out; have hBV := HBV.out; rw [HON.out, HPN.out] at hBV
              rw [hBV]
              clear hBV
              cases b with
              | true =>
                rw [if_pos rfl] at hE
                have HE2 := Aside0.mk hE; clear hE kk; go_wp2
                go_roundg (l0.length - (i + 1))
                case measure => have := hk.out; omega
                case rel => exact ⟨i + 1, by simp, ⟨by omega⟩, ⟨Nat.le_refl _⟩, HE2, ⟨pw_below_drewN (below_step HB.out HS.out.hb) _⟩⟩
              | false =>
                rw [if_neg (by simp)] at hE
                injection hE with hE
                subst hE; clear kk; go_wp2
                go_ret
                exact ⟨rfl, pw_below_drewN (below_step (w := w) (below_alloc (Below.refl _ _) _) (below_step HB.out HS.out.hb)) _⟩
          · rw [if_neg hg] at hb
            cases hb
        · rw [if_neg hA] at heq'
          by_cases hB : a2 = x.f1
          · rw [if_pos hB] at heq'
            obtain ⟨b, hb, heq'⟩ := Option.bind_eq_some_iff.mp heq'; unfold supLet at hb
            by_cases hg : ((0 ≤ x.f0 ∧ x.f0 < (l1.length : Int)) ∧ (0 ≤ x.f3 ∧ x.f3 < (a3.size : Int))) ∧ ((0 ≤ x.f2 ∧ x.f2 ≤ 1000000) ∧ (l1.getD (x.f0).toNat []).length ≤ 1048576)
            · rw [if_pos hg] at hb
              injection hb with hb
              obtain ⟨⟨⟨o0, o1⟩, ⟨w0, w1⟩⟩, ⟨⟨q0, _⟩, hlen⟩⟩ := hg; obtain ⟨on, hon⟩ := Int.eq_ofNat_of_zero_le w0; obtain ⟨pn, hpn⟩ := Int.eq_ofNat_of_zero_le q0; obtain ⟨ad1, A1', c1', e1, hxD, hle1, hC1⟩ := sup_at_row HR1.out x.f0 o0 o1; generalize l1.getD (x.f0).toNat [] = row at hxD hle1 hC1 hb hlen
              cases e1; have HXD := Aside0.mk ((HB.out.cell (World.block_lt_of_cell? _ _ hxD)).trans hxD); have HC1 := Aside0.mk (Kd.C_below hC1 HB.out); have HV := Aside0.mk (sup_box_cell HB.out 0 _ rfl); have HO := Aside0.mk (show on < a3.size by omega); have HL := Aside0.mk hlen; have HON := Aside0.mk hon; have HPN := Aside0.mk hpn; have HBV := Aside0.mk hb; have HE := Aside0.mk heq'; have P1 := Aside0.mk (eq_true o0); have Q1 := Aside0.mk (eq_true o1); have ZA := Aside0.mk (show (a2 == x.f0) = false from beq_eq_false_iff_ne.mpr hA); have ZB := Aside0.mk (show (a2 == x.f1) = true from beq_iff_eq.mpr hB); clear heq' hA hB hb hlen hon hpn hxD hC1 o0 o1 w0 w1 q0 hle1; go_wp2
              clear hx0 hx1 hx2 hx3 hx4 p1 q1; go_cut [11, 12, 13] (fun v11 v12 v13 w1 => ∃ O P : Nat, v11 = .int .i64 x.f1 ∧ v12 = .pointer (some ⟨O, 0, none⟩) ∧ v13 = .pointer (some ⟨P, 0, none⟩) ∧ Aside0 (SupW x wr.heap.size O P x.f2 x.f3 wr w1))
              case first =>
                go_region
                · go_wp2_with fail
                  go_meet
                  case rel => exact ⟨_, _, rfl, rfl, rfl, ⟨sup_w1 x wr⟩⟩
                · go_wp2_with fail
                  go_meet
                  case rel => exact ⟨_, _, rfl, rfl, rfl, ⟨sup_w2 x wr⟩⟩
              case rest =>
                obtain ⟨O, P, rfl, rfl, rfl, HS⟩ := hcut; have y0 := HS.out.c0; have y1 := HS.out.c1; have y2 := HS.out.c2; have y3 := HS.out.c3; have ho := HS.out.o; have hp := HS.out.p; have ho2 : (wc.setCell ⟨P, 0, none⟩ (.int .i64 x.f2)).cell? ⟨O, 0, none⟩ = some (.int .i64 x.f2) := by rw [World.cell?_setCell_other _ _ _ _ (by intro h; simp only [Addr.mk.injEq] at h; exact HS.out.ne h.1.symm)]; exact HS.out.o
                have hp2 : (wc.setCell ⟨O, 0, none⟩ (.int .i64 x.f3)).cell? ⟨P, 0, none⟩ = some (.int .i64 x.f3) := by rw [World.cell?_setCell_other _ _ _ _ (by intro h; simp only [Addr.mk.injEq] at h; exact HS.out.ne h.1)]; exact HS.out.p
                have fo := HS.out.fo; have fp := HS.out.fp; have zA := ZA.out; have zB := ZB.out; go_wp2
                clear zA zB; go_region
                clear y0 y1 y2 y3 ho hp ho2 hp2 fo fp; have HT := Aside0.mk (HS.out.swap x.f3 x.f2); clear HS; generalize ((wc.setCell ⟨O, 0, none⟩ (.int .i64 x.f3)).setCell ⟨P, 0, none⟩ (.int .i64 x.f2)).drew = wd at HT ⊢
                have hxD := pw_cell_below HT.out.hb HXD.out; have hV := pw_cell_below HT.out.hb HV.out; have hcO := HT.out.o; have hcP := HT.out.p; rw [HON.out] at hcO
                rw [HPN.out] at hcP
                have kk := Aside0.mk (sup_has_calls a3 pn on P w.heap.size O A1' c1' row wd hcP hV hcO HO.out (Kd.C_below HC1.out HT.out.hb) HL.out); have p1 := P1.out; have q1 := Q1.out; clear hV hcO hcP; go_wp2_with fail
                go_at_call 103
                refine kk.out.mono ?_
                rintro e w3 ⟨rfl, nd, rfl⟩
                have hE := HE.out; have hBV := HBV.out; rw [HON.out, HPN.out] at hBV
                rw [hBV]
                clear hBV
                cases b with
                | true =>
                  rw [if_pos rfl] at hE
                  have HE2 := Aside0.mk hE; clear hE kk; go_wp2
                  go_roundg (l0.length - (i + 1))
                  case measure => have := hk.out; omega
                  case rel => exact ⟨i + 1, by simp, ⟨by omega⟩, ⟨Nat.le_refl _⟩, HE2, ⟨pw_below_drewN (below_step HB.out HT.out.hb) _⟩⟩
                | false =>
                  rw [if_neg (by simp)] at hE
                  injection hE with hE
                  subst hE; clear kk; go_wp2
                  go_ret
                  exact ⟨rfl, pw_below_drewN (below_step (w := w) (below_alloc (Below.refl _ _) _) (below_step HB.out HT.out.hb)) _⟩
            · rw [if_neg hg] at hb
              cases hb
          · rw [if_neg hB] at heq'
            have HE := Aside0.mk heq'; have zA : (a2 == x.f0) = false := beq_eq_false_iff_ne.mpr hA; have zB : (a2 == x.f1) = false := beq_eq_false_iff_ne.mpr hB; have ZA := Aside0.mk zA; have ZB := Aside0.mk zB; clear heq' hA hB zA zB; go_wp2
            clear hx0 hx1 hx2 hx3 hx4 p1 q1; go_cut [11, 12, 13] (fun v11 v12 v13 w1 => ∃ O P : Nat, v11 = .int .i64 x.f1 ∧ v12 = .pointer (some ⟨O, 0, none⟩) ∧ v13 = .pointer (some ⟨P, 0, none⟩) ∧ Aside0 (SupW x wr.heap.size O P x.f2 x.f3 wr w1))
            case first =>
              go_region
              · go_wp2_with fail
                go_meet
                case rel => exact ⟨_, _, rfl, rfl, rfl, ⟨sup_w1 x wr⟩⟩
              · go_wp2_with fail
                go_meet
                case rel => exact ⟨_, _, rfl, rfl, rfl, ⟨sup_w2 x wr⟩⟩
            case rest =>
              obtain ⟨O, P, rfl, rfl, rfl, HS⟩ := hcut; have y0 := HS.out.c0; have y1 := HS.out.c1; have zA := ZA.out; have zB := ZB.out; go_wp2
              go_roundg (l0.length - (i + 1))
              case measure => have := hk.out; omega
              case rel => exact ⟨i + 1, by simp, ⟨by omega⟩, ⟨Nat.le_refl _⟩, HE, ⟨below_step HB.out (by have := HS.out.hb; exact this)⟩⟩
      · have cb0 : decide ((i : Int) < (l0.length : Int)) = false := by simp; omega
        have heq' := heq.out
        rw [List.drop_eq_nil_of_le (by omega)] at heq'
        have HE := Aside0.mk (Option.some.inj heq'); clear heq heq'; go_wp2
        go_ret
        exact ⟨by rw [← HE.out] <;> rfl, below_step (w := w) (below_alloc (Below.refl _ _) _) HB.out⟩
  · rw [if_neg hl] at h
    cases h


-- NOT PRINTED: function 69 (impl_Prune_1)

end Go.Proofs.Ytodcckiphdnjeaa.QFnFilled
