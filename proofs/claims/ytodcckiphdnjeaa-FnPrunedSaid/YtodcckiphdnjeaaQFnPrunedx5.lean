-- Written by a changed copy of the kit's printer (wip/mp.py of this repo), for this claim; Lean checks it.
import Derived.Test.YtodcckiphdnjeaaQFnPrunedx0
import Derived.Test.YtodcckiphdnjeaaQFnPrunedx4
namespace Go.Proofs.Ytodcckiphdnjeaa.QFnPruned
open Go.RowKit Go.Proofs.YtodcckiphdnjeaaW.PrintWords Go.Proofs.YtodcckiphdnjeaaW.PrintLast Go.Proofs.YtodcckiphdnjeaaW.PrintMore
attribute [local go_sem] max2_int min2_int max_two min_two max_three min_three max_four min_four   -- for this text's walks alone
set_option linter.unusedVariables false
set_option maxHeartbeats 8000000
set_option maxRecDepth 100000
set_option linter.unusedSimpArgs false

theorem z5_1 {p : Prop} (h : p := by repeat (first | (with_reducible first | exact HB.out | apply below_alloc | apply pw_below_drewN | apply below_drew1 | refine below_set ?_ GE148.out) | exact HB.out)) : p := h
theorem z5_3 {p : Prop} (h : p := by repeat (first | (with_reducible first | exact HB.out | apply below_alloc | apply pw_below_drewN | apply below_drew1 | refine below_set ?_ GE130.out | refine below_set ?_ GE131.out) | exact HB.out)) : p := h
theorem z5_4 {p : Prop} (h : p := by (with_reducible repeat (first | apply Kd.S_alloc | apply Kd.S_drewN | apply Kd.S_drew)); exact HO_3.out) : p := h
theorem z5_5 {p : Prop} (h : p := by repeat (first | (with_reducible first | exact HB.out | apply below_alloc | apply pw_below_drewN | apply below_drew1 | refine below_set ?_ GE135.out) | exact HB.out)) : p := h
theorem z5_8 {p : Prop} (h : p := by repeat (first | (with_reducible first | exact HB.out | apply below_alloc | apply pw_below_drewN | apply below_drew1 | refine below_set ?_ GE135.out | refine below_set ?_ GE140.out) | exact HB.out)) : p := h
theorem z5_9 {p : Prop} (h : p := by (with_reducible repeat (first | refine blk_drewN ?_ _ | refine blk_drew ?_ | refine blk_alloc ?_ _)); exact BK148.out) : p := h
/-! ### impl_copyDomains: function 67 -/
def impl_copyDomains.l0 : Nat → List (List ByteArray) → List (List ByteArray) → Int → Int → Option ((List (List ByteArray)))
  | 0, _, _, _, _ => none
  | k + 1, x3, x6, x7, x8 => if x8 < x7 then (if 0 ≤ x8 then (if x8 < (x6.length : Int) then ((slices_Clone_string_string.f (rd_L5 x6 x8)).bind fun t124 => (if x3.length < 5864062014805 then (impl_copyDomains.l0 k (x3 ++ [t124]) x6 x7 (wrap64 (x8 + 1))) else (none))) else (none)) else (none)) else (some x3)
def impl_copyDomains.f (k : Nat) (l0 : List (List ByteArray)) : Option ((List (List ByteArray))) := impl_copyDomains.l0 k ([] : List (List ByteArray)) l0 (l0.length : Int) 0
theorem impl_copyDomains.calls (k : Nat) (A0 : Option Addr) (c0 : Nat) (l0 : List (List ByteArray)) (r : List (List ByteArray)) (w : World) (hr0 : Kd.C (Kd.slice 9 Kd.string) w A0 l0.length l0) (hc0 : l0.length ≤ c0) (h : impl_copyDomains.f k l0 = some r) :
   Calls Try.prog 67 #[.slice A0 l0.length c0] w fun e w' => ∃ v0_ : Value, e = .returned (v0_) ∧ Kd.S (Kd.slice 9 Kd.string) 24 w' w.heap.size (fun _ => True) v0_ r ∧ Below w.heap.size w w' := by
  have HR0 := Aside0.mk hr0; have HC0 := Aside0.mk hc0; clear hr0 hc0; have HB := Aside0.mk (Below.refl w.heap.size w); have H : (impl_copyDomains.l0 k ([] : List (List ByteArray)) l0 (l0.length : Int) 0) = some r := h; clear h; have H' := Aside0.mk H
  clear H; go_enter Try.func67, Try.ntmps67
  go_wp2
  go_loopg [3, 8] k (fun kq v3 v8 w' => ∃ (x3_1 : List (List ByteArray)) (x8_1 : Int), v8 = .int .i64 x8_1 ∧ Aside0 (impl_copyDomains.l0 kq x3_1 l0 (l0.length : Int) x8_1 = some r) ∧ Aside0 (kq ≤ k) ∧ Aside0 (Kd.S (Kd.slice 9 Kd.string) 24 w' w.heap.size (fun _ => True) v3 x3_1) ∧ Aside0 (Below w.heap.size w w'))
  case atStart => exact ⟨(([] : List (List ByteArray))), (0), z_g2, H', ⟨Nat.le_refl _⟩, ⟨by first | exact Kd.S_nil _ _ _ _ _ | exact Kd.N_nil _ _ _ _ _ | exact Kd.V_nil _ _ _ _ _ | exact Kd.Q_nil _ _ _ _ _ | exact Kd.R_nil _ _ _ _ _⟩, ⟨z_g4⟩⟩
  case round =>
   clear H'; obtain ⟨x3_1, x8_1, rfl, HA, HK1, HO_3, HB⟩ := hrel
   cases gk with
   | zero => exact absurd HA.out (by simp [impl_copyDomains.l0])
   | succ k1 =>
    have H := HA.out; clear HA; simp only [impl_copyDomains.l0] at H; by_cases c2 : x8_1 < (l0.length : Int)
    ·rw [if_pos c2] at H
     have c2b0 := decide_eq_true c2; clear c2; by_cases c3 : 0 ≤ x8_1
     ·rw [if_pos c3] at H
      have c3b0 := decide_eq_true c3; clear c3; by_cases c4 : x8_1 < (l0.length : Int)
      ·rw [if_pos c4] at H
       have c4b0 := decide_eq_true c4; clear c4; replace H := Option.bind_eq_some_iff.mp H; obtain ⟨t124, A50, H⟩ := H; try dsimp only at H
       have A5 := Aside0.mk A50; clear A50; by_cases c6 : x3_1.length < 5864062014805
       ·rw [if_pos c6] at H
        have LMc6 := Aside0.mk c6; clear c6; obtain ⟨y127, hy127⟩ : ∃ y_ : List (List ByteArray), y_ = (x3_1 ++ [t124]) := ⟨_, rfl⟩; replace H : (impl_copyDomains.l0 k1 y127 l0 (l0.length : Int) (wrap64 (x8_1 + 1))) = some r := by first | (rw [hy127]; with_reducible exact H) | (have H2_ := (Option.bind_some _ _).symm.trans H; rw [hy127]; with_reducible exact H2_) | (have H2_ := (Option.bind_some _ _).symm.trans H; with_reducible exact H2_) | with_reducible exact H | (rw [hy127]; exact H) | exact H
        have Ny127 := Aside0.mk hy127; clear hy127; have H' := Aside0.mk H
        clear H; have p123 : 0 ≤ (x8_1 : Int) := of_decide_eq_true z_g1; have q123 : x8_1 < (l0.length : Int) := of_decide_eq_true z_g1; obtain ⟨ad123, A123_0, c123_0, e123, hx123_0, hl123_0, hi123_0⟩ := at_L5 HR0.out x8_1 p123 q123
        cases e123; try replace hx123_0 := (HB.out.cell (World.block_lt_of_cell? w _ hx123_0)).trans hx123_0
        have HR123_0 := Aside0.mk hi123_0; have HC123_0 := Aside0.mk hl123_0; clear hi123_0 hl123_0; replace p123 := eq_true p123; replace q123 := eq_true q123; go_wp2_with (first | ((with_reducible refine gate_callee (f := 91) rfl ?_); refine goesL_ (some 14) rfl rfl Try.func91 (by kernel_rfl) rfl #[.slice A123_0 (rd_L5 l0 x8_1).length c123_0] rfl z_g9 ?_; (with_reducible refine (slices_Clone_string_string.calls _ _ (rd_L5 l0 x8_1) t124 _ ?side1 ?side2 A5.out).mono ?_); (case side1 => repeat (first | exact (Kd.C_below HR123_0.out HB.out) | (with_reducible refine Kd.C_alloc ?_ _) | (with_reducible refine Kd.C_drewN ?_ _) | (with_reducible refine Kd.C_drew ?_))); (case side2 => exact HC123_0.out); rintro e w7 ⟨v125, rfl, ho0, hb⟩; refine ⟨_, rfl, ?_⟩; replace HO_3 := Aside0.mk (Kd.S_elder' z5_4 (Kd.R_base ho0) hb); have HO126 := Aside0.mk (Kd.R_lower ho0 (below_size z_g4)); replace HB := Aside0.mk (below_step z_g4 hb); (try clear hb); (try clear ho0); obtain ⟨Ao9, co9, eo9⟩ := Kd.R_slice HO126.out; subst eo9) | ((with_reducible refine gate_builtin (b := .append) (xs := #[.tmp 12, .tmp 15]) rfl ?_); at_builtin; refine Kd.S_append (Kd.slice 9 Kd.string) (w0 := w) w.heap.size rfl (.tmp 12) (.tmp 15) 48 24 (.slice none 0 0) 24 rfl Try.underlying48 info24 rfl (by decide) (by omega) u3 x3_1 t124 [.slice Ao9 t124.length co9] (fun _ => True) (fun k_ => some k_ = (.slice Ao9 t124.length co9 : Value).ownBlock) rfl rfl ?aP (fun k_ hk_ => ((Kd.R_mono (ok' := fun k_ => ((fun _ => True)) k_ ∧ some k_ ≠ (u3 : Value).ownBlock) (Kd.R_apart' (HO126.out) (Kd.S_typed HO_3.out) (by decide)) (fun k_ hk => ⟨trivial, hk.2⟩))).1 k_ hk_.symm) ?aF ?aO ?aB ?aS ?aL ?_; (case aP => exact Kd.M_row (Kd.R_mono (Kd.R_tight rfl (Kd.R_mono (ok' := fun k_ => ((fun _ => True)) k_ ∧ some k_ ≠ (u3 : Value).ownBlock) (Kd.R_apart' (HO126.out) (Kd.S_typed HO_3.out) (by decide)) (fun k_ hk => ⟨trivial, hk.2⟩))) (fun _ h_ => h_))); (case aB => exact z_g4); (case aF => exact (fun _ _ => trivial)); (case aO => exact (by (with_reducible repeat (first | apply Kd.S_alloc | apply Kd.S_drewN | apply Kd.S_drew)); exact Kd.S_mono HO_3.out (fun k_ hk => ⟨trivial, fun e_ => hk.2 e_⟩))); (case aS => exact (below_size z_g4)); (case aL => have := LMc6.out; omega); intro v128 w8 ho hb hg hat; rw [← Ny127.out] at ho; have n0_ := Aside0.mk (hb); have n1_ := Aside0.mk (ho); clear HB; clear HO_3; clear HO126; have HB := n0_; have HO129 := n1_; clear n0_ n1_; clear ho hb hg hat))
        go_roundg k1
        case measure => have := HK1.out; omega
        case rel => exact ⟨(y127), (wrap64 (x8_1 + 1)), z_g2, H', ⟨by have := HK1.out; omega⟩, ⟨by (with_reducible repeat (first | apply Kd.S_alloc | apply Kd.S_drewN | apply Kd.S_drew)); exact HO129.out⟩, ⟨z_g4⟩⟩
       ·rw [if_neg c6] at H
        exact absurd H (by simp)
      ·rw [if_neg c4] at H
       exact absurd H (by simp)
     ·rw [if_neg c3] at H
      exact absurd H (by simp)
    ·rw [if_neg c2] at H
     have c2b0 := decide_eq_false c2; clear c2; obtain rfl := Option.some.inj H; go_wp2
     go_ret
     exact ⟨_, by first | rfl | (simp [errW_none, errW_some] <;> rfl) | (simp [*, errW_none, errW_some] <;> rfl), z5_4, z_g4⟩

/-! ### impl_cells: function 86 -/
mutual
def impl_cells.j0 : Nat → Int → Int → Bool → Int → Int → Option (List Int)
  | 0, _, _, _, _, _ => none
  | k + 1, x5, x132000, x132001, x132002, x132003 => impl_cells.l0 k x5 ([] : List Int) x132003 0 x132000 x132001 x132002 x132003
def impl_cells.l0 : Nat → Int → List Int → Int → Int → Int → Bool → Int → Int → Option (List Int)
  | 0, _, _, _, _, _, _, _, _ => none
  | k + 1, x5, x6, x13, x14, x132000, x132001, x132002, x132003 => if x14 < x13 then (if x6.length < 17592186044416 then (impl_cells.l0 k x5 (x6 ++ [wrap64 (x132002 + (wrap64 (x14 * x5)))]) x13 (wrap64 (x14 + 1)) x132000 x132001 x132002 x132003) else (none)) else (some x6)
end
def impl_cells.f (k : Nat) (a0_0 : Int) (a0_1 : Int) (a0_2 : ByteArray) (a1_0 : Int) (a1_1 : Bool) (a1_2 : Int) (a1_3 : Int) : Option (List Int) := if a1_1 = true then (impl_cells.j0 k a0_1 a1_0 a1_1 a1_2 a1_3) else (impl_cells.j0 k 1 a1_0 a1_1 a1_2 a1_3)
theorem impl_cells.calls (k : Nat) (a0_0 : Int) (a0_1 : Int) (a0_2 : ByteArray) (a1_0 : Int) (a1_1 : Bool) (a1_2 : Int) (a1_3 : Int) (r : List Int) (w : World) (h : impl_cells.f k a0_0 a0_1 a0_2 a1_0 a1_1 a1_2 a1_3 = some r) :
   Calls Try.prog 86 #[.agg #[.int .i64 a0_0, .int .i64 a0_1, .string a0_2], .agg #[.int .i64 a1_0, .bool a1_1, .int .i64 a1_2, .int .i64 a1_3]] w fun e w' => ∃ v0_ : Value, e = .returned (v0_) ∧ Kd.R (Kd.int .i64) 3 w' w.heap.size (fun _ => True) v0_ r ∧ Below w.heap.size w w' := by
  have hu28 := Try.underlying28; have hu65 := Try.underlying65; have HB := Aside0.mk (Below.refl w.heap.size w); have H : (if a1_1 = true then (impl_cells.j0 k a0_1 a1_0 a1_1 a1_2 a1_3) else (impl_cells.j0 k 1 a1_0 a1_1 a1_2 a1_3)) = some r := h; clear h; have HC3 := Aside0.mk H; clear H; go_enter Try.func86, Try.ntmps86
  go_upto_if 9 with (first | ((with_reducible refine gate_dst (N := 2) rfl ?_); refine box_event ?hg (N := 2) ?hd (cs := #[.int .i64 a0_0, .int .i64 a0_1, .string a0_2]) (t := 28) ?hr ?_; (case hd => rfl); (case hg => rfl); (case hr => first | (go_simp; done) | (go_simp; rfl)); intro gb130 hg w4 hbox hb; have BK130 := Aside0.mk (hbox); have GW130 := Aside0.mk ((by rw [hg]; exact (below_size z_g4) : w.heap.size ≤ gb130)); have GE130 := Aside0.mk ((by rw [hg]; exact (below_size z_g4) : w.heap.size ≤ gb130)); replace HB := Aside0.mk (below_step z_g4 hb); clear hb hbox hg) | ((with_reducible refine gate_dst (N := 3) rfl ?_); refine box_event ?hg (N := 3) ?hd (cs := #[.int .i64 a1_0, .bool a1_1, .int .i64 a1_2, .int .i64 a1_3]) (t := 65) ?hr ?_; (case hd => rfl); (case hg => rfl); (case hr => first | (go_simp; done) | (go_simp; rfl)); intro gb131 hg w5 hbox hb; have BK131 := Aside0.mk (hbox); have GW131 := Aside0.mk ((by rw [hg]; exact (below_size (by repeat (first | (with_reducible first | exact HB.out | apply below_alloc | apply pw_below_drewN | apply below_drew1 | refine below_set ?_ GE130.out) | exact HB.out))) : w.heap.size ≤ gb131)); have GE131 := Aside0.mk ((by rw [hg]; exact (below_size (by repeat (first | (with_reducible first | exact HB.out | apply below_alloc | apply pw_below_drewN | apply below_drew1 | refine below_set ?_ GE130.out) | exact HB.out))) : w.heap.size ≤ gb131)); replace HB := Aside0.mk (below_step (by repeat (first | (with_reducible first | exact HB.out | apply below_alloc | apply pw_below_drewN | apply below_drew1 | refine below_set ?_ GE130.out) | exact HB.out)) hb); have NB130_131 := Aside0.mk ((by rw [hg]; exact Nat.ne_of_lt (blk_lt (g := gb130) (o := .cells #[.int .i64 a0_0, .int .i64 a0_1, .string a0_2] 28 (0, 0)) (bd_g7 BK130.out)) : gb130 ≠ gb131)); have NB131_130 := Aside0.mk ((by rw [hg]; exact Nat.ne_of_gt (blk_lt (g := gb130) (o := .cells #[.int .i64 a0_0, .int .i64 a0_1, .string a0_2] 28 (0, 0)) (bd_g7 BK130.out)) : gb131 ≠ gb130)); replace BK130 := Aside0.mk (blk_below (g := gb130) (o := .cells #[.int .i64 a0_0, .int .i64 a0_1, .string a0_2] 28 (0, 0)) (bd_g7 BK130.out) hb); clear hb hbox hg; have hnb6 := NB131_130.out; have hnc6 := NB130_131.out; obtain ⟨hcz7_0, hcz7_1, hcz7_2, hcz7_3, hfz7_0, hfz7_1, hfz7_2, hfz7_3⟩ := bc4_g11 BK131.out))
  (try simp only [Act.put, List.setIfInBounds_toArray, List.set_cons_zero, List.set_cons_succ])
  go_cut [5] (fun v5 wc => ∃ (kq : Nat) (x5_2 : Int), v5 = .int .i64 x5_2 ∧ Aside0 (impl_cells.j0 kq x5_2 a1_0 a1_1 a1_2 a1_3 = some r) ∧ Aside0 (kq ≤ k) ∧ Aside0 (wc.heap[gb130]? = some (.cells #[.int .i64 a0_0, .int .i64 a0_1, .string a0_2] 28 (0, 0))) ∧ Aside0 (wc.heap[gb131]? = some (.cells #[.int .i64 a1_0, .bool a1_1, .int .i64 a1_2, .int .i64 a1_3] 65 (0, 0))) ∧ Aside0 (Below w.heap.size w wc))
  case first =>
   have H := HC3.out; clear HC3; by_cases c8 : a1_1 = true
   ·subst c8; rw [if_pos rfl] at H
    have H' := Aside0.mk H
    clear H; have hnb9 := NB130_131.out; have hnc9 := NB131_130.out; obtain ⟨hcz10_0, hcz10_1, hcz10_2, hfz10_0, hfz10_1, hfz10_2⟩ := bc3_g0 BK130.out; go_wp2
    go_meet
    case rel => exact ⟨_, (a0_1), z_g2, H', ⟨by first | omega | exact Nat.le_refl _⟩, ⟨by (with_reducible repeat (first | refine blk_drewN ?_ _ | refine blk_drew ?_ | refine blk_alloc ?_ _)); exact BK130.out⟩, ⟨by (with_reducible repeat (first | refine blk_drewN ?_ _ | refine blk_drew ?_ | refine blk_alloc ?_ _)); exact BK131.out⟩, ⟨z5_3⟩⟩
   ·replace c8 := Bool.eq_false_iff.mpr c8; subst c8; rw [if_neg (show ¬ (false = true) by decide)] at H
    have H' := Aside0.mk H
    clear H; go_wp2
    go_meet
    case rel => exact ⟨_, (1), z_g2, H', ⟨by first | omega | exact Nat.le_refl _⟩, ⟨by (with_reducible repeat (first | refine blk_drewN ?_ _ | refine blk_drew ?_ | refine blk_alloc ?_ _)); exact BK130.out⟩, ⟨by (with_reducible repeat (first | refine blk_drewN ?_ _ | refine blk_drew ?_ | refine blk_alloc ?_ _)); exact BK131.out⟩, ⟨z5_3⟩⟩
  case rest =>
   clear HC3; try clear p2
   try clear c6
   try clear c8
   try clear c9
   try clear hcz10_0 hcz10_1 hcz10_2
   try clear hcz7_0 hcz7_1 hcz7_2 hcz7_3
   try clear hfz10_0 hfz10_1 hfz10_2
   try clear hfz7_0 hfz7_1 hfz7_2 hfz7_3
   obtain ⟨kq, x5_2, rfl, HA, HJ2, BK130, BK131, HB⟩ := hcut
   cases kq with
   | zero => exact absurd HA.out (by simp [impl_cells.j0])
   | succ kj2 =>
    have H := HA.out; clear HA; simp only [impl_cells.j0] at H; have H' := Aside0.mk H
    clear H; have hnb11 := NB131_130.out; have hnc11 := NB130_131.out; obtain ⟨hcz12_0, hcz12_1, hcz12_2, hcz12_3, hfz12_0, hfz12_1, hfz12_2, hfz12_3⟩ := bc4_g11 BK131.out; go_wp2
    go_loopg [6, 14] kj2 (fun kq v6 v14 w' => ∃ (x6_2 : List Int) (x14_2 : Int), v14 = .int .i64 x14_2 ∧ Aside0 (impl_cells.l0 kq x5_2 x6_2 a1_3 x14_2 a1_0 a1_1 a1_2 a1_3 = some r) ∧ Aside0 (kq ≤ kj2) ∧ Aside0 (Kd.R (Kd.int .i64) 3 w' w.heap.size (fun _ => True) v6 x6_2) ∧ Aside0 (w'.heap[gb130]? = some (.cells #[.int .i64 a0_0, .int .i64 a0_1, .string a0_2] 28 (0, 0))) ∧ Aside0 (w'.heap[gb131]? = some (.cells #[.int .i64 a1_0, .bool a1_1, .int .i64 a1_2, .int .i64 a1_3] 65 (0, 0))) ∧ Aside0 (Below w.heap.size w w'))
    case atStart => exact ⟨(([] : List Int)), (0), z_g2, H', ⟨Nat.le_refl _⟩, ⟨by first | exact Kd.R_nil _ _ _ _ _ | exact Kd.N_nil _ _ _ _ _ | exact Kd.V_nil _ _ _ _ _ | exact Kd.Q_nil _ _ _ _ _ | exact Kd.S_nil _ _ _ _ _⟩, ⟨by (with_reducible repeat (first | refine blk_drewN ?_ _ | refine blk_drew ?_ | refine blk_alloc ?_ _)); exact BK130.out⟩, ⟨by (with_reducible repeat (first | refine blk_drewN ?_ _ | refine blk_drew ?_ | refine blk_alloc ?_ _)); exact BK131.out⟩, ⟨z5_3⟩⟩
    case round =>
     clear H'; try clear c1
     try clear p2
     try clear c6
     try clear c8
     try clear c9
     try clear c11
     try clear hcz10_0 hcz10_1 hcz10_2
     try clear hcz12_0 hcz12_1 hcz12_2 hcz12_3
     try clear hcz7_0 hcz7_1 hcz7_2 hcz7_3
     try clear hfz10_0 hfz10_1 hfz10_2
     try clear hfz12_0 hfz12_1 hfz12_2 hfz12_3
     try clear hfz7_0 hfz7_1 hfz7_2 hfz7_3
     try clear p2
     obtain ⟨x6_2, x14_2, rfl, HA, HK2, HO_6, BK130, BK131, HB⟩ := hrel
     cases gk with
     | zero => exact absurd HA.out (by simp [impl_cells.l0])
     | succ k2 =>
      have H := HA.out; clear HA; simp only [impl_cells.l0] at H; by_cases c13 : x14_2 < a1_3
      ·rw [if_pos c13] at H
       have c13b0 := decide_eq_true c13; clear c13; by_cases c14 : x6_2.length < 17592186044416
       ·rw [if_pos c14] at H
        have LMc14 := Aside0.mk c14; clear c14; obtain ⟨y132, hy132⟩ : ∃ y_ : List Int, y_ = (x6_2 ++ [wrap64 (a1_2 + (wrap64 (x14_2 * x5_2)))]) := ⟨_, rfl⟩; replace H : (impl_cells.l0 k2 x5_2 y132 a1_3 (wrap64 (x14_2 + 1)) a1_0 a1_1 a1_2 a1_3) = some r := by first | (rw [hy132]; with_reducible exact H) | (have H2_ := (Option.bind_some _ _).symm.trans H; rw [hy132]; with_reducible exact H2_) | (have H2_ := (Option.bind_some _ _).symm.trans H; with_reducible exact H2_) | with_reducible exact H | (rw [hy132]; exact H) | exact H
        have Ny132 := Aside0.mk hy132; clear hy132; have H' := Aside0.mk H
        clear H; have hnb15 := NB131_130.out; have hnc15 := NB130_131.out; obtain ⟨hcz16_0, hcz16_1, hcz16_2, hcz16_3, hfz16_0, hfz16_1, hfz16_2, hfz16_3⟩ := bc4_g11 BK131.out; go_wp2_with (first | ((with_reducible refine gate_builtin (b := .append) (xs := #[.tmp 17, .tmp 24]) rfl ?_); at_builtin; refine Kd.R_append (Kd.int .i64) (w0 := w) w.heap.size rfl (.tmp 17) (.tmp 24) 62 3 (.int .i64 0) 8 rfl Try.underlying62 info3 rfl (by decide) (by omega) u6 x6_2 (wrap64 (a1_2 + (wrap64 (x14_2 * x5_2)))) [.int .i64 (wrap64 (a1_2 + (wrap64 (x14_2 * x5_2))))] (fun _ => True) (fun _ => False) rfl rfl ?aP (fun _ hk => hk.elim) ?aF ?aO ?aB ?aS ?aL ?_; (case aP => exact rfl); (case aB => exact z5_3); (case aF => exact (fun _ _ => trivial)); (case aO => exact (kd_g8 HO_6.out)); (case aS => exact (below_size z5_3)); (case aL => have := LMc14.out; omega); intro v133 w17 ho hb hg hat; rw [← Ny132.out] at ho; have n0_ := Aside0.mk (blk_grown (g := gb130) (o := .cells #[.int .i64 a0_0, .int .i64 a0_1, .string a0_2] 28 (0, 0)) (bd_g7 BK130.out) hg (Kd.R_ne HO_6.out BK130.out (by decide))); have n1_ := Aside0.mk (blk_grown (g := gb131) (o := .cells #[.int .i64 a1_0, .bool a1_1, .int .i64 a1_2, .int .i64 a1_3] 65 (0, 0)) (bd_g7 BK131.out) hg (Kd.R_ne HO_6.out BK131.out (by decide))); have n2_ := Aside0.mk (hb); have n3_ := Aside0.mk (ho); clear BK130; clear BK131; clear HB; clear HO_6; have BK130 := n0_; have BK131 := n1_; have HB := n2_; have HO134 := n3_; clear n0_ n1_ n2_ n3_; clear ho hb hg hat))
        go_roundg k2
        case measure => have := HJ2.out; have := HK2.out; omega
        case rel => exact ⟨(y132), (wrap64 (x14_2 + 1)), z_g2, H', ⟨by have := HJ2.out; have := HK2.out; omega⟩, ⟨by (with_reducible repeat (first | apply Kd.R_alloc | apply Kd.R_drewN | apply Kd.R_drew)); exact HO134.out⟩, ⟨by (with_reducible repeat (first | refine blk_drewN ?_ _ | refine blk_drew ?_ | refine blk_alloc ?_ _)); exact BK130.out⟩, ⟨by (with_reducible repeat (first | refine blk_drewN ?_ _ | refine blk_drew ?_ | refine blk_alloc ?_ _)); exact BK131.out⟩, ⟨z5_3⟩⟩
       ·rw [if_neg c14] at H
        exact absurd H (by simp)
      ·rw [if_neg c13] at H
       have c13b0 := decide_eq_false c13; clear c13; obtain rfl := Option.some.inj H; go_wp2
       go_ret
       exact ⟨_, by first | rfl | (simp [errW_none, errW_some] <;> rfl) | (simp [*, errW_none, errW_some] <;> rfl), by (with_reducible repeat (first | apply Kd.R_alloc | apply Kd.R_drewN | apply Kd.R_drew)); exact HO_6.out, z5_3⟩

/-! ### impl_layout: function 50 -/
def impl_layout.l0 : Nat → List (List Int) → List (S65) → Int → Int → Int → Int → ByteArray → Option ((List (List Int)))
  | 0, _, _, _, _, _, _, _ => none
  | k + 1, x3, x7, x8, x9, x136000, x136001, x136002 => if x9 < x8 then (if 0 ≤ x9 then (if x9 < (x7.length : Int) then ((impl_cells.f k x136000 x136001 x136002 ((rd_T65 x7 x9).f0) ((rd_T65 x7 x9).f1) ((rd_T65 x7 x9).f2) ((rd_T65 x7 x9).f3)).bind fun t141 => (if x3.length < 5864062014805 then (impl_layout.l0 k (x3 ++ [t141]) x7 x8 (wrap64 (x9 + 1)) x136000 x136001 x136002) else (none))) else (none)) else (none)) else (some x3)
def impl_layout.f (k : Nat) (a0_0 : Int) (a0_1 : Int) (a0_2 : ByteArray) : Option ((List (List Int))) := (impl_SlotsOf.f k a0_0 a0_1 a0_2).bind fun t136 => (impl_layout.l0 k ([] : List (List Int)) t136 (t136.length : Int) 0 a0_0 a0_1 a0_2)
theorem impl_layout.calls (k : Nat) (a0_0 : Int) (a0_1 : Int) (a0_2 : ByteArray) (r : List (List Int)) (w : World) (h : impl_layout.f k a0_0 a0_1 a0_2 = some r) :
   Calls Try.prog 50 #[.agg #[.int .i64 a0_0, .int .i64 a0_1, .string a0_2]] w fun e w' => ∃ v0_ : Value, e = .returned (v0_) ∧ Kd.S (Kd.slice 3 (Kd.int .i64)) 62 w' w.heap.size (fun _ => True) v0_ r ∧ Below w.heap.size w w' := by
  have hu28 := Try.underlying28; have hu65 := Try.underlying65; have HB := Aside0.mk (Below.refl w.heap.size w); have H : ((impl_SlotsOf.f k a0_0 a0_1 a0_2).bind fun t136 => (impl_layout.l0 k ([] : List (List Int)) t136 (t136.length : Int) 0 a0_0 a0_1 a0_2)) = some r := h; clear h; replace H := Option.bind_eq_some_iff.mp H; obtain ⟨t136, A20, H⟩ := H; try dsimp only at H
  have A2 := Aside0.mk A20; clear A20; have H' := Aside0.mk H
  clear H; go_enter Try.func50, Try.ntmps50
  go_wp2_with (first | ((with_reducible refine gate_dst (N := 1) rfl ?_); refine box_event ?hg (N := 1) ?hd (cs := #[.int .i64 a0_0, .int .i64 a0_1, .string a0_2]) (t := 28) ?hr ?_; (case hd => rfl); (case hg => rfl); (case hr => first | (go_simp; done) | (go_simp; rfl)); intro gb135 hg w3 hbox hb; have BK135 := Aside0.mk (hbox); have GW135 := Aside0.mk ((by rw [hg]; exact (below_size z_g4) : w.heap.size ≤ gb135)); have GE135 := Aside0.mk ((by rw [hg]; exact (below_size z_g4) : w.heap.size ≤ gb135)); replace HB := Aside0.mk (below_step z_g4 hb); clear hb hbox hg; obtain ⟨hcz4_0, hcz4_1, hcz4_2, hfz4_0, hfz4_1, hfz4_2⟩ := bc3_g0 BK135.out) | ((with_reducible refine gate_callee (f := 26) rfl ?_); refine goesL_ (some 7) rfl rfl Try.func26 (by kernel_rfl) rfl #[.agg #[.int .i64 a0_0, .int .i64 a0_1, .string a0_2]] rfl z_g9 ?_; (with_reducible refine (impl_SlotsOf.calls k a0_0 a0_1 a0_2 t136 _ A2.out).mono ?_); rintro e w5 ⟨v137, rfl, ho0, hb⟩; refine ⟨_, rfl, ?_⟩; have HO138 := Aside0.mk (Kd.R_lower ho0 (below_size z5_5)); replace BK135 := Aside0.mk (blk_below (g := gb135) (o := .cells #[.int .i64 a0_0, .int .i64 a0_1, .string a0_2] 28 (0, 0)) (bd_g7 BK135.out) hb); replace HB := Aside0.mk (below_step z5_5 hb); (try clear hb); (try clear ho0); obtain ⟨Ao6, co6, eo6⟩ := Kd.R_slice HO138.out; subst eo6))
  go_loopg [3, 9] k (fun kq v3 v9 w' => ∃ (x3_1 : List (List Int)) (x9_1 : Int), v9 = .int .i64 x9_1 ∧ Aside0 (impl_layout.l0 kq x3_1 t136 (t136.length : Int) x9_1 a0_0 a0_1 a0_2 = some r) ∧ Aside0 (kq ≤ k) ∧ Aside0 (Kd.S (Kd.slice 3 (Kd.int .i64)) 62 w' w.heap.size (fun _ => True) v3 x3_1) ∧ Aside0 (Kd.R k65 65 w' w.heap.size (fun _ => True) (.slice Ao6 t136.length co6) t136) ∧ Aside0 (w'.heap[gb135]? = some (.cells #[.int .i64 a0_0, .int .i64 a0_1, .string a0_2] 28 (0, 0))) ∧ Aside0 (Below w.heap.size w w'))
  case atStart => exact ⟨(([] : List (List Int))), (0), z_g2, H', ⟨Nat.le_refl _⟩, ⟨by first | exact Kd.S_nil _ _ _ _ _ | exact Kd.N_nil _ _ _ _ _ | exact Kd.V_nil _ _ _ _ _ | exact Kd.Q_nil _ _ _ _ _ | exact Kd.R_nil _ _ _ _ _⟩, ⟨by (with_reducible repeat (first | apply Kd.R_alloc | apply Kd.R_drewN | apply Kd.R_drew)); exact HO138.out⟩, ⟨by (with_reducible repeat (first | refine blk_drewN ?_ _ | refine blk_drew ?_ | refine blk_alloc ?_ _)); exact BK135.out⟩, ⟨z5_5⟩⟩
  case round =>
   clear H'; try clear c2
   try clear p2
   try clear c5
   try clear hcz4_0 hcz4_1 hcz4_2 hfz4_0 hfz4_1 hfz4_2
   obtain ⟨x3_1, x9_1, rfl, HA, HK1, HO_3, HO_7, BK135, HB⟩ := hrel
   cases gk with
   | zero => exact absurd HA.out (by simp [impl_layout.l0])
   | succ k1 =>
    have H := HA.out; clear HA; simp only [impl_layout.l0] at H; by_cases c7 : x9_1 < (t136.length : Int)
    ·rw [if_pos c7] at H
     have c7b0 := decide_eq_true c7; clear c7; by_cases c8 : 0 ≤ x9_1
     ·rw [if_pos c8] at H
      have c8b0 := decide_eq_true c8; clear c8; by_cases c9 : x9_1 < (t136.length : Int)
      ·rw [if_pos c9] at H
       have c9b0 := decide_eq_true c9; clear c9; replace H := Option.bind_eq_some_iff.mp H; obtain ⟨t141, A100, H⟩ := H; try dsimp only at H
       have A10 := Aside0.mk A100; clear A100; by_cases c11 : x3_1.length < 5864062014805
       ·rw [if_pos c11] at H
        have LMc11 := Aside0.mk c11; clear c11; obtain ⟨y144, hy144⟩ : ∃ y_ : List (List Int), y_ = (x3_1 ++ [t141]) := ⟨_, rfl⟩; replace H : (impl_layout.l0 k1 y144 t136 (t136.length : Int) (wrap64 (x9_1 + 1)) a0_0 a0_1 a0_2) = some r := by first | (rw [hy144]; with_reducible exact H) | (have H2_ := (Option.bind_some _ _).symm.trans H; rw [hy144]; with_reducible exact H2_) | (have H2_ := (Option.bind_some _ _).symm.trans H; with_reducible exact H2_) | with_reducible exact H | (rw [hy144]; exact H) | exact H
        have Ny144 := Aside0.mk hy144; clear hy144; have H' := Aside0.mk H
        clear H; have p139 : 0 ≤ (x9_1 : Int) := of_decide_eq_true z_g1; have q139 : x9_1 < (t136.length : Int) := of_decide_eq_true z_g1; obtain ⟨ad139, e139, hx139_0, hx139_1, hx139_2, hx139_3⟩ := at_T65 (Kd.R_reads' HO_7.out).2.2 x9_1 p139 q139
        cases e139; replace p139 := eq_true p139; replace q139 := eq_true q139; go_wp2_with (first | ((with_reducible refine gate_dst (N := 5) rfl ?_); refine box_event ?hg (N := 5) ?hd (cs := #[.int .i64 0, .bool false, .int .i64 0, .int .i64 0]) (t := 65) ?hr ?_; (case hd => rfl); (case hg => rfl); (case hr => first | (go_simp; done) | (go_simp; rfl)); intro gb140 hg w12 hbox hb; replace HO_3 := Aside0.mk (Kd.S_below z5_4 hb); replace HO_7 := Aside0.mk (Kd.R_below (Kd.R_elderB (kd_g8 HO_7.out) gb140 (Nat.le_of_eq hg.symm)) hb); have BK140 := Aside0.mk (hbox); have GW140 := Aside0.mk ((by rw [hg]; exact (below_size z5_5) : w.heap.size ≤ gb140)); have GE140 := Aside0.mk ((by rw [hg]; exact (below_size z5_5) : w.heap.size ≤ gb140)); replace HB := Aside0.mk (below_step z5_5 hb); have NB135_140 := Aside0.mk ((by rw [hg]; exact Nat.ne_of_lt (blk_lt (g := gb135) (o := .cells #[.int .i64 a0_0, .int .i64 a0_1, .string a0_2] 28 (0, 0)) (bd_g7 BK135.out)) : gb135 ≠ gb140)); have NB140_135 := Aside0.mk ((by rw [hg]; exact Nat.ne_of_gt (blk_lt (g := gb135) (o := .cells #[.int .i64 a0_0, .int .i64 a0_1, .string a0_2] 28 (0, 0)) (bd_g7 BK135.out)) : gb140 ≠ gb135)); replace BK135 := Aside0.mk (blk_below (g := gb135) (o := .cells #[.int .i64 a0_0, .int .i64 a0_1, .string a0_2] 28 (0, 0)) (bd_g7 BK135.out) hb); clear hb hbox hg; have hnb13 := NB140_135.out; have hnc13 := NB135_140.out; obtain ⟨hcz14_0, hcz14_1, hcz14_2, hcz14_3, hfz14_0, hfz14_1, hfz14_2, hfz14_3⟩ := bc4_g11 BK140.out; obtain ⟨hcz15_0, hcz15_1, hcz15_2, hfz15_0, hfz15_1, hfz15_2⟩ := bc3_g0 BK135.out) | ((with_reducible refine gate_callee (f := 86) rfl ?_); refine goesL_ (some 16) rfl rfl Try.func86 (by kernel_rfl) rfl #[.agg #[.int .i64 a0_0, .int .i64 a0_1, .string a0_2], .agg #[.int .i64 ((rd_T65 t136 x9_1).f0), .bool ((rd_T65 t136 x9_1).f1), .int .i64 ((rd_T65 t136 x9_1).f2), .int .i64 ((rd_T65 t136 x9_1).f3)]] rfl z_g9 ?_; (with_reducible refine (impl_cells.calls k1 a0_0 a0_1 a0_2 ((rd_T65 t136 x9_1).f0) ((rd_T65 t136 x9_1).f1) ((rd_T65 t136 x9_1).f2) ((rd_T65 t136 x9_1).f3) t141 _ A10.out).mono ?_); rintro e w16 ⟨v142, rfl, ho0, hb⟩; refine ⟨_, rfl, ?_⟩; replace HO_3 := Aside0.mk (Kd.S_elder' (by (with_reducible repeat (first | apply Kd.S_alloc | apply Kd.S_drewN | apply Kd.S_drew)); exact (Kd.S_mono (Kd.S_far (p := ⟨gb140, 3, none⟩) (Kd.S_far (p := ⟨gb140, 2, none⟩) (Kd.S_far (p := ⟨gb140, 1, none⟩) (Kd.S_far (p := ⟨gb140, 0, none⟩) (Kd.S_types HO_3.out BK140.out (by decide)) (fun _ hk => hk.2) (.int .i64 ((rd_T65 t136 x9_1).f0))) (fun _ hk => hk.2) (.bool ((rd_T65 t136 x9_1).f1))) (fun _ hk => hk.2) (.int .i64 ((rd_T65 t136 x9_1).f2))) (fun _ hk => hk.2) (.int .i64 ((rd_T65 t136 x9_1).f3))) (fun _ h_ => h_.1))) (Kd.R_base ho0) hb); replace HO_7 := Aside0.mk (Kd.R_below (by (with_reducible repeat (first | apply Kd.R_alloc | apply Kd.R_drewN | apply Kd.R_drew)); exact (Kd.R_mono (Kd.R_far (p := ⟨gb140, 3, none⟩) (Kd.R_far (p := ⟨gb140, 2, none⟩) (Kd.R_far (p := ⟨gb140, 1, none⟩) (Kd.R_far (p := ⟨gb140, 0, none⟩) (Kd.R_mono HO_7.out (fun k_ hk => (⟨hk, hk.2⟩ : _ ∧ k_ ≠ gb140))) (fun _ hk => hk.2) (.int .i64 ((rd_T65 t136 x9_1).f0))) (fun _ hk => hk.2) (.bool ((rd_T65 t136 x9_1).f1))) (fun _ hk => hk.2) (.int .i64 ((rd_T65 t136 x9_1).f2))) (fun _ hk => hk.2) (.int .i64 ((rd_T65 t136 x9_1).f3))) (fun _ h_ => h_.1))) hb); have HO143 := Aside0.mk (Kd.R_lower ho0 (below_size z5_8)); replace BK135 := Aside0.mk (blk_below (g := gb135) (o := .cells #[.int .i64 a0_0, .int .i64 a0_1, .string a0_2] 28 (0, 0)) (by (with_reducible repeat (first | refine blk_drewN ?_ _ | refine blk_drew ?_ | refine blk_alloc ?_ _)); refine blk_far ?_ NB135_140.out _; (with_reducible repeat (first | refine blk_drewN ?_ _ | refine blk_drew ?_ | refine blk_alloc ?_ _)); refine blk_far ?_ NB135_140.out _; (with_reducible repeat (first | refine blk_drewN ?_ _ | refine blk_drew ?_ | refine blk_alloc ?_ _)); refine blk_far ?_ NB135_140.out _; (with_reducible repeat (first | refine blk_drewN ?_ _ | refine blk_drew ?_ | refine blk_alloc ?_ _)); refine blk_far ?_ NB135_140.out _; (with_reducible repeat (first | refine blk_drewN ?_ _ | refine blk_drew ?_ | refine blk_alloc ?_ _)); exact BK135.out) hb); replace BK140 := Aside0.mk (blk_below (g := gb140) (o := .cells #[.int .i64 ((rd_T65 t136 x9_1).f0), .bool ((rd_T65 t136 x9_1).f1), .int .i64 ((rd_T65 t136 x9_1).f2), .int .i64 ((rd_T65 t136 x9_1).f3)] 65 (0, 0)) (by (with_reducible repeat (first | refine blk_drewN ?_ _ | refine blk_drew ?_ | refine blk_alloc ?_ _)); refine blk_put (cs := #[.int .i64 ((rd_T65 t136 x9_1).f0), .bool ((rd_T65 t136 x9_1).f1), .int .i64 ((rd_T65 t136 x9_1).f2), .int .i64 0]) ?_ 3 _ rfl; (with_reducible repeat (first | refine blk_drewN ?_ _ | refine blk_drew ?_ | refine blk_alloc ?_ _)); refine blk_put (cs := #[.int .i64 ((rd_T65 t136 x9_1).f0), .bool ((rd_T65 t136 x9_1).f1), .int .i64 0, .int .i64 0]) ?_ 2 _ rfl; (with_reducible repeat (first | refine blk_drewN ?_ _ | refine blk_drew ?_ | refine blk_alloc ?_ _)); refine blk_put (cs := #[.int .i64 ((rd_T65 t136 x9_1).f0), .bool false, .int .i64 0, .int .i64 0]) ?_ 1 _ rfl; (with_reducible repeat (first | refine blk_drewN ?_ _ | refine blk_drew ?_ | refine blk_alloc ?_ _)); refine blk_put (cs := #[.int .i64 0, .bool false, .int .i64 0, .int .i64 0]) ?_ 0 _ rfl; (with_reducible repeat (first | refine blk_drewN ?_ _ | refine blk_drew ?_ | refine blk_alloc ?_ _)); exact BK140.out) hb); replace HB := Aside0.mk (below_step z5_8 hb); (try clear hb); (try clear ho0); obtain ⟨Ao18, co18, eo18⟩ := Kd.R_slice HO143.out; subst eo18) | ((with_reducible refine gate_builtin (b := .append) (xs := #[.tmp 13, .tmp 17]) rfl ?_); at_builtin; refine Kd.S_append (Kd.slice 3 (Kd.int .i64)) (w0 := w) w.heap.size rfl (.tmp 13) (.tmp 17) 61 62 (.slice none 0 0) 24 rfl Try.underlying61 info62 rfl (by decide) (by omega) u3 x3_1 t141 [.slice Ao18 t141.length co18] (fun _ => True) (fun k_ => some k_ = (.slice Ao18 t141.length co18 : Value).ownBlock) rfl rfl ?aP (fun k_ hk_ => ((Kd.R_mono (ok' := fun k_ => ((fun _ => True)) k_ ∧ some k_ ≠ (u3 : Value).ownBlock) (Kd.R_apart' (HO143.out) (Kd.S_typed HO_3.out) (by decide)) (fun k_ hk => ⟨trivial, hk.2⟩))).1 k_ hk_.symm) ?aF ?aO ?aB ?aS ?aL ?_; (case aP => exact Kd.M_row (Kd.R_mono (Kd.R_tight rfl (Kd.R_mono (ok' := fun k_ => ((fun _ => True)) k_ ∧ some k_ ≠ (u3 : Value).ownBlock) (Kd.R_apart' (HO143.out) (Kd.S_typed HO_3.out) (by decide)) (fun k_ hk => ⟨trivial, hk.2⟩))) (fun _ h_ => h_))); (case aB => exact z5_8); (case aF => exact (fun _ _ => trivial)); (case aO => exact (by (with_reducible repeat (first | apply Kd.S_alloc | apply Kd.S_drewN | apply Kd.S_drew)); exact Kd.S_mono HO_3.out (fun k_ hk => ⟨trivial, fun e_ => hk.2 e_⟩))); (case aS => exact (below_size z5_8)); (case aL => have := LMc11.out; omega); intro v145 w17 ho hb hg hat; rw [← Ny144.out] at ho; have n0_ := Aside0.mk (Kd.R_over' (kd_g8 HO_7.out) (Kd.S_typed z5_4) (by decide) hg); have n1_ := Aside0.mk (blk_grown (g := gb135) (o := .cells #[.int .i64 a0_0, .int .i64 a0_1, .string a0_2] 28 (0, 0)) (bd_g7 BK135.out) hg (Kd.S_ne HO_3.out BK135.out (by decide))); have n2_ := Aside0.mk (blk_grown (g := gb140) (o := .cells #[.int .i64 ((rd_T65 t136 x9_1).f0), .bool ((rd_T65 t136 x9_1).f1), .int .i64 ((rd_T65 t136 x9_1).f2), .int .i64 ((rd_T65 t136 x9_1).f3)] 65 (0, 0)) (bd_g7 BK140.out) hg (Kd.S_ne HO_3.out BK140.out (by decide))); have n3_ := Aside0.mk (hb); have n4_ := Aside0.mk (ho); clear HO_7; clear BK135; clear BK140; clear HB; clear HO_3; clear HO143; have HO_7 := n0_; have BK135 := n1_; have BK140 := n2_; have HB := n3_; have HO146 := n4_; clear n0_ n1_ n2_ n3_ n4_; clear ho hb hg hat))
        go_roundg k1
        case measure => have := HK1.out; omega
        case rel => exact ⟨(y144), (wrap64 (x9_1 + 1)), z_g2, H', ⟨by have := HK1.out; omega⟩, ⟨by (with_reducible repeat (first | apply Kd.S_alloc | apply Kd.S_drewN | apply Kd.S_drew)); exact HO146.out⟩, ⟨by (with_reducible repeat (first | apply Kd.R_alloc | apply Kd.R_drewN | apply Kd.R_drew)); exact Kd.R_mono HO_7.out (fun _ hk => trivial)⟩, ⟨by (with_reducible repeat (first | refine blk_drewN ?_ _ | refine blk_drew ?_ | refine blk_alloc ?_ _)); exact BK135.out⟩, ⟨z5_8⟩⟩
       ·rw [if_neg c11] at H
        exact absurd H (by simp)
      ·rw [if_neg c9] at H
       exact absurd H (by simp)
     ·rw [if_neg c8] at H
      exact absurd H (by simp)
    ·rw [if_neg c7] at H
     have c7b0 := decide_eq_false c7; clear c7; obtain rfl := Option.some.inj H; go_wp2
     go_ret
     exact ⟨_, by first | rfl | (simp [errW_none, errW_some] <;> rfl) | (simp [*, errW_none, errW_some] <;> rfl), z5_4, z5_5⟩

/-! ### slices_Index_int_int: function 102 -/
def slices_Index_int_int.l0 : Nat → List Int → Int → Int → Int → Option (Int)
  | 0, _, _, _, _ => none
  | k + 1, x0, x1, x7, x8 => if x8 < x7 then (if 0 ≤ x8 then (if x8 < (x0.length : Int) then (if x1 = (rd x0 x8) then (some x8) else (slices_Index_int_int.l0 k x0 x1 x7 (wrap64 (x8 + 1)))) else (none)) else (none)) else (some (-1))
def slices_Index_int_int.f (k : Nat) (l0 : List Int) (a1 : Int) : Option (Int) := slices_Index_int_int.l0 k l0 a1 (l0.length : Int) 0
theorem slices_Index_int_int.calls (k : Nat) (A0 : Option Addr) (c0 : Nat) (l0 : List Int) (a1 : Int) (r : Int) (w : World) (hr0 : Kd.C (Kd.int .i64) w A0 l0.length l0) (hc0 : l0.length ≤ c0) (h : slices_Index_int_int.f k l0 a1 = some r) :
   Calls Try.prog 102 #[.slice A0 l0.length c0, .int .i64 a1] w fun e w' => e = .returned (.int .i64 r) ∧ Drawn0 w w' := by
  have HR0 := Aside0.mk hr0; have HC0 := Aside0.mk hc0; clear hr0 hc0; have H : (slices_Index_int_int.l0 k l0 a1 (l0.length : Int) 0) = some r := h; clear h; have H' := Aside0.mk H
  clear H; go_enter Try.func102, Try.ntmps102
  go_wp2
  go_loopg [8] k (fun kq v8 w' => ∃ (x8_1 : Int), v8 = .int .i64 x8_1 ∧ Aside0 (slices_Index_int_int.l0 kq l0 a1 (l0.length : Int) x8_1 = some r) ∧ Aside0 (kq ≤ k) ∧ Drawn0 w w')
  case atStart => exact ⟨(0), z_g2, H', ⟨Nat.le_refl _⟩, by repeat (first | exact Drawn0.refl _ | apply Drawn0.step)⟩
  case round =>
   clear H'; try clear c1
   try clear p2
   obtain ⟨x8_1, rfl, HA, HK1, ⟨m1, rfl⟩⟩ := hrel
   cases gk with
   | zero => exact absurd HA.out (by simp [slices_Index_int_int.l0])
   | succ k1 =>
    have H := HA.out; clear HA; simp only [slices_Index_int_int.l0] at H; by_cases c3 : x8_1 < (l0.length : Int)
    ·rw [if_pos c3] at H
     have c3b0 := decide_eq_true c3; clear c3; by_cases c4 : 0 ≤ x8_1
     ·rw [if_pos c4] at H
      have c4b0 := decide_eq_true c4; clear c4; by_cases c5 : x8_1 < (l0.length : Int)
      ·rw [if_pos c5] at H
       have c5b0 := decide_eq_true c5; clear c5; by_cases c6 : a1 = (rd l0 x8_1)
       ·rw [if_pos c6] at H
        have c6b0 : (a1 == (rd l0 x8_1)) = true := beq_iff_eq.mpr c6; have c6b1 : (a1 != (rd l0 x8_1)) = false := bne_eq_false_iff_eq.mpr c6; clear c6; obtain rfl := Option.some.inj H; have p147 : 0 ≤ (x8_1 : Int) := of_decide_eq_true z_g1; have q147 : x8_1 < (l0.length : Int) := of_decide_eq_true z_g1; obtain ⟨ad147, e147, hx147_0⟩ := Kd.at_int HR0.out x8_1 p147 q147
        cases e147; replace p147 := eq_true p147; replace q147 := eq_true q147; go_wp2
        go_ret
        exact ⟨z_g2, by repeat (first | exact Drawn0.refl _ | apply Drawn0.step)⟩
       ·rw [if_neg c6] at H
        have c6b0 : (a1 == (rd l0 x8_1)) = false := beq_eq_false_iff_ne.mpr c6; have c6b1 : (a1 != (rd l0 x8_1)) = true := bne_iff_ne.mpr c6; have H' := Aside0.mk H
        clear H; have p147 : 0 ≤ (x8_1 : Int) := of_decide_eq_true z_g1; have q147 : x8_1 < (l0.length : Int) := of_decide_eq_true z_g1; obtain ⟨ad147, e147, hx147_0⟩ := Kd.at_int HR0.out x8_1 p147 q147
        cases e147; replace p147 := eq_true p147; replace q147 := eq_true q147; go_wp2
        go_roundg k1
        case measure => have := HK1.out; omega
        case rel => exact ⟨(wrap64 (x8_1 + 1)), z_g2, H', ⟨by have := HK1.out; omega⟩, by repeat (first | exact Drawn0.refl _ | apply Drawn0.step)⟩
      ·rw [if_neg c5] at H
       exact absurd H (by simp)
     ·rw [if_neg c4] at H
      exact absurd H (by simp)
    ·rw [if_neg c3] at H
     have c3b0 := decide_eq_false c3; clear c3; obtain rfl := Option.some.inj H; go_wp2
     go_ret
     exact ⟨z_g2, by repeat (first | exact Drawn0.refl _ | apply Drawn0.step)⟩

/-! ### impl_CrossingsOf: function 68 -/
mutual
def impl_CrossingsOf.l0 : Nat → List (List Int) → List (S114) → Int → Int → Option ((List (S114)))
  | 0, _, _, _, _ => none
  | k + 1, x3, x4, x15, x16 => if x16 < x15 then (impl_CrossingsOf.l1 k x3 x4 x16 (-1) 0 x15 x16 x3 (x3.length : Int) 0) else (some x4)
def impl_CrossingsOf.l1 : Nat → List (List Int) → List (S114) → Int → Int → Int → Int → Int → List (List Int) → Int → Int → Option ((List (S114)))
  | 0, _, _, _, _, _, _, _, _, _, _ => none
  | k + 1, x3, x4, x5, x6, x7, x15, x16, x19, x20, x21 => if x21 < x20 then (if 0 ≤ x21 then (if x21 < (x19.length : Int) then ((slices_Index_int_int.f k (rd_L6 x19 x21) x5).bind fun t153 => (if t153 < 0 then (impl_CrossingsOf.l1 k x3 x4 x5 x6 x7 x15 x16 x19 x20 (wrap64 (x21 + 1))) else (if x6 < 0 then (impl_CrossingsOf.l1 k x3 x4 x5 x21 t153 x15 x16 x19 x20 (wrap64 (x21 + 1))) else (if x4.length < 3518437208883 then (impl_CrossingsOf.l1 k x3 (x4 ++ [(⟨x6, x21, x7, t153, x5⟩ : S114)]) x5 x6 x7 x15 x16 x19 x20 (wrap64 (x21 + 1))) else (none))))) else (none)) else (none)) else (impl_CrossingsOf.l0 k x3 x4 x15 (wrap64 (x16 + 1)))
end
def impl_CrossingsOf.f (k : Nat) (a0_0 : Int) (a0_1 : Int) (a0_2 : ByteArray) : Option ((List (S114))) := (impl_layout.f k a0_0 a0_1 a0_2).bind fun t149 => (impl_CrossingsOf.l0 k t149 ([] : List (S114)) (a0_2.size : Int) 0)
theorem impl_CrossingsOf.calls (k : Nat) (a0_0 : Int) (a0_1 : Int) (a0_2 : ByteArray) (r : List (S114)) (w : World) (h : impl_CrossingsOf.f k a0_0 a0_1 a0_2 = some r) :
   Calls Try.prog 68 #[.agg #[.int .i64 a0_0, .int .i64 a0_1, .string a0_2]] w fun e w' => ∃ v0_ : Value, e = .returned (v0_) ∧ Kd.R k114 114 w' w.heap.size (fun _ => True) v0_ r ∧ Below w.heap.size w w' := by
  have hu28 := Try.underlying28; have hu114 := Try.underlying114; have HB := Aside0.mk (Below.refl w.heap.size w); have H : ((impl_layout.f k a0_0 a0_1 a0_2).bind fun t149 => (impl_CrossingsOf.l0 k t149 ([] : List (S114)) (a0_2.size : Int) 0)) = some r := h; clear h; replace H := Option.bind_eq_some_iff.mp H; obtain ⟨t149, A20, H⟩ := H; try dsimp only at H
  have A2 := Aside0.mk A20; clear A20; have H' := Aside0.mk H
  clear H; go_enter Try.func68, Try.ntmps68
  go_wp2_with (first | ((with_reducible refine gate_dst (N := 1) rfl ?_); refine box_event ?hg (N := 1) ?hd (cs := #[.int .i64 a0_0, .int .i64 a0_1, .string a0_2]) (t := 28) ?hr ?_; (case hd => rfl); (case hg => rfl); (case hr => first | (go_simp; done) | (go_simp; rfl)); intro gb148 hg w3 hbox hb; have BK148 := Aside0.mk (hbox); have GW148 := Aside0.mk ((by rw [hg]; exact (below_size z_g4) : w.heap.size ≤ gb148)); have GE148 := Aside0.mk ((by rw [hg]; exact (below_size z_g4) : w.heap.size ≤ gb148)); replace HB := Aside0.mk (below_step z_g4 hb); clear hb hbox hg; obtain ⟨hcz4_0, hcz4_1, hcz4_2, hfz4_0, hfz4_1, hfz4_2⟩ := bc3_g0 BK148.out) | ((with_reducible refine gate_callee (f := 50) rfl ?_); refine goesL_ (some 12) rfl rfl Try.func50 (by kernel_rfl) rfl #[.agg #[.int .i64 a0_0, .int .i64 a0_1, .string a0_2]] rfl z_g9 ?_; (with_reducible refine (impl_layout.calls k a0_0 a0_1 a0_2 t149 _ A2.out).mono ?_); rintro e w5 ⟨v150, rfl, ho0, hb⟩; refine ⟨_, rfl, ?_⟩; have HO151 := Aside0.mk (Kd.S_lower ho0 (below_size z5_1)); replace BK148 := Aside0.mk (blk_below (g := gb148) (o := .cells #[.int .i64 a0_0, .int .i64 a0_1, .string a0_2] 28 (0, 0)) (bd_g7 BK148.out) hb); replace HB := Aside0.mk (below_step z5_1 hb); (try clear hb); (try clear ho0); obtain ⟨hcz6_0, hcz6_1, hcz6_2, hfz6_0, hfz6_1, hfz6_2⟩ := bc3_g0 BK148.out))
  go_loopg [4, 16] k (fun kq v4 v16 w' => ∃ (x4_1 : List (S114)) (x16_1 : Int), v16 = .int .i64 x16_1 ∧ Aside0 (impl_CrossingsOf.l0 kq t149 x4_1 (a0_2.size : Int) x16_1 = some r) ∧ Aside0 (kq ≤ k) ∧ Aside0 (Kd.S (Kd.slice 3 (Kd.int .i64)) 62 w' w.heap.size (fun _ => True) v150 t149) ∧ Aside0 (Kd.R k114 114 w' w.heap.size (fun _ => True) v4 x4_1) ∧ Aside0 (w'.heap[gb148]? = some (.cells #[.int .i64 a0_0, .int .i64 a0_1, .string a0_2] 28 (0, 0))) ∧ Aside0 (Below w.heap.size w w'))
  case atStart => exact ⟨(([] : List (S114))), (0), z_g2, H', ⟨Nat.le_refl _⟩, ⟨by (with_reducible repeat (first | apply Kd.S_alloc | apply Kd.S_drewN | apply Kd.S_drew)); exact HO151.out⟩, ⟨by first | exact Kd.R_nil _ _ _ _ _ | exact Kd.N_nil _ _ _ _ _ | exact Kd.V_nil _ _ _ _ _ | exact Kd.Q_nil _ _ _ _ _ | exact Kd.S_nil _ _ _ _ _⟩, ⟨z5_9⟩, ⟨z5_1⟩⟩
  case round =>
   clear H'; try clear p2
   try clear c5
   try clear c6
   try clear hcz4_0 hcz4_1 hcz4_2
   try clear hcz6_0 hcz6_1 hcz6_2
   try clear hfz4_0 hfz4_1 hfz4_2
   try clear hfz6_0 hfz6_1 hfz6_2
   obtain ⟨x4_1, x16_1, rfl, HA, HK1, HO_3, HO_4, BK148, HB⟩ := hrel
   cases gk with
   | zero => exact absurd HA.out (by simp [impl_CrossingsOf.l0])
   | succ k1 =>
    have H := HA.out; clear HA; simp only [impl_CrossingsOf.l0] at H; by_cases c7 : x16_1 < (a0_2.size : Int)
    ·rw [if_pos c7] at H
     have c7b0 := decide_eq_true c7; clear c7; have H' := Aside0.mk H
     clear H; obtain ⟨Ao8, co8, eo8⟩ := Kd.S_slice HO_3.out; subst eo8; go_wp2
     go_loopg [4, 6, 7, 21] k1 (fun kq v4 v6 v7 v21 w' => ∃ (x4_2 : List (S114)) (x6_2 : Int) (x7_2 : Int) (x21_2 : Int), v6 = .int .i64 x6_2 ∧ v7 = .int .i64 x7_2 ∧ v21 = .int .i64 x21_2 ∧ Aside0 (impl_CrossingsOf.l1 kq t149 x4_2 x16_1 x6_2 x7_2 (a0_2.size : Int) x16_1 t149 (t149.length : Int) x21_2 = some r) ∧ Aside0 (kq ≤ k1) ∧ Aside0 (Kd.S (Kd.slice 3 (Kd.int .i64)) 62 w' w.heap.size (fun _ => True) (.slice Ao8 t149.length co8) t149) ∧ Aside0 (Kd.R k114 114 w' w.heap.size (fun _ => True) v4 x4_2) ∧ Aside0 (Kd.S (Kd.slice 3 (Kd.int .i64)) 62 w' w.heap.size (fun _ => True) (.slice Ao8 t149.length co8) t149) ∧ Aside0 (w'.heap[gb148]? = some (.cells #[.int .i64 a0_0, .int .i64 a0_1, .string a0_2] 28 (0, 0))) ∧ Aside0 (Below w.heap.size w w'))
     case atStart => exact ⟨(x4_1), ((-1)), (0), (0), z_g2, z_g2, z_g2, H', ⟨Nat.le_refl _⟩, ⟨z5_4⟩, ⟨by (with_reducible repeat (first | apply Kd.R_alloc | apply Kd.R_drewN | apply Kd.R_drew)); exact HO_4.out⟩, ⟨z5_4⟩, ⟨z5_9⟩, ⟨z5_1⟩⟩
     case round =>
      clear H'; try clear p2
      try clear c5
      try clear c6
      try clear c7
      try clear c7b0
      try clear hcz4_0 hcz4_1 hcz4_2
      try clear hcz6_0 hcz6_1 hcz6_2
      try clear hfz4_0 hfz4_1 hfz4_2
      try clear hfz6_0 hfz6_1 hfz6_2
      try clear p2
      obtain ⟨x4_2, x6_2, x7_2, x21_2, rfl, rfl, rfl, HA, HK2, HO_3, HO_4, HO_19, BK148, HB⟩ := hrel
      cases gk with
      | zero => exact absurd HA.out (by simp [impl_CrossingsOf.l1])
      | succ k2 =>
       have H := HA.out; clear HA; simp only [impl_CrossingsOf.l1] at H; by_cases c9 : x21_2 < (t149.length : Int)
       ·rw [if_pos c9] at H
        have c9b0 := decide_eq_true c9; clear c9; by_cases c10 : 0 ≤ x21_2
        ·rw [if_pos c10] at H
         have c10b0 := decide_eq_true c10; clear c10; by_cases c11 : x21_2 < (t149.length : Int)
         ·rw [if_pos c11] at H
          have c11b0 := decide_eq_true c11; clear c11; replace H := Option.bind_eq_some_iff.mp H; obtain ⟨t153, A120, H⟩ := H; try dsimp only at H
          have A12 := Aside0.mk A120; clear A120; by_cases c13 : t153 < 0
          ·rw [if_pos c13] at H
           have c13b0 := decide_eq_true c13; clear c13; have H' := Aside0.mk H
           clear H; have p152 : 0 ≤ (x21_2 : Int) := of_decide_eq_true z_g1; have q152 : x21_2 < (t149.length : Int) := of_decide_eq_true z_g1; obtain ⟨ad152, A152_0, c152_0, e152, hx152_0, hl152_0, hi152_0⟩ := at_L6 (Kd.S_reads' HO_19.out).2.2 x21_2 p152 q152
           cases e152; obtain ⟨ce152, hce152, hMe152, hcc152⟩ := Kd.S_get HO_19.out [] x21_2 p152 (by first | exact q152 | exact of_decide_eq_true z_g1 | (have e_ := (Kd.S_reads' HO_19.out).1; omega))
           obtain ⟨ve152_0, rfl, ge152_0⟩ := hMe152; have hv152_0 := hcc152 0 _ rfl; rw [Nat.add_zero, show ((Kd.slice 3 (Kd.int .i64))).sz = 1 from rfl, Nat.mul_one] at hv152_0
           replace hv152_0 := Option.some.inj (hv152_0.symm.trans hx152_0); rw [hv152_0] at ge152_0
           have HL152_0 := Aside0.mk (show Kd.R (Kd.int .i64) 3 _ _ _ _ (rd_L6 t149 x21_2) from ge152_0); clear hv152_0 ge152_0; clear hcc152 hce152; have HR152_0 := Aside0.mk hi152_0; have HC152_0 := Aside0.mk hl152_0; clear hi152_0 hl152_0; replace p152 := eq_true p152; replace q152 := eq_true q152; go_wp2_with (first | ((with_reducible refine gate_callee (f := 102) rfl ?_); refine goesL_ (some 28) rfl rfl Try.func102 (by kernel_rfl) rfl #[.slice A152_0 (rd_L6 t149 x21_2).length c152_0, .int .i64 x16_1] rfl z_g9 ?_; (with_reducible refine (slices_Index_int_int.calls k2 _ _ (rd_L6 t149 x21_2) x16_1 t153 _ ?side1 ?side2 A12.out).mono ?_); (case side1 => repeat (first | exact (by repeat (first | (with_reducible exact HR152_0.out) | (with_reducible refine Kd.C_alloc ?_ _) | (with_reducible refine Kd.C_drewN ?_ _) | (with_reducible refine Kd.C_drew ?_) | exact HR152_0.out)) | (with_reducible refine Kd.C_alloc ?_ _) | (with_reducible refine Kd.C_drewN ?_ _) | (with_reducible refine Kd.C_drew ?_))); (case side2 => exact HC152_0.out); rintro e w' ⟨rfl, ⟨nd, rfl⟩⟩; refine ⟨_, rfl, ?_⟩))
           go_roundg k2
           case measure => have := HK1.out; have := HK2.out; omega
           case rel => exact ⟨(x4_2), (x6_2), (x7_2), (wrap64 (x21_2 + 1)), z_g2, z_g2, z_g2, H', ⟨by have := HK1.out; have := HK2.out; omega⟩, ⟨z5_4⟩, ⟨by (with_reducible repeat (first | apply Kd.R_alloc | apply Kd.R_drewN | apply Kd.R_drew)); exact HO_4.out⟩, ⟨by (with_reducible repeat (first | apply Kd.S_alloc | apply Kd.S_drewN | apply Kd.S_drew)); exact HO_19.out⟩, ⟨z5_9⟩, ⟨z5_1⟩⟩
          ·rw [if_neg c13] at H
           have c13b0 := decide_eq_false c13; clear c13; by_cases c14 : x6_2 < 0
           ·rw [if_pos c14] at H
            have c14b0 := decide_eq_true c14; clear c14; have H' := Aside0.mk H
            clear H; have p152 : 0 ≤ (x21_2 : Int) := of_decide_eq_true z_g1; have q152 : x21_2 < (t149.length : Int) := of_decide_eq_true z_g1; obtain ⟨ad152, A152_0, c152_0, e152, hx152_0, hl152_0, hi152_0⟩ := at_L6 (Kd.S_reads' HO_19.out).2.2 x21_2 p152 q152
            cases e152; obtain ⟨ce152, hce152, hMe152, hcc152⟩ := Kd.S_get HO_19.out [] x21_2 p152 (by first | exact q152 | exact of_decide_eq_true z_g1 | (have e_ := (Kd.S_reads' HO_19.out).1; omega))
            obtain ⟨ve152_0, rfl, ge152_0⟩ := hMe152; have hv152_0 := hcc152 0 _ rfl; rw [Nat.add_zero, show ((Kd.slice 3 (Kd.int .i64))).sz = 1 from rfl, Nat.mul_one] at hv152_0
            replace hv152_0 := Option.some.inj (hv152_0.symm.trans hx152_0); rw [hv152_0] at ge152_0
            have HL152_0 := Aside0.mk (show Kd.R (Kd.int .i64) 3 _ _ _ _ (rd_L6 t149 x21_2) from ge152_0); clear hv152_0 ge152_0; clear hcc152 hce152; have HR152_0 := Aside0.mk hi152_0; have HC152_0 := Aside0.mk hl152_0; clear hi152_0 hl152_0; replace p152 := eq_true p152; replace q152 := eq_true q152; go_wp2_with (first | ((with_reducible refine gate_callee (f := 102) rfl ?_); refine goesL_ (some 28) rfl rfl Try.func102 (by kernel_rfl) rfl #[.slice A152_0 (rd_L6 t149 x21_2).length c152_0, .int .i64 x16_1] rfl z_g9 ?_; (with_reducible refine (slices_Index_int_int.calls k2 _ _ (rd_L6 t149 x21_2) x16_1 t153 _ ?side1 ?side2 A12.out).mono ?_); (case side1 => repeat (first | exact (by repeat (first | (with_reducible exact HR152_0.out) | (with_reducible refine Kd.C_alloc ?_ _) | (with_reducible refine Kd.C_drewN ?_ _) | (with_reducible refine Kd.C_drew ?_) | exact HR152_0.out)) | (with_reducible refine Kd.C_alloc ?_ _) | (with_reducible refine Kd.C_drewN ?_ _) | (with_reducible refine Kd.C_drew ?_))); (case side2 => exact HC152_0.out); rintro e w' ⟨rfl, ⟨nd, rfl⟩⟩; refine ⟨_, rfl, ?_⟩))
            go_roundg k2
            case measure => have := HK1.out; have := HK2.out; omega
            case rel => exact ⟨(x4_2), (x21_2), (t153), (wrap64 (x21_2 + 1)), z_g2, z_g2, z_g2, H', ⟨by have := HK1.out; have := HK2.out; omega⟩, ⟨z5_4⟩, ⟨by (with_reducible repeat (first | apply Kd.R_alloc | apply Kd.R_drewN | apply Kd.R_drew)); exact HO_4.out⟩, ⟨by (with_reducible repeat (first | apply Kd.S_alloc | apply Kd.S_drewN | apply Kd.S_drew)); exact HO_19.out⟩, ⟨z5_9⟩, ⟨z5_1⟩⟩
           ·rw [if_neg c14] at H
            have c14b0 := decide_eq_false c14; clear c14; by_cases c15 : x4_2.length < 3518437208883
            ·rw [if_pos c15] at H
             have LMc15 := Aside0.mk c15; clear c15; obtain ⟨y154, hy154⟩ : ∃ y_ : List (S114), y_ = (x4_2 ++ [(⟨x6_2, x21_2, x7_2, t153, x16_1⟩ : S114)]) := ⟨_, rfl⟩; replace H : (impl_CrossingsOf.l1 k2 t149 y154 x16_1 x6_2 x7_2 (a0_2.size : Int) x16_1 t149 (t149.length : Int) (wrap64 (x21_2 + 1))) = some r := by first | (rw [hy154]; with_reducible exact H) | (have H2_ := (Option.bind_some _ _).symm.trans H; rw [hy154]; with_reducible exact H2_) | (have H2_ := (Option.bind_some _ _).symm.trans H; with_reducible exact H2_) | with_reducible exact H | (rw [hy154]; exact H) | exact H
             have Ny154 := Aside0.mk hy154; clear hy154; have H' := Aside0.mk H
             clear H; have p152 : 0 ≤ (x21_2 : Int) := of_decide_eq_true z_g1; have q152 : x21_2 < (t149.length : Int) := of_decide_eq_true z_g1; obtain ⟨ad152, A152_0, c152_0, e152, hx152_0, hl152_0, hi152_0⟩ := at_L6 (Kd.S_reads' HO_19.out).2.2 x21_2 p152 q152
             cases e152; obtain ⟨ce152, hce152, hMe152, hcc152⟩ := Kd.S_get HO_19.out [] x21_2 p152 (by first | exact q152 | exact of_decide_eq_true z_g1 | (have e_ := (Kd.S_reads' HO_19.out).1; omega))
             obtain ⟨ve152_0, rfl, ge152_0⟩ := hMe152; have hv152_0 := hcc152 0 _ rfl; rw [Nat.add_zero, show ((Kd.slice 3 (Kd.int .i64))).sz = 1 from rfl, Nat.mul_one] at hv152_0
             replace hv152_0 := Option.some.inj (hv152_0.symm.trans hx152_0); rw [hv152_0] at ge152_0
             have HL152_0 := Aside0.mk (show Kd.R (Kd.int .i64) 3 _ _ _ _ (rd_L6 t149 x21_2) from ge152_0); clear hv152_0 ge152_0; clear hcc152 hce152; have HR152_0 := Aside0.mk hi152_0; have HC152_0 := Aside0.mk hl152_0; clear hi152_0 hl152_0; replace p152 := eq_true p152; replace q152 := eq_true q152; go_wp2_with (first | ((with_reducible refine gate_callee (f := 102) rfl ?_); refine goesL_ (some 28) rfl rfl Try.func102 (by kernel_rfl) rfl #[.slice A152_0 (rd_L6 t149 x21_2).length c152_0, .int .i64 x16_1] rfl z_g9 ?_; (with_reducible refine (slices_Index_int_int.calls k2 _ _ (rd_L6 t149 x21_2) x16_1 t153 _ ?side1 ?side2 A12.out).mono ?_); (case side1 => repeat (first | exact (by repeat (first | (with_reducible exact HR152_0.out) | (with_reducible refine Kd.C_alloc ?_ _) | (with_reducible refine Kd.C_drewN ?_ _) | (with_reducible refine Kd.C_drew ?_) | exact HR152_0.out)) | (with_reducible refine Kd.C_alloc ?_ _) | (with_reducible refine Kd.C_drewN ?_ _) | (with_reducible refine Kd.C_drew ?_))); (case side2 => exact HC152_0.out); rintro e w' ⟨rfl, ⟨nd, rfl⟩⟩; refine ⟨_, rfl, ?_⟩) | ((with_reducible refine gate_builtin (b := .append) (xs := #[.tmp 35, .tmp 42]) rfl ?_); at_builtin; refine Kd.R_append k114 (w0 := w) w.heap.size rfl (.tmp 35) (.tmp 42) 85 114 (.agg #[(.int .i64 0), (.int .i64 0), (.int .i64 0), (.int .i64 0), (.int .i64 0)]) 40 rfl Try.underlying85 info114 rfl (by decide) (by omega) u4 x4_2 (⟨x6_2, x21_2, x7_2, t153, x16_1⟩ : S114) [.int .i64 x6_2, .int .i64 x21_2, .int .i64 x7_2, .int .i64 t153, .int .i64 x16_1] (fun _ => True) (fun _ => False) rfl rfl ?aP (fun _ hk => hk.elim) ?aF ?aO ?aB ?aS ?aL ?_; (case aP => exact k114_mkM _ _ _ (⟨x6_2, x21_2, x7_2, t153, x16_1⟩ : S114)); (case aB => exact z5_1); (case aF => exact (fun _ _ => trivial)); (case aO => exact (kd_g8 HO_4.out)); (case aS => exact (below_size z5_1)); (case aL => have := LMc15.out; omega); intro v155 w16 ho hb hg hat; rw [← Ny154.out] at ho; have n0_ := Aside0.mk (Kd.S_over' z5_4 (Kd.R_typed (kd_g8 HO_4.out)) (by decide) hg); have n1_ := Aside0.mk (Kd.S_over' (by (with_reducible repeat (first | apply Kd.S_alloc | apply Kd.S_drewN | apply Kd.S_drew)); exact HO_19.out) (Kd.R_typed (kd_g8 HO_4.out)) (by decide) hg); have n2_ := Aside0.mk (blk_grown (g := gb148) (o := .cells #[.int .i64 a0_0, .int .i64 a0_1, .string a0_2] 28 (0, 0)) (bd_g7 BK148.out) hg (Kd.R_ne HO_4.out BK148.out (by decide))); have n3_ := Aside0.mk (Kd.R_over' (kd_g8 HL152_0.out) (Kd.R_typed (kd_g8 HO_4.out)) (by decide) hg); have n4_ := Aside0.mk (hb); have n5_ := Aside0.mk (ho); clear HO_3; clear HO_19; clear BK148; clear HL152_0; clear HB; clear HO_4; have HO_3 := n0_; have HO_19 := n1_; have BK148 := n2_; have HL152_0 := n3_; have HB := n4_; have HO156 := n5_; clear n0_ n1_ n2_ n3_ n4_ n5_; clear ho hb hg hat))
             go_roundg k2
             case measure => have := HK1.out; have := HK2.out; omega
             case rel => exact ⟨(y154), (x6_2), (x7_2), (wrap64 (x21_2 + 1)), z_g2, z_g2, z_g2, H', ⟨by have := HK1.out; have := HK2.out; omega⟩, ⟨z5_4⟩, ⟨by (with_reducible repeat (first | apply Kd.R_alloc | apply Kd.R_drewN | apply Kd.R_drew)); exact HO156.out⟩, ⟨by (with_reducible repeat (first | apply Kd.S_alloc | apply Kd.S_drewN | apply Kd.S_drew)); exact HO_19.out⟩, ⟨z5_9⟩, ⟨z5_1⟩⟩
            ·rw [if_neg c15] at H
             exact absurd H (by simp)
         ·rw [if_neg c11] at H
          exact absurd H (by simp)
        ·rw [if_neg c10] at H
         exact absurd H (by simp)
       ·rw [if_neg c9] at H
        have c9b0 := decide_eq_false c9; clear c9; have H' := Aside0.mk H
        clear H; go_wp2
        go_roundg k2
        case measure => have := HK1.out; have := HK2.out; omega
        case rel => exact ⟨(x4_2), (wrap64 (x16_1 + 1)), z_g2, H', ⟨by have := HK1.out; have := HK2.out; omega⟩, ⟨z5_4⟩, ⟨by (with_reducible repeat (first | apply Kd.R_alloc | apply Kd.R_drewN | apply Kd.R_drew)); exact HO_4.out⟩, ⟨z5_9⟩, ⟨z5_1⟩⟩
    ·rw [if_neg c7] at H
     have c7b0 := decide_eq_false c7; clear c7; obtain rfl := Option.some.inj H; go_wp2
     go_ret
     exact ⟨_, by first | rfl | (simp [errW_none, errW_some] <;> rfl) | (simp [*, errW_none, errW_some] <;> rfl), by (with_reducible repeat (first | apply Kd.R_alloc | apply Kd.R_drewN | apply Kd.R_drew)); exact HO_4.out, z5_1⟩

/-! ### impl_isLetter: function 77 -/
def impl_isLetter.f (a0 : Int) : Option (Bool) := if a0 ≥ 97 then (some (decide (a0 ≤ 122))) else (some false)
theorem impl_isLetter.calls (a0 : Int) (r : Bool) (w : World) (h : impl_isLetter.f a0 = some r) :
   Calls Try.prog 77 #[.int .u8 a0] w fun e w' => e = .returned (.bool r) ∧ Drawn0 w w' := by
  have H : (if a0 ≥ 97 then (some (decide (a0 ≤ 122))) else (some false)) = some r := h; clear h; by_cases c2 : a0 ≥ 97
  ·rw [if_pos c2] at H
   have c2b0 := decide_eq_true c2; clear c2; obtain rfl := Option.some.inj H; go_enter Try.func77, Try.ntmps77
   go_wp2
   go_ret
   exact ⟨z_g2, by repeat (first | exact Drawn0.refl _ | apply Drawn0.step)⟩
  ·rw [if_neg c2] at H
   have c2b0 := decide_eq_false c2; clear c2; obtain rfl := Option.some.inj H; go_enter Try.func77, Try.ntmps77
   go_wp2
   go_ret
   exact ⟨z_g2, by repeat (first | exact Drawn0.refl _ | apply Drawn0.step)⟩

end Go.Proofs.Ytodcckiphdnjeaa.QFnPruned
