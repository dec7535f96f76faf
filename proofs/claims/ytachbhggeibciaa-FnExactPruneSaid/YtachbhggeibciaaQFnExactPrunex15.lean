-- Written by a changed copy of the kit's printer (wip/mp.py of this repo), for this claim; Lean checks it.
import Derived.Test.YtachbhggeibciaaQFnExactPrunex0
import Derived.Test.YtachbhggeibciaaQFnExactPrunex2
import Derived.Test.YtachbhggeibciaaQFnExactPrunex3
import Derived.Test.YtachbhggeibciaaQFnExactPrunex9
import Derived.Test.YtachbhggeibciaaQFnExactPrunex14
namespace Go.Proofs.Ytachbhggeibciaa.QFnExactPrune
open Go.RowKit Go.Proofs.YtachbhggeibciaaW.PrintWords Go.Proofs.YtachbhggeibciaaW.PrintLast Go.Proofs.YtachbhggeibciaaW.PrintMore
attribute [local go_sem] max2_int min2_int max_two min_two max_three min_three max_four min_four   -- for this text's walks alone
set_option linter.unusedVariables false
set_option linter.unusedSimpArgs false

/-! ### laws_heldStringS: function 92 -/
def laws_heldStringS.l0 : Nat → List ByteArray → Int → Int → Option (Int)
  | 0, _, _, _ => none
  | k + 1, x0, x1, x5 => if x5 < (x0.length : Int) then (if 0 ≤ x5 then ((laws_markText.f k x1).bind fun t317 => (if (rdOf ByteArray.empty x0 x5).toList = t317.toList then (laws_heldStringS.l0 k x0 (wrap64 (x1 + 1)) (wrap64 (x5 + 1))) else (some (-1)))) else (none)) else (some x1)
def laws_heldStringS.f (k : Nat) (l0 : List ByteArray) (a1 : Int) : Option (Int) := laws_heldStringS.l0 k l0 a1 0
theorem laws_heldStringS.mono_l : ∀ k, (∀ y0 y1 y2, LeO (laws_heldStringS.l0 k y0 y1 y2) (laws_heldStringS.l0 (k + 1) y0 y1 y2))
  | 0 => fun _ _ _ r h => by simp [laws_heldStringS.l0] at h
  | k + 1 => by
   have ih0 := laws_heldStringS.mono_l k
   ·intro y0 y1 y2
    unfold laws_heldStringS.l0
    repeat' first
    | (with_reducible exact ih0 _ _ _)
    | (with_reducible exact laws_markText.mono _ _)
    | (with_reducible exact LeO.refl _)
    | (with_reducible exact LeO.none _)
    | (with_reducible refine LeO.ite ?_ ?_)
    | (with_reducible refine LeO.bind ?_ (fun _ => ?_))
    | exact ih0 _ _ _
    | exact laws_markText.mono _ _
    | exact LeO.none _
    | refine LeO.ite ?_ ?_
    | refine LeO.bind ?_ (fun _ => ?_)
theorem laws_heldStringS.mono : ∀ a0 a1 k, LeO (laws_heldStringS.f k a0 a1) (laws_heldStringS.f (k + 1) a0 a1) := by
  intro a0 a1 k
  have ih0 := laws_heldStringS.mono_l k
  unfold laws_heldStringS.f
  repeat' first
    | (with_reducible exact ih0 _ _ _)
    | (with_reducible exact laws_markText.mono _ _)
    | (with_reducible exact LeO.refl _)
    | (with_reducible exact LeO.none _)
    | (with_reducible refine LeO.ite ?_ ?_)
    | (with_reducible refine LeO.bind ?_ (fun _ => ?_))
    | exact ih0 _ _ _
    | exact laws_markText.mono _ _
    | exact LeO.none _
    | refine LeO.ite ?_ ?_
    | refine LeO.bind ?_ (fun _ => ?_)
set_option maxHeartbeats 8000000 in
set_option maxRecDepth 100000 in
theorem laws_heldStringS.calls (k : Nat) (A0 : Option Addr) (c0 : Nat) (l0 : List ByteArray) (a1 : Int) (r : Int) (w : World) (hr0 : Kd.C Kd.string w A0 l0.length l0) (hc0 : l0.length ≤ c0) (h : laws_heldStringS.f k l0 a1 = some r) :
   Calls Try.prog 92 #[.slice A0 l0.length c0, .int .i64 a1] w fun e w' => e = .returned (.int .i64 r) ∧ Below w.heap.size w w' := by
  have HR0 := Aside0.mk hr0
  have HC0 := Aside0.mk hc0
  clear hr0 hc0
  have HB := Aside0.mk (Below.refl w.heap.size w)
  have H : (laws_heldStringS.l0 k l0 a1 0) = some r := h
  clear h
  have H' := Aside0.mk H
  clear H
  go_enter Try.func92, Try.ntmps92
  go_wp2
  go_loopg [1, 5] k (fun kq v1 v5 w' => ∃ (x1_1 : Int) (x5_1 : Int), v1 = .int .i64 x1_1 ∧ v5 = .int .i64 x5_1 ∧ Aside0 (laws_heldStringS.l0 kq l0 x1_1 x5_1 = some r) ∧ Aside0 (kq ≤ k) ∧ Aside0 (Below w.heap.size w w'))
  case atStart => exact ⟨(a1), (0), (by first | rfl | (simp; done) | (simp [*]; done)), (by first | rfl | (simp; done) | (simp [*]; done)), H', ⟨Nat.le_refl _⟩, ⟨by repeat (first | (with_reducible first | exact HB.out | apply below_alloc | apply pw_below_drewN | apply below_drew1) | exact HB.out)⟩⟩
  case round =>
   clear H'
   try clear p2
   obtain ⟨x1_1, x5_1, rfl, rfl, HA, HK1, HB⟩ := hrel
   cases gk with
   | zero => exact absurd HA.out (by simp [laws_heldStringS.l0])
   | succ k1 =>
    have H := HA.out
    clear HA
    simp only [laws_heldStringS.l0] at H
    by_cases c3 : x5_1 < (l0.length : Int)
    ·rw [if_pos c3] at H
     have c3b0 : decide (x5_1 < (l0.length : Int)) = true := decide_eq_true c3
     clear c3
     by_cases c4 : 0 ≤ x5_1
     ·rw [if_pos c4] at H
      have c4b0 : decide (0 ≤ x5_1) = true := decide_eq_true c4
      clear c4
      replace H := Option.bind_eq_some_iff.mp H
      obtain ⟨t317, A50, H⟩ := H
      replace H : (if (rdOf ByteArray.empty l0 x5_1).toList = t317.toList then (laws_heldStringS.l0 k1 l0 (wrap64 (x1_1 + 1)) (wrap64 (x5_1 + 1))) else (some (-1))) = some r := H
      have A5 := Aside0.mk A50
      clear A50
      by_cases c6 : (rdOf ByteArray.empty l0 x5_1).toList = t317.toList
      ·rw [if_pos c6] at H
       have c6b0 : ((rdOf ByteArray.empty l0 x5_1).toList == t317.toList) = true := beq_iff_eq.mpr c6
       have c6b1 : ((rdOf ByteArray.empty l0 x5_1).toList != t317.toList) = false := bne_eq_false_iff_eq.mpr c6
       clear c6
       have H' := Aside0.mk H
       clear H
       try go_wp2
       have n0_ := Aside0.mk (below_drew1 HB.out)
       clear HB
       have HB := n0_
       clear n0_
       have p316 : 0 ≤ (x5_1 : Int) := of_decide_eq_true (by first | (with_reducible assumption) | assumption)
       have q316 : x5_1 < (l0.length : Int) := of_decide_eq_true (by first | (with_reducible assumption) | assumption)
       obtain ⟨ad316, e316, hx316_0⟩ := Kd.at_string HR0.out x5_1 p316 q316
       have hw316_0 := hx316_0
       cases e316
       try replace hx316_0 := (HB.out.cell (World.block_lt_of_cell? w _ hx316_0)).trans hx316_0
       replace p316 := eq_true p316
       replace q316 := eq_true q316
       refine start_ (n := 7) (S := fun w' => w'.cell? (ad316.add (x5_1).toNat) = some (.string (rdOf ByteArray.empty l0 x5_1))) (ds := []) #[false, false, false, false, false, false, false] (by kernel_rfl) rfl rfl (((HB.out.cell (World.block_lt_of_cell? w _ hw316_0)).trans hw316_0)) (fun hHeld => ?_)
       generalize wr.drew = w7 at HB hx316_0 hHeld ⊢
       refine pure_ (i := 0) (N := some 12) (v := ?_) (a' := ?_) #[true, false, false, false, false, false, false] rfl rfl (by kernel_rfl) (fun _ _ _ h => h) (Or.inl ⟨by rfl, ?_⟩) ?_ ?_
       rotate_left
       ·intro w'
        go_simp
        with_reducible rfl
       rotate_left
       ·simp only [Act.put, List.setIfInBounds_toArray, List.set_cons_zero, List.set_cons_succ, i64_w, i32_w]
        rfl
       refine pure_ (i := 1) (N := some 13) (v := ?_) (a' := ?_) #[true, true, false, false, false, false, false] rfl rfl (by kernel_rfl) (fun _ _ _ h => h) (Or.inl ⟨by rfl, ?_⟩) ?_ ?_
       rotate_left
       ·intro w'
        go_simp
        with_reducible rfl
       rotate_left
       ·simp only [Act.put, List.setIfInBounds_toArray, List.set_cons_zero, List.set_cons_succ, i64_w, i32_w]
        rfl
       refine pure_ (i := 2) (N := some 14) (v := ?_) (a' := ?_) #[true, true, true, false, false, false, false] rfl rfl (by kernel_rfl) (fun _ _ _ h => h) (Or.inl ⟨by rfl, ?_⟩) ?_ ?_
       rotate_left
       ·intro w'
        go_simp
        with_reducible rfl
       rotate_left
       ·simp only [Act.put, List.setIfInBounds_toArray, List.set_cons_zero, List.set_cons_succ, i64_w, i32_w]
        rfl
       refine pure_ (i := 4) (N := some 16) (v := ?_) (a' := ?_) #[true, true, true, false, true, false, false] rfl rfl (by kernel_rfl) (fun _ _ _ h => h) (Or.inl ⟨by rfl, ?_⟩) ?_ ?_
       rotate_left
       ·intro w'
        go_simp
        with_reducible rfl
       rotate_left
       ·simp only [Act.put, List.setIfInBounds_toArray, List.set_cons_zero, List.set_cons_succ, i64_w, i32_w]
        rfl
       refine take_ (i := 3) (N := some 15) (v := ?_) (a' := ?_) #[true, true, true, true, true, false, false] rfl rfl (by kernel_rfl) (fun _ _ _ h => h) (Or.inl ⟨by rfl, ?_⟩) hHeld ?_ ?_
       rotate_left
       ·intro w' s0
        go_simp
        with_reducible rfl
       rotate_left
       ·simp only [Act.put, List.setIfInBounds_toArray, List.set_cons_zero, List.set_cons_succ, i64_w, i32_w]
        rfl
       refine one_ (i := 5) (N := some 17) #[true, true, true, true, true, true, false] rfl rfl (by kernel_rfl) (by decide) (fun K hK => ?_)
       refine goes_ Try.func123 (by kernel_rfl) rfl #[.int .i64 x1_1] (by rfl) rfl rfl (by (try simp only [List.map_toArray, List.map_cons, List.map_nil]); first | done | rfl | (simp only [List.length_drop, List.length_take]; rfl)) ?_
       with_reducible refine (laws_markText.calls k1 x1_1 t317 _ A5.out).mono ?_
       rintro e w8 ⟨rfl, hb⟩
       refine ⟨_, rfl, ?_⟩
       have n0_ := Aside0.mk (below_step (by repeat (first | (with_reducible first | exact HB.out | apply below_alloc | apply pw_below_drewN | apply below_drew1) | exact HB.out)) hb)
       clear HB
       have HB := n0_
       clear n0_
       (try clear hb)
       (try clear hb2)
       (try clear hk)
       (try clear hi)
       refine hK.out _ _ (((HB.out.cell (World.block_lt_of_cell? w _ hw316_0)).trans hw316_0)) (fun hHeld => ?_)
       clear hK K
       refine norm_ (a' := ?_) ?_ ?_
       rotate_left
       ·show Act.put _ (some 17) _ = _
        simp only [Act.put, List.setIfInBounds_toArray, List.set_cons_zero, List.set_cons_succ, i64_w, i32_w]
        rfl
       refine pure_ (i := 6) (N := some 18) (v := ?_) (a' := ?_) #[true, true, true, true, true, true, true] rfl rfl (by kernel_rfl) (fun _ _ _ h => h) (Or.inl ⟨by rfl, ?_⟩) ?_ ?_
       rotate_left
       ·intro w'
        go_simp
        with_reducible rfl
       rotate_left
       ·simp only [Act.put, List.setIfInBounds_toArray, List.set_cons_zero, List.set_cons_succ, i64_w, i32_w]
        rfl
       refine done_ (by kernel_rfl) ?_
       try go_wp2
       go_roundg k1
       case measure => have := HK1.out; omega
       case rel => exact ⟨(wrap64 (x1_1 + 1)), (wrap64 (x5_1 + 1)), (by first | rfl | (simp; done) | (simp [*]; done)), (by first | rfl | (simp; done) | (simp [*]; done)), H', ⟨by have := HK1.out; omega⟩, ⟨by repeat (first | (with_reducible first | exact HB.out | apply below_alloc | apply pw_below_drewN | apply below_drew1) | exact HB.out)⟩⟩
      ·rw [if_neg c6] at H
       have c6b0 : ((rdOf ByteArray.empty l0 x5_1).toList == t317.toList) = false := beq_eq_false_iff_ne.mpr c6
       have c6b1 : ((rdOf ByteArray.empty l0 x5_1).toList != t317.toList) = true := bne_iff_ne.mpr c6
       obtain rfl := Option.some.inj H
       try go_wp2
       have n0_ := Aside0.mk (below_drew1 HB.out)
       clear HB
       have HB := n0_
       clear n0_
       have p316 : 0 ≤ (x5_1 : Int) := of_decide_eq_true (by first | (with_reducible assumption) | assumption)
       have q316 : x5_1 < (l0.length : Int) := of_decide_eq_true (by first | (with_reducible assumption) | assumption)
       obtain ⟨ad316, e316, hx316_0⟩ := Kd.at_string HR0.out x5_1 p316 q316
       have hw316_0 := hx316_0
       cases e316
       try replace hx316_0 := (HB.out.cell (World.block_lt_of_cell? w _ hx316_0)).trans hx316_0
       replace p316 := eq_true p316
       replace q316 := eq_true q316
       refine start_ (n := 7) (S := fun w' => w'.cell? (ad316.add (x5_1).toNat) = some (.string (rdOf ByteArray.empty l0 x5_1))) (ds := []) #[false, false, false, false, false, false, false] (by kernel_rfl) rfl rfl (((HB.out.cell (World.block_lt_of_cell? w _ hw316_0)).trans hw316_0)) (fun hHeld => ?_)
       generalize wr.drew = w9 at HB hx316_0 hHeld ⊢
       refine pure_ (i := 0) (N := some 12) (v := ?_) (a' := ?_) #[true, false, false, false, false, false, false] rfl rfl (by kernel_rfl) (fun _ _ _ h => h) (Or.inl ⟨by rfl, ?_⟩) ?_ ?_
       rotate_left
       ·intro w'
        go_simp
        with_reducible rfl
       rotate_left
       ·simp only [Act.put, List.setIfInBounds_toArray, List.set_cons_zero, List.set_cons_succ, i64_w, i32_w]
        rfl
       refine pure_ (i := 1) (N := some 13) (v := ?_) (a' := ?_) #[true, true, false, false, false, false, false] rfl rfl (by kernel_rfl) (fun _ _ _ h => h) (Or.inl ⟨by rfl, ?_⟩) ?_ ?_
       rotate_left
       ·intro w'
        go_simp
        with_reducible rfl
       rotate_left
       ·simp only [Act.put, List.setIfInBounds_toArray, List.set_cons_zero, List.set_cons_succ, i64_w, i32_w]
        rfl
       refine pure_ (i := 2) (N := some 14) (v := ?_) (a' := ?_) #[true, true, true, false, false, false, false] rfl rfl (by kernel_rfl) (fun _ _ _ h => h) (Or.inl ⟨by rfl, ?_⟩) ?_ ?_
       rotate_left
       ·intro w'
        go_simp
        with_reducible rfl
       rotate_left
       ·simp only [Act.put, List.setIfInBounds_toArray, List.set_cons_zero, List.set_cons_succ, i64_w, i32_w]
        rfl
       refine pure_ (i := 4) (N := some 16) (v := ?_) (a' := ?_) #[true, true, true, false, true, false, false] rfl rfl (by kernel_rfl) (fun _ _ _ h => h) (Or.inl ⟨by rfl, ?_⟩) ?_ ?_
       rotate_left
       ·intro w'
        go_simp
        with_reducible rfl
       rotate_left
       ·simp only [Act.put, List.setIfInBounds_toArray, List.set_cons_zero, List.set_cons_succ, i64_w, i32_w]
        rfl
       refine take_ (i := 3) (N := some 15) (v := ?_) (a' := ?_) #[true, true, true, true, true, false, false] rfl rfl (by kernel_rfl) (fun _ _ _ h => h) (Or.inl ⟨by rfl, ?_⟩) hHeld ?_ ?_
       rotate_left
       ·intro w' s0
        go_simp
        with_reducible rfl
       rotate_left
       ·simp only [Act.put, List.setIfInBounds_toArray, List.set_cons_zero, List.set_cons_succ, i64_w, i32_w]
        rfl
       refine one_ (i := 5) (N := some 17) #[true, true, true, true, true, true, false] rfl rfl (by kernel_rfl) (by decide) (fun K hK => ?_)
       refine goes_ Try.func123 (by kernel_rfl) rfl #[.int .i64 x1_1] (by rfl) rfl rfl (by (try simp only [List.map_toArray, List.map_cons, List.map_nil]); first | done | rfl | (simp only [List.length_drop, List.length_take]; rfl)) ?_
       with_reducible refine (laws_markText.calls k1 x1_1 t317 _ A5.out).mono ?_
       rintro e w10 ⟨rfl, hb⟩
       refine ⟨_, rfl, ?_⟩
       have n0_ := Aside0.mk (below_step (by repeat (first | (with_reducible first | exact HB.out | apply below_alloc | apply pw_below_drewN | apply below_drew1) | exact HB.out)) hb)
       clear HB
       have HB := n0_
       clear n0_
       (try clear hb)
       (try clear hb2)
       (try clear hk)
       (try clear hi)
       refine hK.out _ _ (((HB.out.cell (World.block_lt_of_cell? w _ hw316_0)).trans hw316_0)) (fun hHeld => ?_)
       clear hK K
       refine norm_ (a' := ?_) ?_ ?_
       rotate_left
       ·show Act.put _ (some 17) _ = _
        simp only [Act.put, List.setIfInBounds_toArray, List.set_cons_zero, List.set_cons_succ, i64_w, i32_w]
        rfl
       refine pure_ (i := 6) (N := some 18) (v := ?_) (a' := ?_) #[true, true, true, true, true, true, true] rfl rfl (by kernel_rfl) (fun _ _ _ h => h) (Or.inl ⟨by rfl, ?_⟩) ?_ ?_
       rotate_left
       ·intro w'
        go_simp
        with_reducible rfl
       rotate_left
       ·simp only [Act.put, List.setIfInBounds_toArray, List.set_cons_zero, List.set_cons_succ, i64_w, i32_w]
        rfl
       refine done_ (by kernel_rfl) ?_
       try go_wp2
       go_ret
       exact ⟨by first | rfl | (simp [errW_none, errW_some] <;> rfl) | (simp [*, errW_none, errW_some] <;> rfl), by repeat (first | (with_reducible first | exact HB.out | apply below_alloc | apply pw_below_drewN | apply below_drew1) | exact HB.out)⟩
     ·rw [if_neg c4] at H
      exact absurd H (by simp)
    ·rw [if_neg c3] at H
     have c3b0 : decide (x5_1 < (l0.length : Int)) = false := decide_eq_false c3
     clear c3
     obtain rfl := Option.some.inj H
     go_wp2
     go_ret
     exact ⟨by first | rfl | (simp [errW_none, errW_some] <;> rfl) | (simp [*, errW_none, errW_some] <;> rfl), by repeat (first | (with_reducible first | exact HB.out | apply below_alloc | apply pw_below_drewN | apply below_drew1) | exact HB.out)⟩

/-! ### laws_heldStringSS: function 43 -/
def laws_heldStringSS.l0 : Nat → List (List ByteArray) → Int → Int → Option (Int)
  | 0, _, _, _ => none
  | k + 1, x0, x1, x5 => if x5 < (x0.length : Int) then (if 0 ≤ x5 then ((laws_heldStringS.f k (rd_L1 x0 x5) x1).bind fun t319 => (if t319 < 0 then (some (-1)) else (laws_heldStringSS.l0 k x0 t319 (wrap64 (x5 + 1))))) else (none)) else (some x1)
def laws_heldStringSS.f (k : Nat) (l0 : List (List ByteArray)) (a1 : Int) : Option (Int) := laws_heldStringSS.l0 k l0 a1 0
theorem laws_heldStringSS.mono_l : ∀ k, (∀ y0 y1 y2, LeO (laws_heldStringSS.l0 k y0 y1 y2) (laws_heldStringSS.l0 (k + 1) y0 y1 y2))
  | 0 => fun _ _ _ r h => by simp [laws_heldStringSS.l0] at h
  | k + 1 => by
   have ih0 := laws_heldStringSS.mono_l k
   ·intro y0 y1 y2
    unfold laws_heldStringSS.l0
    repeat' first
    | (with_reducible exact ih0 _ _ _)
    | (with_reducible exact laws_heldStringS.mono _ _ _)
    | (with_reducible exact LeO.refl _)
    | (with_reducible exact LeO.none _)
    | (with_reducible refine LeO.ite ?_ ?_)
    | (with_reducible refine LeO.bind ?_ (fun _ => ?_))
    | exact ih0 _ _ _
    | exact laws_heldStringS.mono _ _ _
    | exact LeO.none _
    | refine LeO.ite ?_ ?_
    | refine LeO.bind ?_ (fun _ => ?_)
theorem laws_heldStringSS.mono : ∀ a0 a1 k, LeO (laws_heldStringSS.f k a0 a1) (laws_heldStringSS.f (k + 1) a0 a1) := by
  intro a0 a1 k
  have ih0 := laws_heldStringSS.mono_l k
  unfold laws_heldStringSS.f
  repeat' first
    | (with_reducible exact ih0 _ _ _)
    | (with_reducible exact laws_heldStringS.mono _ _ _)
    | (with_reducible exact LeO.refl _)
    | (with_reducible exact LeO.none _)
    | (with_reducible refine LeO.ite ?_ ?_)
    | (with_reducible refine LeO.bind ?_ (fun _ => ?_))
    | exact ih0 _ _ _
    | exact laws_heldStringS.mono _ _ _
    | exact LeO.none _
    | refine LeO.ite ?_ ?_
    | refine LeO.bind ?_ (fun _ => ?_)
set_option maxHeartbeats 8000000 in
set_option maxRecDepth 100000 in
theorem laws_heldStringSS.calls (k : Nat) (A0 : Option Addr) (c0 : Nat) (l0 : List (List ByteArray)) (a1 : Int) (r : Int) (w : World) (hr0 : Kd.C (Kd.slice 9 Kd.string) w A0 l0.length l0) (hc0 : l0.length ≤ c0) (h : laws_heldStringSS.f k l0 a1 = some r) :
   Calls Try.prog 43 #[.slice A0 l0.length c0, .int .i64 a1] w fun e w' => e = .returned (.int .i64 r) ∧ Below w.heap.size w w' := by
  have HR0 := Aside0.mk hr0
  have HC0 := Aside0.mk hc0
  clear hr0 hc0
  have HB := Aside0.mk (Below.refl w.heap.size w)
  have H : (laws_heldStringSS.l0 k l0 a1 0) = some r := h
  clear h
  have H' := Aside0.mk H
  clear H
  go_enter Try.func43, Try.ntmps43
  go_wp2
  go_loopg [1, 5] k (fun kq v1 v5 w' => ∃ (x1_1 : Int) (x5_1 : Int), v1 = .int .i64 x1_1 ∧ v5 = .int .i64 x5_1 ∧ Aside0 (laws_heldStringSS.l0 kq l0 x1_1 x5_1 = some r) ∧ Aside0 (kq ≤ k) ∧ Aside0 (Below w.heap.size w w'))
  case atStart => exact ⟨(a1), (0), (by first | rfl | (simp; done) | (simp [*]; done)), (by first | rfl | (simp; done) | (simp [*]; done)), H', ⟨Nat.le_refl _⟩, ⟨by repeat (first | (with_reducible first | exact HB.out | apply below_alloc | apply pw_below_drewN | apply below_drew1) | exact HB.out)⟩⟩
  case round =>
   clear H'
   try clear p2
   obtain ⟨x1_1, x5_1, rfl, rfl, HA, HK1, HB⟩ := hrel
   cases gk with
   | zero => exact absurd HA.out (by simp [laws_heldStringSS.l0])
   | succ k1 =>
    have H := HA.out
    clear HA
    simp only [laws_heldStringSS.l0] at H
    by_cases c3 : x5_1 < (l0.length : Int)
    ·rw [if_pos c3] at H
     have c3b0 : decide (x5_1 < (l0.length : Int)) = true := decide_eq_true c3
     clear c3
     by_cases c4 : 0 ≤ x5_1
     ·rw [if_pos c4] at H
      have c4b0 : decide (0 ≤ x5_1) = true := decide_eq_true c4
      clear c4
      replace H := Option.bind_eq_some_iff.mp H
      obtain ⟨t319, A50, H⟩ := H
      replace H : (if t319 < 0 then (some (-1)) else (laws_heldStringSS.l0 k1 l0 t319 (wrap64 (x5_1 + 1)))) = some r := H
      have A5 := Aside0.mk A50
      clear A50
      by_cases c6 : t319 < 0
      ·rw [if_pos c6] at H
       have c6b0 : decide (t319 < 0) = true := decide_eq_true c6
       clear c6
       obtain rfl := Option.some.inj H
       have p318 : 0 ≤ (x5_1 : Int) := of_decide_eq_true (by first | (with_reducible assumption) | assumption)
       have q318 : x5_1 < (l0.length : Int) := of_decide_eq_true (by first | (with_reducible assumption) | assumption)
       obtain ⟨ad318, A318_0, c318_0, e318, hx318_0, hl318_0, hi318_0⟩ := at_L1 HR0.out x5_1 p318 q318
       cases e318
       try replace hx318_0 := (HB.out.cell (World.block_lt_of_cell? w _ hx318_0)).trans hx318_0
       have HR318_0 := Aside0.mk hi318_0
       have HC318_0 := Aside0.mk hl318_0
       clear hi318_0 hl318_0
       replace p318 := eq_true p318
       replace q318 := eq_true q318
       go_wp2_with (first | ((with_reducible refine gate_callee (f := 92) rfl ?_); refine goesL_ (some 17) rfl rfl Try.func92 (by kernel_rfl) rfl #[.slice A318_0 (rd_L1 l0 x5_1).length c318_0, .int .i64 x1_1] rfl (by (try simp only [List.map_toArray, List.map_cons, List.map_nil]); first | done | rfl | (simp only [List.length_drop, List.length_take]; rfl)) ?_; (with_reducible refine (laws_heldStringS.calls k1 _ _ (rd_L1 l0 x5_1) x1_1 t319 _ ?side1 ?side2 A5.out).mono ?_); (case side1 => repeat (first | exact (Kd.C_below HR318_0.out HB.out) | (with_reducible refine Kd.C_alloc ?_ _) | (with_reducible refine Kd.C_drewN ?_ _) | (with_reducible refine Kd.C_drew ?_))); (case side2 => exact HC318_0.out); rintro e w7 ⟨rfl, hb⟩; refine ⟨_, rfl, ?_⟩; have n0_ := Aside0.mk (below_step (by repeat (first | (with_reducible first | exact HB.out | apply below_alloc | apply pw_below_drewN | apply below_drew1) | exact HB.out)) hb); clear HB; have HB := n0_; clear n0_; (try clear hb); (try clear hb2); (try clear hk); (try clear hi)))
       go_ret
       exact ⟨by first | rfl | (simp [errW_none, errW_some] <;> rfl) | (simp [*, errW_none, errW_some] <;> rfl), by repeat (first | (with_reducible first | exact HB.out | apply below_alloc | apply pw_below_drewN | apply below_drew1) | exact HB.out)⟩
      ·rw [if_neg c6] at H
       have c6b0 : decide (t319 < 0) = false := decide_eq_false c6
       clear c6
       have H' := Aside0.mk H
       clear H
       have p318 : 0 ≤ (x5_1 : Int) := of_decide_eq_true (by first | (with_reducible assumption) | assumption)
       have q318 : x5_1 < (l0.length : Int) := of_decide_eq_true (by first | (with_reducible assumption) | assumption)
       obtain ⟨ad318, A318_0, c318_0, e318, hx318_0, hl318_0, hi318_0⟩ := at_L1 HR0.out x5_1 p318 q318
       cases e318
       try replace hx318_0 := (HB.out.cell (World.block_lt_of_cell? w _ hx318_0)).trans hx318_0
       have HR318_0 := Aside0.mk hi318_0
       have HC318_0 := Aside0.mk hl318_0
       clear hi318_0 hl318_0
       replace p318 := eq_true p318
       replace q318 := eq_true q318
       go_wp2_with (first | ((with_reducible refine gate_callee (f := 92) rfl ?_); refine goesL_ (some 17) rfl rfl Try.func92 (by kernel_rfl) rfl #[.slice A318_0 (rd_L1 l0 x5_1).length c318_0, .int .i64 x1_1] rfl (by (try simp only [List.map_toArray, List.map_cons, List.map_nil]); first | done | rfl | (simp only [List.length_drop, List.length_take]; rfl)) ?_; (with_reducible refine (laws_heldStringS.calls k1 _ _ (rd_L1 l0 x5_1) x1_1 t319 _ ?side1 ?side2 A5.out).mono ?_); (case side1 => repeat (first | exact (Kd.C_below HR318_0.out HB.out) | (with_reducible refine Kd.C_alloc ?_ _) | (with_reducible refine Kd.C_drewN ?_ _) | (with_reducible refine Kd.C_drew ?_))); (case side2 => exact HC318_0.out); rintro e w8 ⟨rfl, hb⟩; refine ⟨_, rfl, ?_⟩; have n0_ := Aside0.mk (below_step (by repeat (first | (with_reducible first | exact HB.out | apply below_alloc | apply pw_below_drewN | apply below_drew1) | exact HB.out)) hb); clear HB; have HB := n0_; clear n0_; (try clear hb); (try clear hb2); (try clear hk); (try clear hi)))
       go_roundg k1
       case measure => have := HK1.out; omega
       case rel => exact ⟨(t319), (wrap64 (x5_1 + 1)), (by first | rfl | (simp; done) | (simp [*]; done)), (by first | rfl | (simp; done) | (simp [*]; done)), H', ⟨by have := HK1.out; omega⟩, ⟨by repeat (first | (with_reducible first | exact HB.out | apply below_alloc | apply pw_below_drewN | apply below_drew1) | exact HB.out)⟩⟩
     ·rw [if_neg c4] at H
      exact absurd H (by simp)
    ·rw [if_neg c3] at H
     have c3b0 : decide (x5_1 < (l0.length : Int)) = false := decide_eq_false c3
     clear c3
     obtain rfl := Option.some.inj H
     go_wp2
     go_ret
     exact ⟨by first | rfl | (simp [errW_none, errW_some] <;> rfl) | (simp [*, errW_none, errW_some] <;> rfl), by repeat (first | (with_reducible first | exact HB.out | apply below_alloc | apply pw_below_drewN | apply below_drew1) | exact HB.out)⟩

/-! ### laws_FnExactPrune: function 6 (given) -/
def laws_FnExactPrune.g (k : Nat) (a0_0 a0_1 : Int) (a0_2 : ByteArray) (l1 : List (List ByteArray)) : Option Bool := (laws_toGrid.f a0_0 a0_1 a0_2).bind fun g => (laws_toStringSS.f k l1).bind fun x => (spec_Prune.f k g.1 g.2.1 g.2.2 x).bind fun t => (impl_Prune.f k g.1 g.2.1 g.2.2 x).bind fun u => (laws_eqStringSS.f k u t).bind fun b => (laws_eqStringSS.f k x x).bind fun b2 => (laws_markStringSS.f k x 1).bind fun n => (laws_markStringSS.f k u 1).bind fun m => (laws_heldStringSS.f k m.2 1).bind fun q => if b = true ∧ b2 = true ∧ 0 ≤ n.1 ∧ 0 ≤ q ∧ q = m.1 then some true else none
def laws_FnExactPrune.f (k : Nat) (a0_0 a0_1 : Int) (a0_2 : ByteArray) (l1 : List (List ByteArray)) : Option Bool := (laws_szGrid.f a0_0 a0_1 a0_2 1048576).bind fun s1 => if s1 < 0 then some true else (laws_szStringSS.f k l1 s1).bind fun s2 => if s2 < 0 then some true else laws_FnExactPrune.g k a0_0 a0_1 a0_2 l1
theorem prl_box_cell {w w1 : World} {cs : Array Value} {t : TypeId} (hb : Below (w.alloc (.cells cs t)).heap.size (w.alloc (.cells cs t)) w1) (j : Nat) (v : Value) (h : cs[j]? = some v) : w1.cell? ⟨w.heap.size, j, none⟩ = some v := by
  have h1 : (⟨w.heap.size, j, none⟩ : Addr).block < (w.alloc (.cells cs t)).heap.size := by simp [World.alloc, -World.alloc_eq]
  rw [hb.cell h1]
  simp [World.cell?, World.alloc, -World.alloc_eq, h]
set_option maxHeartbeats 1600000 in
set_option maxRecDepth 100000 in
theorem laws_FnExactPrune.calls (k : Nat) (a0_0 a0_1 : Int) (a0_2 : ByteArray) (A1 : Option Addr) (c1 : Nat) (l1 : List (List ByteArray)) (r : Bool) (w : World) (hr1 : Kd.C (Kd.slice 9 Kd.string) w A1 l1.length l1) (hc1 : l1.length ≤ c1) (h : laws_FnExactPrune.f k a0_0 a0_1 a0_2 l1 = some r) :
    Calls Try.prog 6 #[.agg #[.int .i64 a0_0, .int .i64 a0_1, .string a0_2], .slice A1 l1.length c1] w fun e w' => e = .returned (.bool r) ∧ Below w.heap.size w w' := by
  unfold laws_FnExactPrune.f at h
  have HP := Aside0.mk hr1
  have HPC := Aside0.mk hc1
  clear hr1 hc1
  obtain ⟨s1, h1, h⟩ := Option.bind_eq_some_iff.mp h
  have kz := fun W => laws_szGrid.calls a0_0 a0_1 a0_2 1048576 s1 W h1
  clear h1
  by_cases hs1 : s1 < 0
  · rw [if_pos hs1] at h
    injection h with h
    subst h
    have cb1 : decide (s1 < 0) = true := decide_eq_true hs1
    clear hs1
    go_enter Try.func6, Try.ntmps6
    go_wp2_with fail
    go_at_call 33
    refine (kz _).mono ?_
    rintro e w1 ⟨rfl, hb1⟩
    have HB1 := Aside0.mk (below_step (w := w) (by repeat (first | exact Below.refl _ _ | apply below_alloc | apply pw_below_drewN | apply below_drew1)) hb1)
    clear hb1
    go_wp2_with fail
    go_ret
    exact ⟨rfl, HB1.out⟩
  · rw [if_neg hs1] at h
    have cb1 : decide (s1 < 0) = false := decide_eq_false hs1
    clear hs1
    obtain ⟨s2, h2, h⟩ := Option.bind_eq_some_iff.mp h
    have kz2 := fun A c W hr hc => laws_szStringSS.calls k A c l1 s1 s2 W hr hc h2
    clear h2
    by_cases hs2 : s2 < 0
    · rw [if_pos hs2] at h
      injection h with h
      subst h
      have cb2 : decide (s2 < 0) = true := decide_eq_true hs2
      clear hs2
      go_enter Try.func6, Try.ntmps6
      go_wp2_with fail
      go_at_call 33
      refine (kz _).mono ?_
      rintro e w1 ⟨rfl, hb1⟩
      have HB1 := Aside0.mk (below_step (w := w) (by repeat (first | exact Below.refl _ _ | apply below_alloc | apply pw_below_drewN | apply below_drew1)) hb1)
      clear hb1
      go_wp2_with fail
      go_at_call 34
      refine (kz2 _ _ _ (Kd.C_below HP.out HB1.out) HPC.out).mono ?_
      rintro e w' ⟨rfl, nd, rfl⟩
      go_wp2_with fail
      go_ret
      exact ⟨rfl, pw_below_drewN HB1.out _⟩
    · rw [if_neg hs2] at h
      have cb2 : decide (s2 < 0) = false := decide_eq_false hs2
      clear hs2
      unfold laws_FnExactPrune.g at h
      obtain ⟨g, hg, h⟩ := Option.bind_eq_some_iff.mp h
      obtain ⟨x, hx, h⟩ := Option.bind_eq_some_iff.mp h
      obtain ⟨t, ht, h⟩ := Option.bind_eq_some_iff.mp h
      obtain ⟨u, hu, h⟩ := Option.bind_eq_some_iff.mp h
      obtain ⟨b, he, h⟩ := Option.bind_eq_some_iff.mp h
      obtain ⟨b2, he2, h⟩ := Option.bind_eq_some_iff.mp h
      obtain ⟨n, hn, h⟩ := Option.bind_eq_some_iff.mp h
      obtain ⟨m, hm, h⟩ := Option.bind_eq_some_iff.mp h
      obtain ⟨q, hq, h⟩ := Option.bind_eq_some_iff.mp h
      obtain ⟨g1, g2, g3⟩ := g
      obtain ⟨m1, m2⟩ := m
      obtain ⟨n1, n2⟩ := n
      by_cases hc : b = true ∧ b2 = true ∧ 0 ≤ n1 ∧ 0 ≤ q ∧ q = m1
      · rw [if_pos hc] at h
        injection h with h
        subst h
        obtain ⟨rfl, rfl, hn0, hq0, rfl⟩ := hc
        have cb3 : decide (n1 < 0) = false := by simp; omega
        have cb4 : decide (q < 0) = false := by simp; omega
        have cb5 : (q != q) = false := by simp
        have kg := fun W => laws_toGrid.calls a0_0 a0_1 a0_2 g1 g2 g3 W hg
        have kx := fun A c W hr hc => laws_toStringSS.calls k A c l1 x W hr hc hx
        have ks := fun A c W hr hc => spec_Prune.calls k g1 g2 g3 A c x t W hr hc ht
        have ki := fun A c W hr hc => impl_Prune.calls k g1 g2 g3 A c x u W hr hc hu
        have ke := fun A0 c0 A1 c1 W h0 h1 h2 h3 => laws_eqStringSS.calls k A0 c0 u A1 c1 t true W h0 h1 h2 h3 he
        have ke2 := fun A0 c0 A1 c1 W h0 h1 h2 h3 => laws_eqStringSS.calls k A0 c0 x A1 c1 x true W h0 h1 h2 h3 he2
        have kn := fun (P0_ : Nat → Prop) v w0 W hB ho => laws_markStringSS.calls k P0_ v x 1 n1 n2 w0 W hB ho hn
        have km := fun (P0_ : Nat → Prop) v w0 W hB ho => laws_markStringSS.calls k P0_ v u 1 q m2 w0 W hB ho hm
        have kh := fun A c W hr hc => laws_heldStringSS.calls k A c m2 1 q W hr hc hq
        clear hg hx ht hu hm hq he he2 hn
        go_enter Try.func6, Try.ntmps6
        go_wp2_with fail
        go_at_call 33
        refine (kz _).mono ?_
        rintro e w1 ⟨rfl, hb1⟩
        have HB1 := Aside0.mk hb1
        have HPB := Aside0.mk (Kd.C_below HP.out (below_alloc (Below.refl _ _) (.cells #[.int .i64 a0_0, .int .i64 a0_1, .string a0_2] 48)))
        have BX := Aside0.mk (fun W (hb : Below (w.alloc (.cells #[.int .i64 a0_0, .int .i64 a0_1, .string a0_2] 48)).heap.size (w.alloc (.cells #[.int .i64 a0_0, .int .i64 a0_1, .string a0_2] 48)) W) => (⟨prl_box_cell hb 0 _ rfl, prl_box_cell hb 1 _ rfl, prl_box_cell hb 2 _ rfl⟩ : W.cell? ⟨w.heap.size, 0, none⟩ = some (.int .i64 a0_0) ∧ W.cell? ⟨w.heap.size, 1, none⟩ = some (.int .i64 a0_1) ∧ W.cell? ⟨w.heap.size, 2, none⟩ = some (.string a0_2)))
        clear hb1
        go_wp2_with fail
        go_at_call 34
        refine (kz2 _ _ _ (Kd.C_below HPB.out HB1.out) HPC.out).mono ?_
        rintro e w' ⟨rfl, nd, rfl⟩
        have HB2 := Aside0.mk (pw_below_drewN HB1.out nd)
        clear HB1
        generalize w1.drewN nd = w2 at HB2 ⊢
        obtain ⟨x0, x1, x2⟩ := BX.out _ HB2.out
        go_wp2_with fail
        go_at_call 36
        refine (kg _).mono ?_
        rintro e w3 ⟨rfl, hb⟩
        clear x0 x1 x2
        have HB3 := Aside0.mk (below_step HB2.out hb)
        clear hb
        go_wp2_with fail
        go_at_call 37
        refine (kx _ _ _ (Kd.C_below HPB.out HB3.out) HPC.out).mono ?_
        rintro e w4 ⟨va, rfl, ho, hb⟩
        obtain ⟨Aa, ca, rfl⟩ := Kd.S_slice ho
        have HB4 := Aside0.mk (below_step HB3.out hb)
        have HOa := Aside0.mk ho
        clear hb ho HB2 HB3 kz kz2
        go_wp2_with fail
        go_at_call 40
        refine (ks _ _ _ (Kd.S_reads' HOa.out).2.2 (Kd.S_reads' HOa.out).2.1).mono ?_
        rintro e w5 ⟨v0, rfl, hs, hb⟩
        obtain ⟨A0, c0, rfl⟩ := Kd.S_slice hs
        have HB5 := Aside0.mk (below_step HB4.out hb)
        have HC0 := Aside0.mk (Kd.S_reads' hs).2
        clear hb hs HOa HB4 ks
        go_wp2_with fail
        go_at_call 37
        refine (kx _ _ _ (Kd.C_below HPB.out HB5.out) HPC.out).mono ?_
        rintro e w6 ⟨vx, rfl, ho, hb⟩
        obtain ⟨Ax, cx, rfl⟩ := Kd.S_slice ho
        have HD6 := Aside0.mk hb
        have HX6 := Aside0.mk (Kd.S_mono (ok' := fun k_ => k_ < w6.heap.size) (Kd.S_bound ho) (fun k_ hk => hk.2.2.1))
        have HL6 := Aside0.mk (Kd.S_lt ho)
        clear hb ho
        obtain ⟨x0, x1, x2⟩ := BX.out _ (below_step HB5.out HD6.out)
        go_wp2_with fail
        go_at_call 36
        refine (kg _).mono ?_
        rintro e w7 ⟨rfl, hb⟩
        clear x0 x1 x2
        have HD7 := Aside0.mk (below_step HD6.out hb)
        have HX7 := Aside0.mk (Kd.S_below HX6.out hb)
        have HZ7 := Aside0.mk hb.size
        clear hb HX6
        go_wp2_with fail
        go_at_call 41
        refine (ki _ _ _ (Kd.S_reads' HX7.out).2.2 (Kd.S_reads' HX7.out).2.1).mono ?_
        rintro e w8 ⟨v1, rfl, hs, hb⟩
        obtain ⟨A1, c1, rfl⟩ := Kd.S_slice hs
        have HD8 := Aside0.mk (below_step HD7.out hb)
        have HX8 := Aside0.mk (Kd.S_below HX7.out hb)
        have HS8 := Aside0.mk hs
        have HZ8 := Aside0.mk HD7.out.size
        clear hb hs HX7 HD6
        go_wp2_with fail
        go_at_call 39
        refine (ke _ _ _ _ _ (Kd.S_reads' HS8.out).2.2 (Kd.S_reads' HS8.out).2.1 (Kd.C_below HC0.out.2 HD8.out) HC0.out.1).mono ?_
        rintro e w' ⟨rfl, nd, rfl⟩
        have HD9 := Aside0.mk (pw_below_drewN HD8.out nd)
        have HX9 := Aside0.mk (Kd.S_drewN HX8.out nd)
        have HS9 := Aside0.mk (Kd.S_drewN HS8.out nd)
        clear HD8 HX8 HS8
        generalize w8.drewN nd = w9 at HD9 HX9 HS9 ⊢
        go_wp2_with fail
        go_at_call 37
        refine (kx _ _ _ (Kd.C_below HPB.out (below_step HB5.out HD9.out)) HPC.out).mono ?_
        rintro e w10 ⟨vb, rfl, ho, hb⟩
        obtain ⟨Ab, cb, rfl⟩ := Kd.S_slice ho
        have HD10 := Aside0.mk (below_step HD9.out hb)
        have HX10 := Aside0.mk (Kd.S_below HX9.out hb)
        have HS10 := Aside0.mk (Kd.S_below HS9.out hb)
        have HO10 := Aside0.mk ho
        clear hb ho HD9 HX9 HS9
        go_wp2_with fail
        go_at_call 39
        refine (ke2 _ _ _ _ _ (Kd.S_reads' HX10.out).2.2 (Kd.S_reads' HX10.out).2.1 (Kd.S_reads' HO10.out).2.2 (Kd.S_reads' HO10.out).2.1).mono ?_
        rintro e w' ⟨rfl, nd, rfl⟩
        have HD11 := Aside0.mk (pw_below_drewN HD10.out nd)
        have HX11 := Aside0.mk (Kd.S_drewN HX10.out nd)
        have HS11 := Aside0.mk (Kd.S_drewN HS10.out nd)
        clear HD10 HX10 HS10 HO10
        generalize w10.drewN nd = w11 at HD11 HX11 HS11 ⊢
        go_wp2_with fail
        go_at_call 42
        refine (kn (fun k_ => k_ < w6.heap.size) _ w5 _ HD11.out HX11.out).mono ?_
        rintro e w12 ⟨rfl, _, hb, hk⟩
        have HD12 := Aside0.mk hb
        have HS12 := Aside0.mk (Kd.S_mono (Kd.S_kept (Kd.S_bound HS11.out) hk (fun k_ hk_ he_ => by have h2_ := hk_.2.1; have h3_ := HZ7.out; omega)) (fun _ _ => trivial : ∀ k_, _ → (fun _ => True) k_))
        clear hb hk HD11 HX11 HS11 kn
        go_wp2_with fail
        go_at_call 39
        refine (ke _ _ _ _ _ (Kd.S_reads' HS12.out).2.2 (Kd.S_reads' HS12.out).2.1 (Kd.C_below HC0.out.2 HD12.out) HC0.out.1).mono ?_
        rintro e w' ⟨rfl, nd, rfl⟩
        have HD13 := Aside0.mk (pw_below_drewN HD12.out nd)
        have HS13 := Aside0.mk (Kd.S_drewN HS12.out nd)
        clear HD12 HS12
        generalize w12.drewN nd = w13 at HD13 HS13 ⊢
        go_wp2_with fail
        go_at_call 42
        refine (km (fun _ => True) _ w5 _ HD13.out (Kd.S_lower HS13.out HZ8.out)).mono ?_
        rintro e w14 ⟨rfl, hs, hb, _⟩
        obtain ⟨A4, c4, e4⟩ := Kd.S_slice hs
        injection e4 with e5 hlen e6
        rw [← hlen] at kh
        have HS14 := Aside0.mk hs
        have HD14 := Aside0.mk hb
        have HL := Aside0.mk hlen
        clear hs hb km hlen e5 e6 HD13 HS13
        go_wp2_with fail
        go_at_call 43
        refine (kh _ _ _ (by have := (Kd.S_reads' HS14.out).2.2; rwa [← HL.out] at this) (by have := (Kd.S_reads' HS14.out).2.1; exact this)).mono ?_
        rintro e w15 ⟨rfl, hb⟩
        have HD15 := Aside0.mk (below_step HD14.out hb)
        have HS15 := Aside0.mk (Kd.S_below HS14.out hb)
        clear hb HD14 HS14
        obtain ⟨x0, x1, x2⟩ := BX.out _ (below_step HB5.out HD15.out)
        go_wp2_with fail
        go_at_call 36
        refine (kg _).mono ?_
        rintro e w16 ⟨rfl, hb⟩
        clear x0 x1 x2
        have HD16 := Aside0.mk (below_step HD15.out hb)
        have HS16 := Aside0.mk (Kd.S_below HS15.out hb)
        clear hb HD15 HS15
        go_wp2_with fail
        go_at_call 37
        refine (kx _ _ _ (Kd.C_below HPB.out (below_step HB5.out HD16.out)) HPC.out).mono ?_
        rintro e w17 ⟨vc, rfl, ho, hb⟩
        obtain ⟨Ac, cc, rfl⟩ := Kd.S_slice ho
        have HD17 := Aside0.mk (below_step HD16.out hb)
        have HS17 := Aside0.mk (Kd.S_below HS16.out hb)
        have HO17 := Aside0.mk ho
        clear hb ho HD16 HS16
        go_wp2_with fail
        go_at_call 41
        refine (ki _ _ _ (Kd.S_reads' HO17.out).2.2 (Kd.S_reads' HO17.out).2.1).mono ?_
        rintro e w18 ⟨v2, rfl, hs, hb⟩
        obtain ⟨A6, c6, rfl⟩ := Kd.S_slice hs
        have HD18 := Aside0.mk (below_step HD17.out hb)
        have HS18 := Aside0.mk (Kd.S_below HS17.out hb)
        have HT18 := Aside0.mk hs
        clear hb hs HD17 HS17 HO17
        go_wp2_with fail
        go_at_call 39
        refine (ke _ _ _ _ _ (Kd.S_reads' HT18.out).2.2 (Kd.S_reads' HT18.out).2.1 (Kd.C_below HC0.out.2 HD18.out) HC0.out.1).mono ?_
        rintro e w' ⟨rfl, nd, rfl⟩
        have HD19 := Aside0.mk (pw_below_drewN HD18.out nd)
        have HS19 := Aside0.mk (Kd.S_drewN HS18.out nd)
        clear HD18 HS18 HT18
        generalize w18.drewN nd = w19 at HD19 HS19 ⊢
        go_wp2_with fail
        go_at_call 43
        refine (kh _ _ _ (by have := (Kd.S_reads' HS19.out).2.2; rwa [← HL.out] at this) (by have := (Kd.S_reads' HS19.out).2.1; exact this)).mono ?_
        rintro e w20 ⟨rfl, hb⟩
        have HD20 := Aside0.mk (below_step HB5.out (below_step HD19.out hb))
        clear hb
        go_wp2_with fail
        go_ret
        exact ⟨rfl, below_step (w := w) (below_alloc (Below.refl _ _) _) HD20.out⟩
      · rw [if_neg (by simpa using hc)] at h
        cases h


end Go.Proofs.Ytachbhggeibciaa.QFnExactPrune
