-- Written by a changed copy of the kit's printer (wip/mp.py of this repo), for this claim; Lean checks it.
import Derived.Test.YtodcckiphdnjeaaQFnExactFillsOfx0
import Derived.Test.YtodcckiphdnjeaaQFnExactFillsOfx2
import Derived.Test.YtodcckiphdnjeaaQFnExactFillsOfx10
import Derived.Test.YtodcckiphdnjeaaQFnExactFillsOfx16
namespace Go.Proofs.Ytodcckiphdnjeaa.QFnExactFillsOf
open Go.RowKit Go.Proofs.YtodcckiphdnjeaaW.PrintWords Go.Proofs.YtodcckiphdnjeaaW.PrintLast Go.Proofs.YtodcckiphdnjeaaW.PrintMore
attribute [local go_sem] max2_int min2_int max_two min_two max_three min_three max_four min_four   -- for this text's walks alone
set_option linter.unusedVariables false
set_option linter.unusedSimpArgs false

/-! ### laws_markStringS: function 19 -/
def laws_markStringS.l0 : Nat → List ByteArray → Int → Int → Option (Int × List ByteArray)
  | 0, _, _, _ => none
  | k + 1, x0, x1, x5 => if x5 < (x0.length : Int) then ((laws_markText.f k x1).bind fun t301 => (if 0 ≤ x5 then (laws_markStringS.l0 k (x0.set (x5 : Int).toNat t301) (wrap64 (x1 + 1)) (wrap64 (x5 + 1))) else (none))) else (some (x1, x0))
def laws_markStringS.f (k : Nat) (l0 : List ByteArray) (a1 : Int) : Option (Int × List ByteArray) := laws_markStringS.l0 k l0 a1 0
theorem laws_markStringS.mono_l : ∀ k, (∀ y0 y1 y2, LeO (laws_markStringS.l0 k y0 y1 y2) (laws_markStringS.l0 (k + 1) y0 y1 y2))
  | 0 => fun _ _ _ r h => by simp [laws_markStringS.l0] at h
  | k + 1 => by
   have ih0 := laws_markStringS.mono_l k
   ·intro y0 y1 y2
    unfold laws_markStringS.l0
    repeat' first
    | (with_reducible exact ih0 _ _ _)
    | (with_reducible exact laws_markText.mono _ _)
    | (with_reducible exact LeO.refl _)
    | (with_reducible exact LeO.none _)
    | (with_reducible refine LeO.ite ?_ ?_)
    | (with_reducible refine LeO.bind ?_ (fun _ => ?_))
    | exact ih0 _ _ _
    | exact laws_markText.mono _ _
    | exact LeO.none _
    | refine LeO.ite ?_ ?_
    | refine LeO.bind ?_ (fun _ => ?_)
theorem laws_markStringS.mono : ∀ a0 a1 k, LeO (laws_markStringS.f k a0 a1) (laws_markStringS.f (k + 1) a0 a1) := by
  intro a0 a1 k
  have ih0 := laws_markStringS.mono_l k
  unfold laws_markStringS.f
  repeat' first
    | (with_reducible exact ih0 _ _ _)
    | (with_reducible exact laws_markText.mono _ _)
    | (with_reducible exact LeO.refl _)
    | (with_reducible exact LeO.none _)
    | (with_reducible refine LeO.ite ?_ ?_)
    | (with_reducible refine LeO.bind ?_ (fun _ => ?_))
    | exact ih0 _ _ _
    | exact laws_markText.mono _ _
    | exact LeO.none _
    | refine LeO.ite ?_ ?_
    | refine LeO.bind ?_ (fun _ => ?_)
set_option maxHeartbeats 8000000 in
set_option maxRecDepth 100000 in
theorem laws_markStringS.calls (k : Nat) (P0_ : Nat → Prop) (u9000_ : Value) (l0 : List ByteArray) (a1 : Int) (r1 : Int) (r2 : List ByteArray) (w0 w : World) (hB : Below w0.heap.size w0 w) (ho0 : Kd.R Kd.string 9 w w0.heap.size P0_ u9000_ l0) (h : laws_markStringS.f k l0 a1 = some (r1, r2)) :
   Calls Try.prog 19 #[u9000_, .int .i64 a1] w fun e w' => e = .returned (.int .i64 r1) ∧ Kd.R Kd.string 9 w' w0.heap.size (fun k_ => (P0_ k_ ∨ w.heap.size ≤ k_)) u9000_ r2 ∧ Below w0.heap.size w0 w' ∧ Kept w w' (fun k_ => P0_ k_) := by
  have HO0 := Aside0.mk (show Kd.R Kd.string 9 w w0.heap.size (fun k_ => (P0_ k_ ∨ w.heap.size ≤ k_)) u9000_ l0 from Kd.R_mono ho0 (fun k_ hk => (.inl hk)))
  have HK := Aside0.mk (Kept.refl w (fun k_ => P0_ k_))
  have HW0 := Aside0.mk hB.size
  have HB := Aside0.mk hB
  clear hB
  have H : (laws_markStringS.l0 k l0 a1 0) = some (r1, r2) := h
  clear h
  have H' := Aside0.mk H
  clear H
  go_enter Try.func19, Try.ntmps19
  go_wp2
  go_loopg [1, 5] k (fun kq v1 v5 w' => ∃ (x0_1 : List ByteArray) (x1_1 : Int) (x5_1 : Int), v1 = .int .i64 x1_1 ∧ v5 = .int .i64 x5_1 ∧ Aside0 (laws_markStringS.l0 kq x0_1 x1_1 x5_1 = some (r1, r2)) ∧ Aside0 (kq ≤ k) ∧ Aside0 (Kd.R Kd.string 9 w' w0.heap.size (fun k_ => (P0_ k_ ∨ w.heap.size ≤ k_)) u9000_ x0_1) ∧ Aside0 (Kept w w' (fun k_ => P0_ k_)) ∧ Aside0 (Below w0.heap.size w0 w'))
  case atStart => exact ⟨(l0), (a1), (0), (by first | rfl | (simp; done) | (simp [*]; done)), (by first | rfl | (simp; done) | (simp [*]; done)), H', ⟨Nat.le_refl _⟩, ⟨by (with_reducible repeat (first | apply Kd.R_alloc | apply Kd.R_drewN | apply Kd.R_drew)); exact HO0.out⟩, ⟨by repeat (first | (with_reducible first | exact HK.out | apply Kept.alloc | apply Kept.drewN | apply Kept.drew) | exact HK.out)⟩, ⟨by repeat (first | (with_reducible first | exact HB.out | apply below_alloc | apply pw_below_drewN | apply below_drew1) | exact HB.out)⟩⟩
  case round =>
   clear H'
   try clear c1
   try clear p2
   obtain ⟨x0_1, x1_1, x5_1, rfl, rfl, HA, HK1, HO_0, HK, HB⟩ := hrel
   cases gk with
   | zero => exact absurd HA.out (by simp [laws_markStringS.l0])
   | succ k1 =>
    have H := HA.out
    clear HA
    simp only [laws_markStringS.l0] at H
    by_cases c3 : x5_1 < (x0_1.length : Int)
    ·rw [if_pos c3] at H
     have c3b0 : decide (x5_1 < (x0_1.length : Int)) = true := decide_eq_true c3
     clear c3
     replace H := Option.bind_eq_some_iff.mp H
     obtain ⟨t301, A40, H⟩ := H
     replace H : (if 0 ≤ x5_1 then (laws_markStringS.l0 k1 (x0_1.set (x5_1 : Int).toNat t301) (wrap64 (x1_1 + 1)) (wrap64 (x5_1 + 1))) else (none)) = some (r1, r2) := H
     have A4 := Aside0.mk A40
     clear A40
     by_cases c5 : 0 ≤ x5_1
     ·rw [if_pos c5] at H
      have c5b0 : decide (0 ≤ x5_1) = true := decide_eq_true c5
      clear c5
      obtain ⟨y302, hy302⟩ : ∃ y_ : List ByteArray, y_ = (x0_1.set (x5_1 : Int).toNat t301) := ⟨_, rfl⟩
      replace H : (laws_markStringS.l0 k1 y302 (wrap64 (x1_1 + 1)) (wrap64 (x5_1 + 1))) = some (r1, r2) := by first | (rw [hy302]; with_reducible exact H) | (have H2_ := (Option.bind_some _ _).symm.trans H; rw [hy302]; with_reducible exact H2_) | (have H2_ := (Option.bind_some _ _).symm.trans H; with_reducible exact H2_) | with_reducible exact H | (rw [hy302]; exact H) | exact H
      have Ny302 := Aside0.mk hy302
      clear hy302
      have H' := Aside0.mk H
      clear H
      obtain ⟨Ao7, co7, eo7⟩ := Kd.R_slice HO_0.out
      subst eo7
      go_wp2_with (first | ((with_reducible refine gate_callee (f := 53) rfl ?_); refine goesL_ (some 15) rfl rfl Try.func53 (by kernel_rfl) rfl #[.int .i64 x1_1] rfl (by (try simp only [List.map_toArray, List.map_cons, List.map_nil]); first | done | rfl | (simp only [List.length_drop, List.length_take]; rfl)) ?_; (with_reducible refine (laws_markText.calls k1 x1_1 t301 _ A4.out).mono ?_); rintro e w8 ⟨rfl, hb⟩; refine ⟨_, rfl, ?_⟩; have n0_ := Aside0.mk (Kd.R_below (by (with_reducible repeat (first | apply Kd.R_alloc | apply Kd.R_drewN | apply Kd.R_drew)); exact HO_0.out) hb); have n1_ := Aside0.mk (Kept.below (S := (fun k_ => P0_ k_)) (by repeat (first | (with_reducible first | exact HK.out | apply Kept.alloc | apply Kept.drewN | apply Kept.drew) | exact HK.out)) hb); have n2_ := Aside0.mk (below_step (by repeat (first | (with_reducible first | exact HB.out | apply below_alloc | apply pw_below_drewN | apply below_drew1) | exact HB.out)) hb); clear HO_0; clear HK; clear HB; have HO_0 := n0_; have HK := n1_; have HB := n2_; clear n0_ n1_ n2_; (try clear hb); (try clear hb2); (try clear hk); (try clear hi); have p6 : 0 ≤ (x5_1 : Int) := of_decide_eq_true (by first | (with_reducible assumption) | assumption); have q6 : (x5_1 : Int) < ((x0_1.length : Int) : Int) := of_decide_eq_true (by first | (with_reducible assumption) | assumption); obtain ⟨go6, co6, eo6, gb6, gl6, cl6, HG6⟩ := Kd.R_form HO_0.out (by omega); (first | cases eo6 | (injection eo6 with ea_ en_ ec_; (first | subst ea_ | (injection ea_ with ea_; subst ea_)); subst ec_; clear en_)); have GB6 := Aside0.mk gb6; have GG6 := Aside0.mk HG6; clear gb6 gl6 HG6; have HMgo6 := Aside0.mk (show (P0_ go6 ∨ w.heap.size ≤ go6) from (HO_0.out.1 _ rfl)); obtain ⟨hx6_0, hf6_0⟩ := Kd.R_celln (⟨#[]⟩ : ByteArray) HO_0.out (x5_1 : Int) p6 q6; replace p6 := eq_true p6; replace q6 := eq_true q6; obtain ⟨hy9_, hz9_⟩ := Kd.R_celln (⟨#[]⟩ : ByteArray) HO_0.out (x5_1 : Int) (of_decide_eq_true (by first | (with_reducible assumption) | assumption)) (of_decide_eq_true (by first | (with_reducible assumption) | assumption)); have HP9 := Kd.R_putg HO_0.out (x5_1 : Int) t301) | ((with_reducible refine gate_store (t := 9) (p := 16) rfl ?_); refine store_event (t := 9) (p := 16) (v := ?vo_w10) (w1 := (w8.setCell ⟨go6, (x5_1 : Int).toNat, none⟩ (.string t301))) ?hg ?ho ?hn ?hr ?_; (case ho => rfl); (case hg => rfl); (case hn => rfl); (case hr => first | (go_simp; done) | (go_simp; rfl)); intro w10 hw; have hg : w8.grownBy w10 (some go6) := (by rw [hw]; exact HP9.2); have hp_ : Kd.R Kd.string 9 w10 w0.heap.size (fun k_ => (P0_ k_ ∨ w.heap.size ≤ k_)) (.slice (some ⟨go6, 0, none⟩) x0_1.length co7) y302 := (by rw [hw, Ny302.out]; exact HP9.1); clear HP9; have n0_ := Aside0.mk (hp_); have n1_ := Aside0.mk ((by rw [hw]; exact below_set (HB.out) GB6.out : Below w0.heap.size w0 w10)); have n2_ := Aside0.mk (Kept.of_grown (S := (fun k_ => P0_ k_)) hg (by repeat (first | (with_reducible first | exact HK.out | apply Kept.alloc | apply Kept.drewN | apply Kept.drew) | exact HK.out)) (fun k_ e_ => (HO_0.out.1 k_ e_))); clear HO_0; clear HB; clear HK; have HO_0 := n0_; have HB := n1_; have HK := n2_; clear n0_ n1_ n2_; clear hg hw hp_))
      go_roundg k1
      case measure => have := HK1.out; omega
      case rel => exact ⟨(y302), (wrap64 (x1_1 + 1)), (wrap64 (x5_1 + 1)), (by first | rfl | (simp; done) | (simp [*]; done)), (by first | rfl | (simp; done) | (simp [*]; done)), H', ⟨by have := HK1.out; omega⟩, ⟨by (with_reducible repeat (first | apply Kd.R_alloc | apply Kd.R_drewN | apply Kd.R_drew)); exact HO_0.out⟩, ⟨by repeat (first | (with_reducible first | exact HK.out | apply Kept.alloc | apply Kept.drewN | apply Kept.drew) | exact HK.out)⟩, ⟨by repeat (first | (with_reducible first | exact HB.out | apply below_alloc | apply pw_below_drewN | apply below_drew1) | exact HB.out)⟩⟩
     ·rw [if_neg c5] at H
      exact absurd H (by simp)
    ·rw [if_neg c3] at H
     have c3b0 : decide (x5_1 < (x0_1.length : Int)) = false := decide_eq_false c3
     clear c3
     simp only [Option.some.injEq, Prod.mk.injEq] at H
     obtain ⟨rfl, rfl⟩ := H
     obtain ⟨Ao11, co11, eo11⟩ := Kd.R_slice HO_0.out
     subst eo11
     go_wp2
     go_ret
     exact ⟨by first | rfl | (simp [errW_none, errW_some] <;> rfl) | (simp [*, errW_none, errW_some] <;> rfl), by (with_reducible repeat (first | apply Kd.R_alloc | apply Kd.R_drewN | apply Kd.R_drew)); exact HO_0.out, by repeat (first | (with_reducible first | exact HB.out | apply below_alloc | apply pw_below_drewN | apply below_drew1) | exact HB.out), by repeat (first | (with_reducible first | exact HK.out | apply Kept.alloc | apply Kept.drewN | apply Kept.drew) | exact HK.out)⟩

/-! ### laws_heldStringS: function 20 -/
def laws_heldStringS.l0 : Nat → List ByteArray → Int → Int → Option (Int)
  | 0, _, _, _ => none
  | k + 1, x0, x1, x5 => if x5 < (x0.length : Int) then (if 0 ≤ x5 then ((laws_markText.f k x1).bind fun t304 => (if (rdOf ByteArray.empty x0 x5).toList = t304.toList then (laws_heldStringS.l0 k x0 (wrap64 (x1 + 1)) (wrap64 (x5 + 1))) else (some (-1)))) else (none)) else (some x1)
def laws_heldStringS.f (k : Nat) (l0 : List ByteArray) (a1 : Int) : Option (Int) := laws_heldStringS.l0 k l0 a1 0
theorem laws_heldStringS.mono_l : ∀ k, (∀ y0 y1 y2, LeO (laws_heldStringS.l0 k y0 y1 y2) (laws_heldStringS.l0 (k + 1) y0 y1 y2))
  | 0 => fun _ _ _ r h => by simp [laws_heldStringS.l0] at h
  | k + 1 => by
   have ih0 := laws_heldStringS.mono_l k
   ·intro y0 y1 y2
    unfold laws_heldStringS.l0
    repeat' first
    | (with_reducible exact ih0 _ _ _)
    | (with_reducible exact laws_markText.mono _ _)
    | (with_reducible exact LeO.refl _)
    | (with_reducible exact LeO.none _)
    | (with_reducible refine LeO.ite ?_ ?_)
    | (with_reducible refine LeO.bind ?_ (fun _ => ?_))
    | exact ih0 _ _ _
    | exact laws_markText.mono _ _
    | exact LeO.none _
    | refine LeO.ite ?_ ?_
    | refine LeO.bind ?_ (fun _ => ?_)
theorem laws_heldStringS.mono : ∀ a0 a1 k, LeO (laws_heldStringS.f k a0 a1) (laws_heldStringS.f (k + 1) a0 a1) := by
  intro a0 a1 k
  have ih0 := laws_heldStringS.mono_l k
  unfold laws_heldStringS.f
  repeat' first
    | (with_reducible exact ih0 _ _ _)
    | (with_reducible exact laws_markText.mono _ _)
    | (with_reducible exact LeO.refl _)
    | (with_reducible exact LeO.none _)
    | (with_reducible refine LeO.ite ?_ ?_)
    | (with_reducible refine LeO.bind ?_ (fun _ => ?_))
    | exact ih0 _ _ _
    | exact laws_markText.mono _ _
    | exact LeO.none _
    | refine LeO.ite ?_ ?_
    | refine LeO.bind ?_ (fun _ => ?_)
set_option maxHeartbeats 8000000 in
set_option maxRecDepth 100000 in
theorem laws_heldStringS.calls (k : Nat) (A0 : Option Addr) (c0 : Nat) (l0 : List ByteArray) (a1 : Int) (r : Int) (w : World) (hr0 : Kd.C Kd.string w A0 l0.length l0) (hc0 : l0.length ≤ c0) (h : laws_heldStringS.f k l0 a1 = some r) :
   Calls Try.prog 20 #[.slice A0 l0.length c0, .int .i64 a1] w fun e w' => e = .returned (.int .i64 r) ∧ Below w.heap.size w w' := by
  have HR0 := Aside0.mk hr0
  have HC0 := Aside0.mk hc0
  clear hr0 hc0
  have HB := Aside0.mk (Below.refl w.heap.size w)
  have H : (laws_heldStringS.l0 k l0 a1 0) = some r := h
  clear h
  have H' := Aside0.mk H
  clear H
  go_enter Try.func20, Try.ntmps20
  go_wp2
  go_loopg [1, 5] k (fun kq v1 v5 w' => ∃ (x1_1 : Int) (x5_1 : Int), v1 = .int .i64 x1_1 ∧ v5 = .int .i64 x5_1 ∧ Aside0 (laws_heldStringS.l0 kq l0 x1_1 x5_1 = some r) ∧ Aside0 (kq ≤ k) ∧ Aside0 (Below w.heap.size w w'))
  case atStart => exact ⟨(a1), (0), (by first | rfl | (simp; done) | (simp [*]; done)), (by first | rfl | (simp; done) | (simp [*]; done)), H', ⟨Nat.le_refl _⟩, ⟨by repeat (first | (with_reducible first | exact HB.out | apply below_alloc | apply pw_below_drewN | apply below_drew1) | exact HB.out)⟩⟩
  case round =>
   clear H'
   try clear c2
   try clear p2
   obtain ⟨x1_1, x5_1, rfl, rfl, HA, HK1, HB⟩ := hrel
   cases gk with
   | zero => exact absurd HA.out (by simp [laws_heldStringS.l0])
   | succ k1 =>
    have H := HA.out
    clear HA
    simp only [laws_heldStringS.l0] at H
    by_cases c3 : x5_1 < (l0.length : Int)
    ·rw [if_pos c3] at H
     have c3b0 : decide (x5_1 < (l0.length : Int)) = true := decide_eq_true c3
     clear c3
     by_cases c4 : 0 ≤ x5_1
     ·rw [if_pos c4] at H
      have c4b0 : decide (0 ≤ x5_1) = true := decide_eq_true c4
      clear c4
      replace H := Option.bind_eq_some_iff.mp H
      obtain ⟨t304, A50, H⟩ := H
      replace H : (if (rdOf ByteArray.empty l0 x5_1).toList = t304.toList then (laws_heldStringS.l0 k1 l0 (wrap64 (x1_1 + 1)) (wrap64 (x5_1 + 1))) else (some (-1))) = some r := H
      have A5 := Aside0.mk A50
      clear A50
      by_cases c6 : (rdOf ByteArray.empty l0 x5_1).toList = t304.toList
      ·rw [if_pos c6] at H
       have c6b0 : ((rdOf ByteArray.empty l0 x5_1).toList == t304.toList) = true := beq_iff_eq.mpr c6
       have c6b1 : ((rdOf ByteArray.empty l0 x5_1).toList != t304.toList) = false := bne_eq_false_iff_eq.mpr c6
       clear c6
       have H' := Aside0.mk H
       clear H
       try go_wp2
       have n0_ := Aside0.mk (below_drew1 HB.out)
       clear HB
       have HB := n0_
       clear n0_
       have p303 : 0 ≤ (x5_1 : Int) := of_decide_eq_true (by first | (with_reducible assumption) | assumption)
       have q303 : x5_1 < (l0.length : Int) := of_decide_eq_true (by first | (with_reducible assumption) | assumption)
       obtain ⟨ad303, e303, hx303_0⟩ := Kd.at_string HR0.out x5_1 p303 q303
       have hw303_0 := hx303_0
       cases e303
       try replace hx303_0 := (HB.out.cell (World.block_lt_of_cell? w _ hx303_0)).trans hx303_0
       replace p303 := eq_true p303
       replace q303 := eq_true q303
       refine start_ (n := 7) (S := fun w' => w'.cell? (ad303.add (x5_1).toNat) = some (.string (rdOf ByteArray.empty l0 x5_1))) (ds := []) #[false, false, false, false, false, false, false] (by kernel_rfl) rfl rfl (((HB.out.cell (World.block_lt_of_cell? w _ hw303_0)).trans hw303_0)) (fun hHeld => ?_)
       generalize wr.drew = w7 at HB hx303_0 hHeld ⊢
       refine pure_ (i := 0) (N := some 12) (v := ?_) (a' := ?_) #[true, false, false, false, false, false, false] rfl rfl (by kernel_rfl) (fun _ _ _ h => h) (Or.inl ⟨by rfl, ?_⟩) ?_ ?_
       rotate_left
       ·intro w'
        go_simp
        with_reducible rfl
       rotate_left
       ·simp only [Act.put, List.setIfInBounds_toArray, List.set_cons_zero, List.set_cons_succ, i64_w, i32_w]
        rfl
       refine pure_ (i := 1) (N := some 13) (v := ?_) (a' := ?_) #[true, true, false, false, false, false, false] rfl rfl (by kernel_rfl) (fun _ _ _ h => h) (Or.inl ⟨by rfl, ?_⟩) ?_ ?_
       rotate_left
       ·intro w'
        go_simp
        with_reducible rfl
       rotate_left
       ·simp only [Act.put, List.setIfInBounds_toArray, List.set_cons_zero, List.set_cons_succ, i64_w, i32_w]
        rfl
       refine pure_ (i := 2) (N := some 14) (v := ?_) (a' := ?_) #[true, true, true, false, false, false, false] rfl rfl (by kernel_rfl) (fun _ _ _ h => h) (Or.inl ⟨by rfl, ?_⟩) ?_ ?_
       rotate_left
       ·intro w'
        go_simp
        with_reducible rfl
       rotate_left
       ·simp only [Act.put, List.setIfInBounds_toArray, List.set_cons_zero, List.set_cons_succ, i64_w, i32_w]
        rfl
       refine pure_ (i := 4) (N := some 16) (v := ?_) (a' := ?_) #[true, true, true, false, true, false, false] rfl rfl (by kernel_rfl) (fun _ _ _ h => h) (Or.inl ⟨by rfl, ?_⟩) ?_ ?_
       rotate_left
       ·intro w'
        go_simp
        with_reducible rfl
       rotate_left
       ·simp only [Act.put, List.setIfInBounds_toArray, List.set_cons_zero, List.set_cons_succ, i64_w, i32_w]
        rfl
       refine take_ (i := 3) (N := some 15) (v := ?_) (a' := ?_) #[true, true, true, true, true, false, false] rfl rfl (by kernel_rfl) (fun _ _ _ h => h) (Or.inl ⟨by rfl, ?_⟩) hHeld ?_ ?_
       rotate_left
       ·intro w' s0
        go_simp
        with_reducible rfl
       rotate_left
       ·simp only [Act.put, List.setIfInBounds_toArray, List.set_cons_zero, List.set_cons_succ, i64_w, i32_w]
        rfl
       refine one_ (i := 5) (N := some 17) #[true, true, true, true, true, true, false] rfl rfl (by kernel_rfl) (by decide) (fun K hK => ?_)
       refine goes_ Try.func53 (by kernel_rfl) rfl #[.int .i64 x1_1] (by rfl) rfl rfl (by (try simp only [List.map_toArray, List.map_cons, List.map_nil]); first | done | rfl | (simp only [List.length_drop, List.length_take]; rfl)) ?_
       with_reducible refine (laws_markText.calls k1 x1_1 t304 _ A5.out).mono ?_
       rintro e w8 ⟨rfl, hb⟩
       refine ⟨_, rfl, ?_⟩
       have n0_ := Aside0.mk (below_step (by repeat (first | (with_reducible first | exact HB.out | apply below_alloc | apply pw_below_drewN | apply below_drew1) | exact HB.out)) hb)
       clear HB
       have HB := n0_
       clear n0_
       (try clear hb)
       (try clear hb2)
       (try clear hk)
       (try clear hi)
       refine hK.out _ _ (((HB.out.cell (World.block_lt_of_cell? w _ hw303_0)).trans hw303_0)) (fun hHeld => ?_)
       clear hK K
       refine norm_ (a' := ?_) ?_ ?_
       rotate_left
       ·show Act.put _ (some 17) _ = _
        simp only [Act.put, List.setIfInBounds_toArray, List.set_cons_zero, List.set_cons_succ, i64_w, i32_w]
        rfl
       refine pure_ (i := 6) (N := some 18) (v := ?_) (a' := ?_) #[true, true, true, true, true, true, true] rfl rfl (by kernel_rfl) (fun _ _ _ h => h) (Or.inl ⟨by rfl, ?_⟩) ?_ ?_
       rotate_left
       ·intro w'
        go_simp
        with_reducible rfl
       rotate_left
       ·simp only [Act.put, List.setIfInBounds_toArray, List.set_cons_zero, List.set_cons_succ, i64_w, i32_w]
        rfl
       refine done_ (by kernel_rfl) ?_
       try go_wp2
       go_roundg k1
       case measure => have := HK1.out; omega
       case rel => exact ⟨(wrap64 (x1_1 + 1)), (wrap64 (x5_1 + 1)), (by first | rfl | (simp; done) | (simp [*]; done)), (by first | rfl | (simp; done) | (simp [*]; done)), H', ⟨by have := HK1.out; omega⟩, ⟨by repeat (first | (with_reducible first | exact HB.out | apply below_alloc | apply pw_below_drewN | apply below_drew1) | exact HB.out)⟩⟩
      ·rw [if_neg c6] at H
       have c6b0 : ((rdOf ByteArray.empty l0 x5_1).toList == t304.toList) = false := beq_eq_false_iff_ne.mpr c6
       have c6b1 : ((rdOf ByteArray.empty l0 x5_1).toList != t304.toList) = true := bne_iff_ne.mpr c6
       obtain rfl := Option.some.inj H
       try go_wp2
       have n0_ := Aside0.mk (below_drew1 HB.out)
       clear HB
       have HB := n0_
       clear n0_
       have p303 : 0 ≤ (x5_1 : Int) := of_decide_eq_true (by first | (with_reducible assumption) | assumption)
       have q303 : x5_1 < (l0.length : Int) := of_decide_eq_true (by first | (with_reducible assumption) | assumption)
       obtain ⟨ad303, e303, hx303_0⟩ := Kd.at_string HR0.out x5_1 p303 q303
       have hw303_0 := hx303_0
       cases e303
       try replace hx303_0 := (HB.out.cell (World.block_lt_of_cell? w _ hx303_0)).trans hx303_0
       replace p303 := eq_true p303
       replace q303 := eq_true q303
       refine start_ (n := 7) (S := fun w' => w'.cell? (ad303.add (x5_1).toNat) = some (.string (rdOf ByteArray.empty l0 x5_1))) (ds := []) #[false, false, false, false, false, false, false] (by kernel_rfl) rfl rfl (((HB.out.cell (World.block_lt_of_cell? w _ hw303_0)).trans hw303_0)) (fun hHeld => ?_)
       generalize wr.drew = w9 at HB hx303_0 hHeld ⊢
       refine pure_ (i := 0) (N := some 12) (v := ?_) (a' := ?_) #[true, false, false, false, false, false, false] rfl rfl (by kernel_rfl) (fun _ _ _ h => h) (Or.inl ⟨by rfl, ?_⟩) ?_ ?_
       rotate_left
       ·intro w'
        go_simp
        with_reducible rfl
       rotate_left
       ·simp only [Act.put, List.setIfInBounds_toArray, List.set_cons_zero, List.set_cons_succ, i64_w, i32_w]
        rfl
       refine pure_ (i := 1) (N := some 13) (v := ?_) (a' := ?_) #[true, true, false, false, false, false, false] rfl rfl (by kernel_rfl) (fun _ _ _ h => h) (Or.inl ⟨by rfl, ?_⟩) ?_ ?_
       rotate_left
       ·intro w'
        go_simp
        with_reducible rfl
       rotate_left
       ·simp only [Act.put, List.setIfInBounds_toArray, List.set_cons_zero, List.set_cons_succ, i64_w, i32_w]
        rfl
       refine pure_ (i := 2) (N := some 14) (v := ?_) (a' := ?_) #[true, true, true, false, false, false, false] rfl rfl (by kernel_rfl) (fun _ _ _ h => h) (Or.inl ⟨by rfl, ?_⟩) ?_ ?_
       rotate_left
       ·intro w'
        go_simp
        with_reducible rfl
       rotate_left
       ·simp only [Act.put, List.setIfInBounds_toArray, List.set_cons_zero, List.set_cons_succ, i64_w, i32_w]
        rfl
       refine pure_ (i := 4) (N := some 16) (v := ?_) (a' := ?_) #[true, true, true, false, true, false, false] rfl rfl (by kernel_rfl) (fun _ _ _ h => h) (Or.inl ⟨by rfl, ?_⟩) ?_ ?_
       rotate_left
       ·intro w'
        go_simp
        with_reducible rfl
       rotate_left
       ·simp only [Act.put, List.setIfInBounds_toArray, List.set_cons_zero, List.set_cons_succ, i64_w, i32_w]
        rfl
       refine take_ (i := 3) (N := some 15) (v := ?_) (a' := ?_) #[true, true, true, true, true, false, false] rfl rfl (by kernel_rfl) (fun _ _ _ h => h) (Or.inl ⟨by rfl, ?_⟩) hHeld ?_ ?_
       rotate_left
       ·intro w' s0
        go_simp
        with_reducible rfl
       rotate_left
       ·simp only [Act.put, List.setIfInBounds_toArray, List.set_cons_zero, List.set_cons_succ, i64_w, i32_w]
        rfl
       refine one_ (i := 5) (N := some 17) #[true, true, true, true, true, true, false] rfl rfl (by kernel_rfl) (by decide) (fun K hK => ?_)
       refine goes_ Try.func53 (by kernel_rfl) rfl #[.int .i64 x1_1] (by rfl) rfl rfl (by (try simp only [List.map_toArray, List.map_cons, List.map_nil]); first | done | rfl | (simp only [List.length_drop, List.length_take]; rfl)) ?_
       with_reducible refine (laws_markText.calls k1 x1_1 t304 _ A5.out).mono ?_
       rintro e w10 ⟨rfl, hb⟩
       refine ⟨_, rfl, ?_⟩
       have n0_ := Aside0.mk (below_step (by repeat (first | (with_reducible first | exact HB.out | apply below_alloc | apply pw_below_drewN | apply below_drew1) | exact HB.out)) hb)
       clear HB
       have HB := n0_
       clear n0_
       (try clear hb)
       (try clear hb2)
       (try clear hk)
       (try clear hi)
       refine hK.out _ _ (((HB.out.cell (World.block_lt_of_cell? w _ hw303_0)).trans hw303_0)) (fun hHeld => ?_)
       clear hK K
       refine norm_ (a' := ?_) ?_ ?_
       rotate_left
       ·show Act.put _ (some 17) _ = _
        simp only [Act.put, List.setIfInBounds_toArray, List.set_cons_zero, List.set_cons_succ, i64_w, i32_w]
        rfl
       refine pure_ (i := 6) (N := some 18) (v := ?_) (a' := ?_) #[true, true, true, true, true, true, true] rfl rfl (by kernel_rfl) (fun _ _ _ h => h) (Or.inl ⟨by rfl, ?_⟩) ?_ ?_
       rotate_left
       ·intro w'
        go_simp
        with_reducible rfl
       rotate_left
       ·simp only [Act.put, List.setIfInBounds_toArray, List.set_cons_zero, List.set_cons_succ, i64_w, i32_w]
        rfl
       refine done_ (by kernel_rfl) ?_
       try go_wp2
       go_ret
       exact ⟨by first | rfl | (simp [errW_none, errW_some] <;> rfl) | (simp [*, errW_none, errW_some] <;> rfl), by repeat (first | (with_reducible first | exact HB.out | apply below_alloc | apply pw_below_drewN | apply below_drew1) | exact HB.out)⟩
     ·rw [if_neg c4] at H
      exact absurd H (by simp)
    ·rw [if_neg c3] at H
     have c3b0 : decide (x5_1 < (l0.length : Int)) = false := decide_eq_false c3
     clear c3
     obtain rfl := Option.some.inj H
     go_wp2
     go_ret
     exact ⟨by first | rfl | (simp [errW_none, errW_some] <;> rfl) | (simp [*, errW_none, errW_some] <;> rfl), by repeat (first | (with_reducible first | exact HB.out | apply below_alloc | apply pw_below_drewN | apply below_drew1) | exact HB.out)⟩

/-! ### laws_FnExactFillsOf: function 5 (given) -/
def laws_FnExactFillsOf.g (k : Nat) (a0_0 a0_1 : Int) (a0_2 a1 : ByteArray) (l2 : List ByteArray) (a3 : Int) : Option Bool := (laws_toGrid.f a0_0 a0_1 a0_2).bind fun g => (laws_toStringS.f k l2).bind fun x => (spec_FillsOf.f k g.1 g.2.1 g.2.2 a1 x a3).bind fun t => (impl_FillsOf.f k g.1 g.2.1 g.2.2 a1 x a3).bind fun u => (laws_eqStringS.f k u t).bind fun b => (laws_eqStringS.f k x x).bind fun b2 => (laws_markStringS.f k x 1).bind fun n => (laws_markStringS.f k u 1).bind fun m => (laws_heldStringS.f k m.2 1).bind fun q => if b = true ∧ b2 = true ∧ 0 ≤ n.1 ∧ 0 ≤ q ∧ q = m.1 then some true else none
def laws_FnExactFillsOf.f (k : Nat) (a0_0 a0_1 : Int) (a0_2 a1 : ByteArray) (l2 : List ByteArray) (a3 : Int) : Option Bool := if (a1.size : Int) > 1048576 then some true else (laws_szGrid.f a0_0 a0_1 a0_2 1048576).bind fun s1 => if s1 < 0 then some true else (laws_szStringS.f k l2 s1).bind fun s2 => if s2 < 0 then some true else laws_FnExactFillsOf.g k a0_0 a0_1 a0_2 a1 l2 a3
theorem flw_box_cell {w w1 : World} {cs : Array Value} {t : TypeId} (hb : Below (w.alloc (.cells cs t)).heap.size (w.alloc (.cells cs t)) w1) (j : Nat) (v : Value) (h : cs[j]? = some v) : w1.cell? ⟨w.heap.size, j, none⟩ = some v := by
  have h1 : (⟨w.heap.size, j, none⟩ : Addr).block < (w.alloc (.cells cs t)).heap.size := by simp [World.alloc, -World.alloc_eq]
  rw [hb.cell h1]
  simp [World.cell?, World.alloc, -World.alloc_eq, h]
set_option maxHeartbeats 1600000 in
set_option maxRecDepth 100000 in
theorem laws_FnExactFillsOf.calls (k : Nat) (a0_0 a0_1 : Int) (a0_2 a1 : ByteArray) (A2 : Option Addr) (c2 : Nat) (l2 : List ByteArray) (a3 : Int) (r : Bool) (w : World) (hr2 : Kd.C Kd.string w A2 l2.length l2) (hc2 : l2.length ≤ c2) (h : laws_FnExactFillsOf.f k a0_0 a0_1 a0_2 a1 l2 a3 = some r) :
    Calls Try.prog 5 #[.agg #[.int .i64 a0_0, .int .i64 a0_1, .string a0_2], .string a1, .slice A2 l2.length c2, .int .i64 a3] w fun e w' => e = .returned (.bool r) ∧ Below w.heap.size w w' := by
  unfold laws_FnExactFillsOf.f at h
  have HP := Aside0.mk hr2
  have HPC := Aside0.mk hc2
  clear hr2 hc2
  by_cases hb : (a1.size : Int) > 1048576
  · rw [if_pos hb] at h
    injection h with h
    subst h
    have cb0 : decide ((1048576 : Int) < (a1.size : Int)) = true := decide_eq_true hb
    clear hb
    go_enter Try.func5, Try.ntmps5
    go_wp2
    go_ret
    exact ⟨rfl, by repeat (first | exact Below.refl _ _ | apply below_alloc | apply pw_below_drewN | apply below_drew1)⟩
  · rw [if_neg hb] at h
    have cb0 : decide ((1048576 : Int) < (a1.size : Int)) = false := decide_eq_false hb
    clear hb
    obtain ⟨s1, h1, h⟩ := Option.bind_eq_some_iff.mp h
    have kz := fun W => laws_szGrid.calls a0_0 a0_1 a0_2 1048576 s1 W h1
    clear h1
    by_cases hs1 : s1 < 0
    · rw [if_pos hs1] at h
      injection h with h
      subst h
      have cb1 : decide (s1 < 0) = true := decide_eq_true hs1
      clear hs1
      go_enter Try.func5, Try.ntmps5
      go_wp2_with fail
      go_at_call 8
      refine (kz _).mono ?_
      rintro e w1 ⟨rfl, hb1⟩
      have HB1 := Aside0.mk (below_step (w := w) (by repeat (first | exact Below.refl _ _ | apply below_alloc | apply pw_below_drewN | apply below_drew1)) hb1)
      clear hb1
      go_wp2_with fail
      go_ret
      exact ⟨rfl, HB1.out⟩
    · rw [if_neg hs1] at h
      have cb1 : decide (s1 < 0) = false := decide_eq_false hs1
      clear hs1
      obtain ⟨s2, h2, h⟩ := Option.bind_eq_some_iff.mp h
      have kz2 := fun A c W hr hc => laws_szStringS.calls k A c l2 s1 s2 W hr hc h2
      clear h2
      by_cases hs2 : s2 < 0
      · rw [if_pos hs2] at h
        injection h with h
        subst h
        have cb2 : decide (s2 < 0) = true := decide_eq_true hs2
        clear hs2
        go_enter Try.func5, Try.ntmps5
        go_wp2_with fail
        go_at_call 8
        refine (kz _).mono ?_
        rintro e w1 ⟨rfl, hb1⟩
        have HB1 := Aside0.mk (below_step (w := w) (by repeat (first | exact Below.refl _ _ | apply below_alloc | apply pw_below_drewN | apply below_drew1)) hb1)
        clear hb1
        go_wp2_with fail
        go_at_call 9
        refine (kz2 _ _ _ (Kd.C_below HP.out HB1.out) HPC.out).mono ?_
        rintro e w' ⟨rfl, nd, rfl⟩
        go_wp2_with fail
        go_ret
        exact ⟨rfl, pw_below_drewN HB1.out _⟩
      · rw [if_neg hs2] at h
        have cb2 : decide (s2 < 0) = false := decide_eq_false hs2
        clear hs2
        unfold laws_FnExactFillsOf.g at h
        obtain ⟨g, hg, h⟩ := Option.bind_eq_some_iff.mp h
        obtain ⟨x, hx, h⟩ := Option.bind_eq_some_iff.mp h
        obtain ⟨t, ht, h⟩ := Option.bind_eq_some_iff.mp h
        obtain ⟨u, hu, h⟩ := Option.bind_eq_some_iff.mp h
        obtain ⟨b, he, h⟩ := Option.bind_eq_some_iff.mp h
        obtain ⟨b2, he2, h⟩ := Option.bind_eq_some_iff.mp h
        obtain ⟨n, hn, h⟩ := Option.bind_eq_some_iff.mp h
        obtain ⟨m, hm, h⟩ := Option.bind_eq_some_iff.mp h
        obtain ⟨q, hq, h⟩ := Option.bind_eq_some_iff.mp h
        obtain ⟨g1, g2, g3⟩ := g
        obtain ⟨m1, m2⟩ := m
        obtain ⟨n1, n2⟩ := n
        by_cases hc : b = true ∧ b2 = true ∧ 0 ≤ n1 ∧ 0 ≤ q ∧ q = m1
        · rw [if_pos hc] at h
          injection h with h
          subst h
          obtain ⟨rfl, rfl, hn0, hq0, rfl⟩ := hc
          have cb3 : decide (n1 < 0) = false := by simp; omega
          have cb4 : decide (q < 0) = false := by simp; omega
          have cb5 : (q != q) = false := by simp
          have kg := fun W => laws_toGrid.calls a0_0 a0_1 a0_2 g1 g2 g3 W hg
          have kx := fun A c W hr hc => laws_toStringS.calls k A c l2 x W hr hc hx
          have ks := fun A c W hr hc => spec_FillsOf.calls k g1 g2 g3 a1 A c x a3 t W hr hc ht
          have ki := fun A c W hr hc => impl_FillsOf.calls k g1 g2 g3 a1 A c x a3 u W hr hc hu
          have ke := fun A0 c0 A1 c1 W h0 h1 h2 h3 => laws_eqStringS.calls k A0 c0 u A1 c1 t true W h0 h1 h2 h3 he
          have ke2 := fun A0 c0 A1 c1 W h0 h1 h2 h3 => laws_eqStringS.calls k A0 c0 x A1 c1 x true W h0 h1 h2 h3 he2
          have kn := fun (P0_ : Nat → Prop) v w0 W hB ho => laws_markStringS.calls k P0_ v x 1 n1 n2 w0 W hB ho hn
          have km := fun (P0_ : Nat → Prop) v w0 W hB ho => laws_markStringS.calls k P0_ v u 1 q m2 w0 W hB ho hm
          have kh := fun A c W hr hc => laws_heldStringS.calls k A c m2 1 q W hr hc hq
          clear hg hx ht hu hm hq he he2 hn
          go_enter Try.func5, Try.ntmps5
          go_wp2_with fail
          go_at_call 8
          refine (kz _).mono ?_
          rintro e w1 ⟨rfl, hb1⟩
          have HB1 := Aside0.mk hb1
          have HPB := Aside0.mk (Kd.C_below HP.out (below_alloc (Below.refl _ _) (.cells #[.int .i64 a0_0, .int .i64 a0_1, .string a0_2] 23)))
          have BX := Aside0.mk (fun W (hb : Below (w.alloc (.cells #[.int .i64 a0_0, .int .i64 a0_1, .string a0_2] 23)).heap.size (w.alloc (.cells #[.int .i64 a0_0, .int .i64 a0_1, .string a0_2] 23)) W) => (⟨flw_box_cell hb 0 _ rfl, flw_box_cell hb 1 _ rfl, flw_box_cell hb 2 _ rfl⟩ : W.cell? ⟨w.heap.size, 0, none⟩ = some (.int .i64 a0_0) ∧ W.cell? ⟨w.heap.size, 1, none⟩ = some (.int .i64 a0_1) ∧ W.cell? ⟨w.heap.size, 2, none⟩ = some (.string a0_2)))
          clear hb1
          go_wp2_with fail
          go_at_call 9
          refine (kz2 _ _ _ (Kd.C_below HPB.out HB1.out) HPC.out).mono ?_
          rintro e w' ⟨rfl, nd, rfl⟩
          have HB2 := Aside0.mk (pw_below_drewN HB1.out nd)
          clear HB1
          generalize w1.drewN nd = w2 at HB2 ⊢
          obtain ⟨x0, x1, x2⟩ := BX.out _ HB2.out
          go_wp2_with fail
          go_at_call 11
          refine (kg _).mono ?_
          rintro e w3 ⟨rfl, hb⟩
          clear x0 x1 x2
          have HB3 := Aside0.mk (below_step HB2.out hb)
          clear hb
          go_wp2_with fail
          go_at_call 12
          refine (kx _ _ _ (Kd.C_below HPB.out HB3.out) HPC.out).mono ?_
          rintro e w4 ⟨va, rfl, ho, hb⟩
          obtain ⟨Aa, ca, rfl⟩ := Kd.R_slice ho
          have HB4 := Aside0.mk (below_step HB3.out hb)
          have HOa := Aside0.mk ho
          clear hb ho HB2 HB3 kz kz2
          go_wp2_with fail
          go_at_call 17
          refine (ks _ _ _ (Kd.R_reads' HOa.out).2.2 (Kd.R_reads' HOa.out).2.1).mono ?_
          rintro e w5 ⟨v0, rfl, hs, hb⟩
          obtain ⟨A0, c0, rfl⟩ := Kd.R_slice hs
          have HB5 := Aside0.mk (below_step HB4.out hb)
          have HC0 := Aside0.mk (Kd.R_reads' hs).2
          clear hb hs HOa HB4 ks
          go_wp2_with fail
          go_at_call 12
          refine (kx _ _ _ (Kd.C_below HPB.out HB5.out) HPC.out).mono ?_
          rintro e w6 ⟨vx, rfl, ho, hb⟩
          obtain ⟨Ax, cx, rfl⟩ := Kd.R_slice ho
          have HD6 := Aside0.mk hb
          have HX6 := Aside0.mk ho
          have HL6 := Aside0.mk (Kd.R_lt ho)
          clear hb ho
          obtain ⟨x0, x1, x2⟩ := BX.out _ (below_step HB5.out HD6.out)
          go_wp2_with fail
          go_at_call 11
          refine (kg _).mono ?_
          rintro e w7 ⟨rfl, hb⟩
          clear x0 x1 x2
          have HD7 := Aside0.mk (below_step HD6.out hb)
          have HX7 := Aside0.mk (Kd.R_below HX6.out hb)
          have HZ7 := Aside0.mk hb.size
          clear hb HX6
          go_wp2_with fail
          go_at_call 18
          refine (ki _ _ _ (Kd.R_reads' HX7.out).2.2 (Kd.R_reads' HX7.out).2.1).mono ?_
          rintro e w8 ⟨v1, rfl, hs, hb⟩
          obtain ⟨A1, c1, rfl⟩ := Kd.R_slice hs
          have HD8 := Aside0.mk (below_step HD7.out hb)
          have HX8 := Aside0.mk (Kd.R_below HX7.out hb)
          have HS8 := Aside0.mk hs
          have HZ8 := Aside0.mk HD7.out.size
          clear hb hs HX7 HD6
          go_wp2_with fail
          go_at_call 14
          refine (ke _ _ _ _ _ (Kd.R_reads' HS8.out).2.2 (Kd.R_reads' HS8.out).2.1 (Kd.C_below HC0.out.2 HD8.out) HC0.out.1).mono ?_
          rintro e w' ⟨rfl, nd, rfl⟩
          have HD9 := Aside0.mk (pw_below_drewN HD8.out nd)
          have HX9 := Aside0.mk (Kd.R_drewN HX8.out nd)
          have HS9 := Aside0.mk (Kd.R_drewN HS8.out nd)
          clear HD8 HX8 HS8
          generalize w8.drewN nd = w9 at HD9 HX9 HS9 ⊢
          go_wp2_with fail
          go_at_call 12
          refine (kx _ _ _ (Kd.C_below HPB.out (below_step HB5.out HD9.out)) HPC.out).mono ?_
          rintro e w10 ⟨vb, rfl, ho, hb⟩
          obtain ⟨Ab, cb, rfl⟩ := Kd.R_slice ho
          have HD10 := Aside0.mk (below_step HD9.out hb)
          have HX10 := Aside0.mk (Kd.R_below HX9.out hb)
          have HS10 := Aside0.mk (Kd.R_below HS9.out hb)
          have HO10 := Aside0.mk ho
          clear hb ho HD9 HX9 HS9
          go_wp2_with fail
          go_at_call 14
          refine (ke2 _ _ _ _ _ (Kd.R_reads' HX10.out).2.2 (Kd.R_reads' HX10.out).2.1 (Kd.R_reads' HO10.out).2.2 (Kd.R_reads' HO10.out).2.1).mono ?_
          rintro e w' ⟨rfl, nd, rfl⟩
          have HD11 := Aside0.mk (pw_below_drewN HD10.out nd)
          have HX11 := Aside0.mk (Kd.R_drewN HX10.out nd)
          have HS11 := Aside0.mk (Kd.R_drewN HS10.out nd)
          clear HD10 HX10 HS10 HO10
          generalize w10.drewN nd = w11 at HD11 HX11 HS11 ⊢
          go_wp2_with fail
          go_at_call 19
          refine (kn (fun k_ => some k_ = (Value.slice Ax x.length cx).ownBlock) _ w5 _ HD11.out (Kd.R_tight rfl HX11.out)).mono ?_
          rintro e w12 ⟨rfl, _, hb, hk⟩
          have HD12 := Aside0.mk hb
          have HS12 := Aside0.mk (Kd.R_mono (Kd.R_kept (Kd.R_bound HS11.out) hk (fun k_ hk_ he_ => by have h1_ := HL6.out k_ he_.symm; have h2_ := hk_.2.1; have h3_ := HZ7.out; omega)) (fun _ _ => trivial : ∀ k_, _ → (fun _ => True) k_))
          clear hb hk HD11 HX11 HS11 kn
          go_wp2_with fail
          go_at_call 14
          refine (ke _ _ _ _ _ (Kd.R_reads' HS12.out).2.2 (Kd.R_reads' HS12.out).2.1 (Kd.C_below HC0.out.2 HD12.out) HC0.out.1).mono ?_
          rintro e w' ⟨rfl, nd, rfl⟩
          have HD13 := Aside0.mk (pw_below_drewN HD12.out nd)
          have HS13 := Aside0.mk (Kd.R_drewN HS12.out nd)
          clear HD12 HS12
          generalize w12.drewN nd = w13 at HD13 HS13 ⊢
          go_wp2_with fail
          go_at_call 19
          refine (km (fun _ => True) _ w5 _ HD13.out (Kd.R_lower HS13.out HZ8.out)).mono ?_
          rintro e w14 ⟨rfl, hs, hb, _⟩
          obtain ⟨A4, c4, e4⟩ := Kd.R_slice hs
          injection e4 with e5 hlen e6
          rw [← hlen] at kh
          have HS14 := Aside0.mk hs
          have HD14 := Aside0.mk hb
          have HL := Aside0.mk hlen
          clear hs hb km hlen e5 e6 HD13 HS13
          go_wp2_with fail
          go_at_call 20
          refine (kh _ _ _ (by have := (Kd.R_reads' HS14.out).2.2; rwa [← HL.out] at this) (by have := (Kd.R_reads' HS14.out).2.1; exact this)).mono ?_
          rintro e w15 ⟨rfl, hb⟩
          have HD15 := Aside0.mk (below_step HD14.out hb)
          have HS15 := Aside0.mk (Kd.R_below HS14.out hb)
          clear hb HD14 HS14
          obtain ⟨x0, x1, x2⟩ := BX.out _ (below_step HB5.out HD15.out)
          go_wp2_with fail
          go_at_call 11
          refine (kg _).mono ?_
          rintro e w16 ⟨rfl, hb⟩
          clear x0 x1 x2
          have HD16 := Aside0.mk (below_step HD15.out hb)
          have HS16 := Aside0.mk (Kd.R_below HS15.out hb)
          clear hb HD15 HS15
          go_wp2_with fail
          go_at_call 12
          refine (kx _ _ _ (Kd.C_below HPB.out (below_step HB5.out HD16.out)) HPC.out).mono ?_
          rintro e w17 ⟨vc, rfl, ho, hb⟩
          obtain ⟨Ac, cc, rfl⟩ := Kd.R_slice ho
          have HD17 := Aside0.mk (below_step HD16.out hb)
          have HS17 := Aside0.mk (Kd.R_below HS16.out hb)
          have HO17 := Aside0.mk ho
          clear hb ho HD16 HS16
          go_wp2_with fail
          go_at_call 18
          refine (ki _ _ _ (Kd.R_reads' HO17.out).2.2 (Kd.R_reads' HO17.out).2.1).mono ?_
          rintro e w18 ⟨v2, rfl, hs, hb⟩
          obtain ⟨A6, c6, rfl⟩ := Kd.R_slice hs
          have HD18 := Aside0.mk (below_step HD17.out hb)
          have HS18 := Aside0.mk (Kd.R_below HS17.out hb)
          have HT18 := Aside0.mk hs
          clear hb hs HD17 HS17 HO17
          go_wp2_with fail
          go_at_call 14
          refine (ke _ _ _ _ _ (Kd.R_reads' HT18.out).2.2 (Kd.R_reads' HT18.out).2.1 (Kd.C_below HC0.out.2 HD18.out) HC0.out.1).mono ?_
          rintro e w' ⟨rfl, nd, rfl⟩
          have HD19 := Aside0.mk (pw_below_drewN HD18.out nd)
          have HS19 := Aside0.mk (Kd.R_drewN HS18.out nd)
          clear HD18 HS18 HT18
          generalize w18.drewN nd = w19 at HD19 HS19 ⊢
          go_wp2_with fail
          go_at_call 20
          refine (kh _ _ _ (by have := (Kd.R_reads' HS19.out).2.2; rwa [← HL.out] at this) (by have := (Kd.R_reads' HS19.out).2.1; exact this)).mono ?_
          rintro e w20 ⟨rfl, hb⟩
          have HD20 := Aside0.mk (below_step HB5.out (below_step HD19.out hb))
          clear hb
          go_wp2_with fail
          go_ret
          exact ⟨rfl, below_step (w := w) (below_alloc (Below.refl _ _) _) HD20.out⟩
        · rw [if_neg (by simpa using hc)] at h
          cases h


end Go.Proofs.Ytodcckiphdnjeaa.QFnExactFillsOf
