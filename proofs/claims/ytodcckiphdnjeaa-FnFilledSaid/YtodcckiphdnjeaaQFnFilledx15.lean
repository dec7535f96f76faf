-- Written by a changed copy of the kit's printer (wip/mp.py of this repo), for this claim; Lean checks it.
import Derived.Test.YtodcckiphdnjeaaQFnFilledx0
import Derived.Test.YtodcckiphdnjeaaQFnFilledx10
import Derived.Test.YtodcckiphdnjeaaQFnFilledx12
import Derived.Test.YtodcckiphdnjeaaQFnFilledx14
namespace Go.Proofs.Ytodcckiphdnjeaa.QFnFilled
open Go.RowKit Go.Proofs.YtodcckiphdnjeaaW.PrintWords Go.Proofs.YtodcckiphdnjeaaW.PrintLast Go.Proofs.YtodcckiphdnjeaaW.PrintMore
attribute [local go_sem] max2_int min2_int max_two min_two max_three min_three max_four min_four   -- for this text's walks alone
set_option linter.unusedVariables false
set_option linter.unusedSimpArgs false
theorem yields_one {P : Program} {ops : Array Oper} {Q : Exit → Act → World → Prop} {oi : Oper} {N : Option Tmp} {v : Value} {a : Act} {w : World} {K : Act → World → Prop} (hw : Region.wanted oi (yielded ops a.tmps) = true) (hN : oi.dst = N) (hrun : (execOp a.eval oi).run P w = .ok (.value v) w) (h : K (a.put N v) w) : if Region.wanted oi (yielded ops a.tmps) = true then Oper.wp P oi a w K Q else K (a.put N undef) w := by
  rw [if_pos hw]
  subst hN; unfold Oper.wp
  rw [hrun, Oper.upon_value]
  exact h

theorem bc3_15_ {W : World} {g : Nat} {v0 v1 v2 : Value} {t : TypeId} (h : W.heap[g]? = some (.cells #[v0, v1, v2] t (0, 0))) : W.cell? ⟨g, 0, none⟩ = some v0 ∧ W.cell? ⟨g, 1, none⟩ = some v1 ∧ W.cell? ⟨g, 2, none⟩ = some v2 ∧ W.frozen? ⟨g, 0, none⟩ = false ∧ W.frozen? ⟨g, 1, none⟩ = false ∧ W.frozen? ⟨g, 2, none⟩ = false := ⟨(blk_cell h 0).trans rfl, (blk_cell h 1).trans rfl, (blk_cell h 2).trans rfl, blk_frozen h 0, blk_frozen h 1, blk_frozen h 2⟩
theorem bd15_ {p q : Prop} (h0 : q) (h : q → p := by intro h_; (with_reducible repeat (first | refine blk_drewN ?_ _ | refine blk_drew ?_ | refine blk_alloc ?_ _)); exact h_) : p := h h0
theorem z15_0 {p : Prop} (h : p := by repeat (first | (with_reducible first | exact HB.out | apply below_alloc | apply pw_below_drewN | apply below_drew1 | refine below_set ?_ GE293.out) | exact HB.out)) : p := h
theorem z15_1 {p : Prop} (h : p := by first | (with_reducible assumption) | assumption) : p := h
theorem z15_2 {p : Prop} (h : p := by (try simp only [List.map_toArray, List.map_cons, List.map_nil]); first | done | rfl | (simp only [List.length_drop, List.length_take]; rfl)) : p := h
theorem z15_3 {p : Prop} (h : p := by repeat (first | (with_reducible first | exact HB.out | apply below_alloc | apply pw_below_drewN | apply below_drew1) | exact HB.out)) : p := h
theorem z15_4 {p : Prop} (h : p := by first | rfl | (simp; done) | (simp [*]; done)) : p := h
theorem z15_5 {p : Prop} (h : p := by repeat (first | exact Drawn0.refl _ | apply Drawn0.step)) : p := h
theorem pt15_ : (∀ (l : List Value) (i : Nat) (x : Value), l.toArray.setIfInBounds i x = (l.set i x).toArray) ∧ (∀ (a : Value) (l : List Value) (x : Value), (a :: l).set 0 x = x :: l) ∧ (∀ (a : Value) (l : List Value) (i : Nat) (x : Value), (a :: l).set (i + 1) x = a :: l.set i x) := ⟨fun _ _ _ => List.setIfInBounds_toArray .., fun _ _ _ => rfl, fun _ _ _ _ => rfl⟩
/-! ### spec_FitsPattern: function 101 -/
mutual
def spec_FitsPattern.j0 : Nat → ByteArray → ByteArray → Bool → Option (Bool)
  | 0, _, _, _ => none
  | k + 1, x0, x1, x20 => if x20 = true then (some false) else (spec_FitsPattern.l0 k x0 x1 0)
def spec_FitsPattern.l0 : Nat → ByteArray → ByteArray → Int → Option (Bool)
  | 0, _, _, _ => none
  | k + 1, x0, x1, x5 => if x5 < (x0.size : Int) then (if 0 ≤ x5 then (if (bt x0 x5) = 63 then (spec_FitsPattern.l0 k x0 x1 (wrap64 (x5 + 1))) else (if x5 < (x1.size : Int) then (if (bt x0 x5) = (bt x1 x5) then (spec_FitsPattern.l0 k x0 x1 (wrap64 (x5 + 1))) else (some false)) else (none))) else (none)) else (some true)
end
def spec_FitsPattern.f (k : Nat) (a0 : ByteArray) (a1 : ByteArray) : Option (Bool) := (spec_IsPattern.f k a0).bind fun t291 => (if t291 = true then ((spec_IsWord.f k a1).bind fun t292 => (if t292 = true then (spec_FitsPattern.j0 k a0 a1 ((a0.size : Int) != (a1.size : Int))) else (spec_FitsPattern.j0 k a0 a1 true))) else (spec_FitsPattern.j0 k a0 a1 true))
theorem spec_FitsPattern.mono_l : ∀ k, (∀ y0 y1 y2, LeO (spec_FitsPattern.j0 k y0 y1 y2) (spec_FitsPattern.j0 (k + 1) y0 y1 y2)) ∧ (∀ y0 y1 y2, LeO (spec_FitsPattern.l0 k y0 y1 y2) (spec_FitsPattern.l0 (k + 1) y0 y1 y2))
  | 0 => ⟨fun _ _ _ r h => by simp [spec_FitsPattern.j0] at h, fun _ _ _ r h => by simp [spec_FitsPattern.l0] at h⟩
  | k + 1 => by
   obtain ⟨ih0, ih1⟩ := spec_FitsPattern.mono_l k; refine ⟨?_, ?_⟩
   ·intro y0 y1 y2
    unfold spec_FitsPattern.j0
    with_reducible repeat' first
    | exact ih0 _ _ _
    | exact ih1 _ _ _
    | exact spec_IsPattern.mono _ _
    | exact spec_IsWord.mono _ _
    | exact LeO.refl _
    | exact LeO.none _
    | refine LeO.ite ?_ ?_
    | refine LeO.bind ?_ (fun _ => ?_)
   ·intro y0 y1 y2
    unfold spec_FitsPattern.l0
    with_reducible repeat' first
    | exact ih0 _ _ _
    | exact ih1 _ _ _
    | exact spec_IsPattern.mono _ _
    | exact spec_IsWord.mono _ _
    | exact LeO.refl _
    | exact LeO.none _
    | refine LeO.ite ?_ ?_
    | refine LeO.bind ?_ (fun _ => ?_)
theorem spec_FitsPattern.mono : ∀ a0 a1 k, LeO (spec_FitsPattern.f k a0 a1) (spec_FitsPattern.f (k + 1) a0 a1) := by
  intro a0 a1 k
  obtain ⟨ih0, ih1⟩ := spec_FitsPattern.mono_l k; unfold spec_FitsPattern.f
  with_reducible repeat' first
  | exact ih0 _ _ _
  | exact ih1 _ _ _
  | exact spec_IsPattern.mono _ _
  | exact spec_IsWord.mono _ _
  | exact LeO.refl _
  | exact LeO.none _
  | refine LeO.ite ?_ ?_
  | refine LeO.bind ?_ (fun _ => ?_)
set_option maxHeartbeats 8000000 in
set_option maxRecDepth 100000 in
theorem spec_FitsPattern.calls (k : Nat) (a0 : ByteArray) (a1 : ByteArray) (r : Bool) (w : World) (h : spec_FitsPattern.f k a0 a1 = some r) :
   Calls Try.prog 101 #[.string a0, .string a1] w fun e w' => e = .returned (.bool r) ∧ Drawn0 w w' := by
  have H : ((spec_IsPattern.f k a0).bind fun t291 => (if t291 = true then ((spec_IsWord.f k a1).bind fun t292 => (if t292 = true then (spec_FitsPattern.j0 k a0 a1 ((a0.size : Int) != (a1.size : Int))) else (spec_FitsPattern.j0 k a0 a1 true))) else (spec_FitsPattern.j0 k a0 a1 true))) = some r := h; clear h; have HC3 := Aside0.mk H; clear H; go_enter Try.func101, Try.ntmps101
  go_upto_region 1 with (fail)
  repeat (go_quiet (fail); go_upto_region 1 with (fail))
  go_cut [20] (fun v20 wc => ∃ (kq : Nat) (x20_2 : Bool), v20 = .bool x20_2 ∧ Aside0 (spec_FitsPattern.j0 kq a0 a1 x20_2 = some r) ∧ Aside0 (kq ≤ k) ∧ Drawn0 w wc)
  case first =>
   have H := HC3.out; clear HC3; replace H := Option.bind_eq_some_iff.mp H; obtain ⟨t291, A40, H⟩ := H; try dsimp only at H
   have A4 := Aside0.mk A40; clear A40; by_cases c5 : t291 = true
   ·subst c5; rw [if_pos rfl] at H
    replace H := Option.bind_eq_some_iff.mp H; obtain ⟨t292, A60, H⟩ := H; try dsimp only at H
    have A6 := Aside0.mk A60; clear A60; by_cases c7 : t292 = true
    ·subst c7; rw [if_pos rfl] at H
     have H' := Aside0.mk H
     clear H; go_wp2_with (first | (go_at_call 119; (with_reducible refine (spec_IsPattern.calls k a0 true _ A4.out).mono ?_); rintro e w' ⟨rfl, ⟨nd, rfl⟩⟩; (try first | exact ⟨rfl, _, World.drewN_drewN _ _ _⟩ | exact ⟨rfl, _, Eq.trans (World.drewN_drewN _ _ _) (congrArg (World.drewN _) (Nat.add_assoc _ _ _))⟩)) | (go_at_call 83; (with_reducible refine (spec_IsWord.calls k a1 true _ A6.out).mono ?_); rintro e w' ⟨rfl, ⟨nd, rfl⟩⟩; (try first | exact ⟨rfl, _, World.drewN_drewN _ _ _⟩ | exact ⟨rfl, _, Eq.trans (World.drewN_drewN _ _ _) (congrArg (World.drewN _) (Nat.add_assoc _ _ _))⟩)))
     repeat (go_quiet (first | (go_at_call 119; (with_reducible refine (spec_IsPattern.calls k a0 true _ A4.out).mono ?_); rintro e w' ⟨rfl, ⟨nd, rfl⟩⟩; (try first | exact ⟨rfl, _, World.drewN_drewN _ _ _⟩ | exact ⟨rfl, _, Eq.trans (World.drewN_drewN _ _ _) (congrArg (World.drewN _) (Nat.add_assoc _ _ _))⟩)) | (go_at_call 83; (with_reducible refine (spec_IsWord.calls k a1 true _ A6.out).mono ?_); rintro e w' ⟨rfl, ⟨nd, rfl⟩⟩; (try first | exact ⟨rfl, _, World.drewN_drewN _ _ _⟩ | exact ⟨rfl, _, Eq.trans (World.drewN_drewN _ _ _) (congrArg (World.drewN _) (Nat.add_assoc _ _ _))⟩))); try go_wp2_with (first | (go_at_call 119; (with_reducible refine (spec_IsPattern.calls k a0 true _ A4.out).mono ?_); rintro e w' ⟨rfl, ⟨nd, rfl⟩⟩; (try first | exact ⟨rfl, _, World.drewN_drewN _ _ _⟩ | exact ⟨rfl, _, Eq.trans (World.drewN_drewN _ _ _) (congrArg (World.drewN _) (Nat.add_assoc _ _ _))⟩)) | (go_at_call 83; (with_reducible refine (spec_IsWord.calls k a1 true _ A6.out).mono ?_); rintro e w' ⟨rfl, ⟨nd, rfl⟩⟩; (try first | exact ⟨rfl, _, World.drewN_drewN _ _ _⟩ | exact ⟨rfl, _, Eq.trans (World.drewN_drewN _ _ _) (congrArg (World.drewN _) (Nat.add_assoc _ _ _))⟩))))
     go_meet
     case rel => exact ⟨_, (((a0.size : Int) != (a1.size : Int))), z15_4, H', ⟨by first | omega | exact Nat.le_refl _⟩, z15_5⟩
    ·replace c7 := Bool.eq_false_iff.mpr c7; subst c7; rw [if_neg (show ¬ (false = true) by decide)] at H
     have H' := Aside0.mk H
     clear H; go_wp2_with (first | (go_at_call 119; (with_reducible refine (spec_IsPattern.calls k a0 true _ A4.out).mono ?_); rintro e w' ⟨rfl, ⟨nd, rfl⟩⟩; (try first | exact ⟨rfl, _, World.drewN_drewN _ _ _⟩ | exact ⟨rfl, _, Eq.trans (World.drewN_drewN _ _ _) (congrArg (World.drewN _) (Nat.add_assoc _ _ _))⟩)) | (go_at_call 83; (with_reducible refine (spec_IsWord.calls k a1 false _ A6.out).mono ?_); rintro e w' ⟨rfl, ⟨nd, rfl⟩⟩; (try first | exact ⟨rfl, _, World.drewN_drewN _ _ _⟩ | exact ⟨rfl, _, Eq.trans (World.drewN_drewN _ _ _) (congrArg (World.drewN _) (Nat.add_assoc _ _ _))⟩)))
     repeat (go_quiet (first | (go_at_call 119; (with_reducible refine (spec_IsPattern.calls k a0 true _ A4.out).mono ?_); rintro e w' ⟨rfl, ⟨nd, rfl⟩⟩; (try first | exact ⟨rfl, _, World.drewN_drewN _ _ _⟩ | exact ⟨rfl, _, Eq.trans (World.drewN_drewN _ _ _) (congrArg (World.drewN _) (Nat.add_assoc _ _ _))⟩)) | (go_at_call 83; (with_reducible refine (spec_IsWord.calls k a1 false _ A6.out).mono ?_); rintro e w' ⟨rfl, ⟨nd, rfl⟩⟩; (try first | exact ⟨rfl, _, World.drewN_drewN _ _ _⟩ | exact ⟨rfl, _, Eq.trans (World.drewN_drewN _ _ _) (congrArg (World.drewN _) (Nat.add_assoc _ _ _))⟩))); try go_wp2_with (first | (go_at_call 119; (with_reducible refine (spec_IsPattern.calls k a0 true _ A4.out).mono ?_); rintro e w' ⟨rfl, ⟨nd, rfl⟩⟩; (try first | exact ⟨rfl, _, World.drewN_drewN _ _ _⟩ | exact ⟨rfl, _, Eq.trans (World.drewN_drewN _ _ _) (congrArg (World.drewN _) (Nat.add_assoc _ _ _))⟩)) | (go_at_call 83; (with_reducible refine (spec_IsWord.calls k a1 false _ A6.out).mono ?_); rintro e w' ⟨rfl, ⟨nd, rfl⟩⟩; (try first | exact ⟨rfl, _, World.drewN_drewN _ _ _⟩ | exact ⟨rfl, _, Eq.trans (World.drewN_drewN _ _ _) (congrArg (World.drewN _) (Nat.add_assoc _ _ _))⟩))))
     go_meet
     case rel => exact ⟨_, (true), z15_4, H', ⟨by first | omega | exact Nat.le_refl _⟩, z15_5⟩
   ·replace c5 := Bool.eq_false_iff.mpr c5; subst c5; rw [if_neg (show ¬ (false = true) by decide)] at H
    have H' := Aside0.mk H
    clear H; go_wp2_with (first | (go_at_call 119; (with_reducible refine (spec_IsPattern.calls k a0 false _ A4.out).mono ?_); rintro e w' ⟨rfl, ⟨nd, rfl⟩⟩; (try first | exact ⟨rfl, _, World.drewN_drewN _ _ _⟩ | exact ⟨rfl, _, Eq.trans (World.drewN_drewN _ _ _) (congrArg (World.drewN _) (Nat.add_assoc _ _ _))⟩)))
    repeat (go_quiet (first | (go_at_call 119; (with_reducible refine (spec_IsPattern.calls k a0 false _ A4.out).mono ?_); rintro e w' ⟨rfl, ⟨nd, rfl⟩⟩; (try first | exact ⟨rfl, _, World.drewN_drewN _ _ _⟩ | exact ⟨rfl, _, Eq.trans (World.drewN_drewN _ _ _) (congrArg (World.drewN _) (Nat.add_assoc _ _ _))⟩))); try go_wp2_with (first | (go_at_call 119; (with_reducible refine (spec_IsPattern.calls k a0 false _ A4.out).mono ?_); rintro e w' ⟨rfl, ⟨nd, rfl⟩⟩; (try first | exact ⟨rfl, _, World.drewN_drewN _ _ _⟩ | exact ⟨rfl, _, Eq.trans (World.drewN_drewN _ _ _) (congrArg (World.drewN _) (Nat.add_assoc _ _ _))⟩))))
    go_meet
    case rel => exact ⟨_, (true), z15_4, H', ⟨by first | omega | exact Nat.le_refl _⟩, z15_5⟩
  case rest =>
   clear HC3; try clear c1
   try clear p2
   try clear c5
   try clear c7
   obtain ⟨kq, x20_2, rfl, HA, HJ2, ⟨mc2, rfl⟩⟩ := hcut
   cases kq with
   | zero => exact absurd HA.out (by simp [spec_FitsPattern.j0])
   | succ kj2 =>
    have H := HA.out; clear HA; simp only [spec_FitsPattern.j0] at H; by_cases c8 : x20_2 = true
    ·subst c8; rw [if_pos rfl] at H
     obtain rfl := Option.some.inj H; go_wp2
     repeat (go_quiet (fail); try go_wp2)
     go_ret
     exact ⟨z15_4, z15_5⟩
    ·replace c8 := Bool.eq_false_iff.mpr c8; subst c8; rw [if_neg (show ¬ (false = true) by decide)] at H
     have H' := Aside0.mk H
     clear H; go_wp2
     repeat (go_quiet (fail); try go_wp2)
     go_loopg [5] kj2 (fun kq v5 w' => ∃ (x5_2 : Int), v5 = .int .i64 x5_2 ∧ Aside0 (spec_FitsPattern.l0 kq a0 a1 x5_2 = some r) ∧ Aside0 (kq ≤ kj2) ∧ Drawn0 w w')
     case atStart => exact ⟨(0), z15_4, H', ⟨Nat.le_refl _⟩, z15_5⟩
     case round =>
      clear H'; try clear c1
      try clear c2
      try clear p2
      try clear c5
      try clear c7
      try clear c8
      try clear p2
      obtain ⟨x5_2, rfl, HA, HK2, ⟨m2, rfl⟩⟩ := hrel
      cases gk with
      | zero => exact absurd HA.out (by simp [spec_FitsPattern.l0])
      | succ k2 =>
       have H := HA.out; clear HA; simp only [spec_FitsPattern.l0] at H; by_cases c9 : x5_2 < (a0.size : Int)
       ·rw [if_pos c9] at H
        have c9b0 : decide (x5_2 < (a0.size : Int)) = true := decide_eq_true c9; clear c9; by_cases c10 : 0 ≤ x5_2
        ·rw [if_pos c10] at H
         have c10b0 : decide (0 ≤ x5_2) = true := decide_eq_true c10; clear c10; by_cases c12 : (bt a0 x5_2) = 63
         ·rw [if_pos c12] at H
          have c12b0 : ((bt a0 x5_2) == 63) = true := beq_iff_eq.mpr c12; have c12b1 : ((bt a0 x5_2) != 63) = false := bne_eq_false_iff_eq.mpr c12; clear c12; have H' := Aside0.mk H
          clear H; have p11 : 0 ≤ (x5_2 : Int) := of_decide_eq_true z15_1; have q11 : x5_2 < (a0.size : Int) := of_decide_eq_true z15_1; have hx11 := bt_at a0 x5_2; replace p11 := eq_true p11; replace q11 := eq_true q11; go_wp2
          repeat (go_quiet (fail); try go_wp2)
          go_roundg k2
          case measure => have := HJ2.out; have := HK2.out; omega
          case rel => exact ⟨(wrap64 (x5_2 + 1)), z15_4, H', ⟨by have := HJ2.out; have := HK2.out; omega⟩, z15_5⟩
         ·rw [if_neg c12] at H
          have c12b0 : ((bt a0 x5_2) == 63) = false := beq_eq_false_iff_ne.mpr c12; have c12b1 : ((bt a0 x5_2) != 63) = true := bne_iff_ne.mpr c12; by_cases c14 : x5_2 < (a1.size : Int)
          ·rw [if_pos c14] at H
           have c14b0 : decide (x5_2 < (a1.size : Int)) = true := decide_eq_true c14; clear c14; by_cases c16 : (bt a0 x5_2) = (bt a1 x5_2)
           ·rw [if_pos c16] at H
            have c16b0 : ((bt a0 x5_2) == (bt a1 x5_2)) = true := beq_iff_eq.mpr c16; have c16b1 : ((bt a0 x5_2) != (bt a1 x5_2)) = false := bne_eq_false_iff_eq.mpr c16; clear c16; have H' := Aside0.mk H
            clear H; have p11 : 0 ≤ (x5_2 : Int) := of_decide_eq_true z15_1; have q11 : x5_2 < (a0.size : Int) := of_decide_eq_true z15_1; have hx11 := bt_at a0 x5_2; replace p11 := eq_true p11; replace q11 := eq_true q11; have p13 : 0 ≤ (x5_2 : Int) := of_decide_eq_true z15_1; have q13 : x5_2 < (a0.size : Int) := of_decide_eq_true z15_1; have hx13 := bt_at a0 x5_2; replace p13 := eq_true p13; replace q13 := eq_true q13; have p15 : 0 ≤ (x5_2 : Int) := of_decide_eq_true z15_1; have q15 : x5_2 < (a1.size : Int) := of_decide_eq_true z15_1; have hx15 := bt_at a1 x5_2; replace p15 := eq_true p15; replace q15 := eq_true q15; go_wp2
            repeat (go_quiet (fail); try go_wp2)
            go_roundg k2
            case measure => have := HJ2.out; have := HK2.out; omega
            case rel => exact ⟨(wrap64 (x5_2 + 1)), z15_4, H', ⟨by have := HJ2.out; have := HK2.out; omega⟩, z15_5⟩
           ·rw [if_neg c16] at H
            have c16b0 : ((bt a0 x5_2) == (bt a1 x5_2)) = false := beq_eq_false_iff_ne.mpr c16; have c16b1 : ((bt a0 x5_2) != (bt a1 x5_2)) = true := bne_iff_ne.mpr c16; obtain rfl := Option.some.inj H; have p11 : 0 ≤ (x5_2 : Int) := of_decide_eq_true z15_1; have q11 : x5_2 < (a0.size : Int) := of_decide_eq_true z15_1; have hx11 := bt_at a0 x5_2; replace p11 := eq_true p11; replace q11 := eq_true q11; have p13 : 0 ≤ (x5_2 : Int) := of_decide_eq_true z15_1; have q13 : x5_2 < (a0.size : Int) := of_decide_eq_true z15_1; have hx13 := bt_at a0 x5_2; replace p13 := eq_true p13; replace q13 := eq_true q13; have p15 : 0 ≤ (x5_2 : Int) := of_decide_eq_true z15_1; have q15 : x5_2 < (a1.size : Int) := of_decide_eq_true z15_1; have hx15 := bt_at a1 x5_2; replace p15 := eq_true p15; replace q15 := eq_true q15; go_wp2
            repeat (go_quiet (fail); try go_wp2)
            go_ret
            exact ⟨z15_4, z15_5⟩
          ·rw [if_neg c14] at H
           exact absurd H (by simp)
        ·rw [if_neg c10] at H
         exact absurd H (by simp)
       ·rw [if_neg c9] at H
        have c9b0 : decide (x5_2 < (a0.size : Int)) = false := decide_eq_false c9; clear c9; obtain rfl := Option.some.inj H; go_wp2
        repeat (go_quiet (fail); try go_wp2)
        go_ret
        exact ⟨z15_4, z15_5⟩

/-! ### spec_PutWord: function 98 -/
def spec_PutWord.l0 : Nat → ByteArray → ByteArray → List Int → Int → Option (ByteArray × Bool)
  | 0, _, _, _, _ => none
  | k + 1, x1, x3, x10, x11 => if x11 < (x10.length : Int) then (if 0 ≤ x11 then (if 0 ≤ (rd x10 x11) then (if (rd x10 x11) ≤ (x1.size : Int) then (if x11 ≤ (wrap64 (x11 + 1)) then (if (wrap64 (x11 + 1)) ≤ (x3.size : Int) then (if (x1.extract 0 ((rd x10 x11) : Int).toNat).size + (x3.extract (x11 : Int).toNat ((wrap64 (x11 + 1)) : Int).toNat).size ≤ 9223372036854775807 then (if 0 ≤ (wrap64 ((rd x10 x11) + 1)) then (if (wrap64 ((rd x10 x11) + 1)) ≤ (x1.size : Int) then (if ((x1.extract 0 ((rd x10 x11) : Int).toNat) ++ (x3.extract (x11 : Int).toNat ((wrap64 (x11 + 1)) : Int).toNat)).size + (x1.extract ((wrap64 ((rd x10 x11) + 1)) : Int).toNat x1.size).size ≤ 9223372036854775807 then (spec_PutWord.l0 k (((x1.extract 0 ((rd x10 x11) : Int).toNat) ++ (x3.extract (x11 : Int).toNat ((wrap64 (x11 + 1)) : Int).toNat)) ++ (x1.extract ((wrap64 ((rd x10 x11) + 1)) : Int).toNat x1.size)) x3 x10 (wrap64 (x11 + 1))) else (none)) else (none)) else (none)) else (none)) else (none)) else (none)) else (none)) else (none)) else (none)) else (some (x1, true))
def spec_PutWord.f (k : Nat) (a0_0 : Int) (a0_1 : Int) (a0_2 : ByteArray) (a1 : ByteArray) (a2 : Int) (a3 : ByteArray) : Option (ByteArray × Bool) := (spec_SlotPattern.f k a0_0 a0_1 a0_2 a1 a2).bind fun t294 => ((spec_FitsPattern.f k t294 a3).bind fun t295 => (if t295 = true then ((spec_SlotsOf.f k a0_0 a0_1 a0_2).bind fun t296 => (if 0 ≤ a2 then (if a2 < (t296.length : Int) then ((spec_CellsOf.f k a0_0 a0_1 a0_2 ((rd_T65 t296 a2).f0) ((rd_T65 t296 a2).f1) ((rd_T65 t296 a2).f2) ((rd_T65 t296 a2).f3)).bind fun t300 => (spec_PutWord.l0 k a1 a3 t300 0)) else (none)) else (none))) else (some (a1, false))))
theorem spec_PutWord.mono_l : ∀ k, (∀ y0 y1 y2 y3, LeO (spec_PutWord.l0 k y0 y1 y2 y3) (spec_PutWord.l0 (k + 1) y0 y1 y2 y3))
  | 0 => fun _ _ _ _ r h => by simp [spec_PutWord.l0] at h
  | k + 1 => by
   have ih0 := spec_PutWord.mono_l k
   ·intro y0 y1 y2 y3
    unfold spec_PutWord.l0
    with_reducible repeat' first
    | exact ih0 _ _ _ _
    | exact spec_CellsOf.mono _ _ _ _ _ _ _ _
    | exact spec_FitsPattern.mono _ _ _
    | exact spec_SlotPattern.mono _ _ _ _ _ _
    | exact spec_SlotsOf.mono _ _ _ _
    | exact LeO.refl _
    | exact LeO.none _
    | refine LeO.ite ?_ ?_
    | refine LeO.bind ?_ (fun _ => ?_)
theorem spec_PutWord.mono : ∀ a0 a1 a2 a3 a4 a5 k, LeO (spec_PutWord.f k a0 a1 a2 a3 a4 a5) (spec_PutWord.f (k + 1) a0 a1 a2 a3 a4 a5) := by
  intro a0 a1 a2 a3 a4 a5 k
  have ih0 := spec_PutWord.mono_l k; unfold spec_PutWord.f
  with_reducible repeat' first
  | exact ih0 _ _ _ _
  | exact spec_CellsOf.mono _ _ _ _ _ _ _ _
  | exact spec_FitsPattern.mono _ _ _
  | exact spec_SlotPattern.mono _ _ _ _ _ _
  | exact spec_SlotsOf.mono _ _ _ _
  | exact LeO.refl _
  | exact LeO.none _
  | refine LeO.ite ?_ ?_
  | refine LeO.bind ?_ (fun _ => ?_)
def spec_PutWord.T3 : Bool × List (List Nat × List Nat) := (true, [([], []), ([], []), ([1], [1]), ([], []), ([2, 3], [2, 3]), ([4], [4]), ([0, 5, 2], [0, 5]), ([6, 6, 0, 1, 2, 3, 4, 5, 6], [6])])
def spec_PutWord.B3 : List Nat := [0, 0, 2, 0, 14, 30, 63, 127]
theorem spec_PutWord.tab3 : rtab .any (opsOf Try.f98 3) = spec_PutWord.T3 := by kernel_rfl
theorem spec_PutWord.bits3 : waitsOk spec_PutWord.T3.2 spec_PutWord.B3 = true := by kernel_rfl
def spec_PutWord.T7 : Bool × List (List Nat × List Nat) := (true, [([], []), ([], []), ([], []), ([1, 2], [1, 2]), ([3], [3]), ([0, 4], [0, 4]), ([], []), ([], []), ([], []), ([8], [8]), ([6, 7, 9], [6, 7, 9]), ([5, 10], [5, 10]), ([], []), ([], []), ([], []), ([13, 14], [13, 14]), ([15], [15]), ([16], [16]), ([12, 17], [12, 17]), ([11, 18], [11, 18]), ([19, 0, 1, 2, 3, 4, 5, 6, 7, 8, 9, 10, 11, 12, 13, 14, 15, 16, 17, 18, 19], [0, 12, 19])])
def spec_PutWord.B7 : List Nat := [0, 0, 0, 6, 14, 31, 0, 0, 0, 256, 960, 2047, 0, 0, 0, 24576, 57344, 122880, 258048, 524287, 1048575]
theorem spec_PutWord.tab7 : rtab .any (opsOf Try.f98 7) = spec_PutWord.T7 := by kernel_rfl
theorem spec_PutWord.bits7 : waitsOk spec_PutWord.T7.2 spec_PutWord.B7 = true := by kernel_rfl
set_option maxHeartbeats 8000000 in
set_option maxRecDepth 100000 in
theorem spec_PutWord.calls (k : Nat) (a0_0 : Int) (a0_1 : Int) (a0_2 : ByteArray) (a1 : ByteArray) (a2 : Int) (a3 : ByteArray) (r1 : ByteArray) (r2 : Bool) (w : World) (h : spec_PutWord.f k a0_0 a0_1 a0_2 a1 a2 a3 = some (r1, r2)) :
   Calls Try.prog 98 #[.agg #[.int .i64 a0_0, .int .i64 a0_1, .string a0_2], .string a1, .int .i64 a2, .string a3] w fun e w' => e = .returned (.tuple #[.string r1, .bool r2]) ∧ Below w.heap.size w w' := by
  have hu28 := Try.underlying28; have hu65 := Try.underlying65; have HB := Aside0.mk (Below.refl w.heap.size w); have H : ((spec_SlotPattern.f k a0_0 a0_1 a0_2 a1 a2).bind fun t294 => ((spec_FitsPattern.f k t294 a3).bind fun t295 => (if t295 = true then ((spec_SlotsOf.f k a0_0 a0_1 a0_2).bind fun t296 => (if 0 ≤ a2 then (if a2 < (t296.length : Int) then ((spec_CellsOf.f k a0_0 a0_1 a0_2 ((rd_T65 t296 a2).f0) ((rd_T65 t296 a2).f1) ((rd_T65 t296 a2).f2) ((rd_T65 t296 a2).f3)).bind fun t300 => (spec_PutWord.l0 k a1 a3 t300 0)) else (none)) else (none))) else (some (a1, false))))) = some (r1, r2) := h; clear h; replace H := Option.bind_eq_some_iff.mp H; obtain ⟨t294, A50, H⟩ := H; try dsimp only at H
  have A5 := Aside0.mk A50; clear A50; replace H := Option.bind_eq_some_iff.mp H; obtain ⟨t295, A60, H⟩ := H; try dsimp only at H
  have A6 := Aside0.mk A60; clear A60; by_cases c7 : t295 = true
  ·subst c7; rw [if_pos rfl] at H
   replace H := Option.bind_eq_some_iff.mp H; obtain ⟨t296, A80, H⟩ := H; try dsimp only at H
   have A8 := Aside0.mk A80; clear A80; by_cases c9 : 0 ≤ a2
   ·rw [if_pos c9] at H
    have c9b0 : decide (0 ≤ a2) = true := decide_eq_true c9; clear c9; by_cases c10 : a2 < (t296.length : Int)
    ·rw [if_pos c10] at H
     have c10b0 : decide (a2 < (t296.length : Int)) = true := decide_eq_true c10; clear c10; replace H := Option.bind_eq_some_iff.mp H; obtain ⟨t300, A110, H⟩ := H; try dsimp only at H
     have A11 := Aside0.mk A110; clear A110; have H' := Aside0.mk H
     clear H; go_enter Try.func98, Try.ntmps98
     try go_wp2_with (first | ((with_reducible refine gate_dst (N := 4) rfl ?_); refine box_event ?hg (N := 4) ?hd (cs := #[.int .i64 a0_0, .int .i64 a0_1, .string a0_2]) (t := 28) ?hr ?_; (case hd => rfl); (case hg => rfl); (case hr => first | (go_simp; done) | (go_simp; rfl)); intro gb293 hg w12 hbox hb; have BK293 := Aside0.mk (hbox); have GW293 := Aside0.mk ((by rw [hg]; exact (below_size z15_3) : w.heap.size ≤ gb293)); have GE293 := Aside0.mk ((by rw [hg]; exact (below_size z15_3) : w.heap.size ≤ gb293)); replace HB := Aside0.mk (below_step z15_3 hb); clear hb hbox hg; obtain ⟨hcz13_0, hcz13_1, hcz13_2, hfz13_0, hfz13_1, hfz13_2⟩ := bc3_15_ BK293.out) | ((with_reducible refine gate_callee (f := 66) rfl ?_); refine goesL_ (some 15) rfl rfl Try.func66 (by kernel_rfl) rfl #[.agg #[.int .i64 a0_0, .int .i64 a0_1, .string a0_2], .string a1, .int .i64 a2] rfl z15_2 ?_; (with_reducible refine (spec_SlotPattern.calls k a0_0 a0_1 a0_2 a1 a2 t294 _ A5.out).mono ?_); rintro e w14 ⟨rfl, hb⟩; refine ⟨_, rfl, ?_⟩; replace BK293 := Aside0.mk (blk_below (g := gb293) (o := .cells #[.int .i64 a0_0, .int .i64 a0_1, .string a0_2] 28 (0, 0)) (bd15_ BK293.out) hb); replace HB := Aside0.mk (below_step z15_0 hb); (try clear hb)) | ((with_reducible refine gate_callee (f := 101) rfl ?_); refine goesL_ (some 17) rfl rfl Try.func101 (by kernel_rfl) rfl #[.string t294, .string a3] rfl z15_2 ?_; (with_reducible refine (spec_FitsPattern.calls k t294 a3 true _ A6.out).mono ?_); rintro e w' ⟨rfl, ⟨nd, rfl⟩⟩; refine ⟨_, rfl, ?_⟩))
     (try (rw [drewN_self w14]; generalize hq_ : World.drewN w14 _ = w14; have n0_ : Aside0 (w14.heap[gb293]? = some (.cells #[.int .i64 a0_0, .int .i64 a0_1, .string a0_2] 28 (0, 0))) := ⟨by rw [← hq_]; exact (bd15_ BK293.out)⟩; have n1_ : Aside0 (Below w.heap.size w w14) := ⟨by rw [← hq_]; exact z15_0⟩; clear BK293 HB hq_; have BK293 := n0_; have HB := n1_; clear n0_ n1_))
     replace BK293 := Aside0.mk (blk_drew BK293.out); replace HB := Aside0.mk (below_drew1 HB.out); refine start_ (n := 8) (S := fun w' => w'.cell? ⟨gb293, 0, none⟩ = some (.int .i64 a0_0) ∧ w'.cell? ⟨gb293, 1, none⟩ = some (.int .i64 a0_1) ∧ w'.cell? ⟨gb293, 2, none⟩ = some (.string a0_2)) (ds := []) #[false, false, false, false, false, false, false, false] (by kernel_rfl) rfl rfl ⟨(blk_cell BK293.out 0).trans rfl, (blk_cell BK293.out 1).trans rfl, (blk_cell BK293.out 2).trans rfl⟩ (fun hHeld => ?_); refine with_tabW spec_PutWord.tab3 spec_PutWord.bits3 (fun HT_ HW_ => ?_)
     generalize w14.drew = w15 at BK293 HB hHeld ⊢
     refine pure_ (i := 3) (N := some 23) (v := ?_) (a' := ?_) #[false, false, false, true, false, false, false, false] rfl rfl (any_of HT_.out (by kernel_rfl)) (fun _ _ _ h => h) (Or.inl ⟨by rfl, ?_⟩) ?_ ?_
     rotate_left
     ·intro w'
      go_simp; with_reducible rfl
     rotate_left
     ·simp only [Act.put, pt15_, i64_w, i32_w]; rfl
     refine take_ (i := 0) (N := some 20) (v := ?_) (a' := ?_) #[true, false, false, true, false, false, false, false] rfl rfl (take_ofW HT_.out HW_.out (by kernel_rfl)) (fun _ _ _ h => h) (Or.inl ⟨by rfl, ?_⟩) hHeld ?_ ?_
     rotate_left
     ·rintro w' ⟨s0, s1, s2⟩
      go_simp; with_reducible rfl
     rotate_left
     ·simp only [Act.put, pt15_, i64_w, i32_w]; rfl
     refine take_ (i := 1) (N := some 21) (v := ?_) (a' := ?_) #[true, true, false, true, false, false, false, false] rfl rfl (take_ofW HT_.out HW_.out (by kernel_rfl)) (fun _ _ _ h => h) (Or.inl ⟨by rfl, ?_⟩) hHeld ?_ ?_
     rotate_left
     ·rintro w' ⟨s0, s1, s2⟩
      go_simp; with_reducible rfl
     rotate_left
     ·simp only [Act.put, pt15_, i64_w, i32_w]; rfl
     refine one_ (i := 2) (N := some 22) #[true, true, true, true, false, false, false, false] rfl rfl (one_of HT_.out (by kernel_rfl)) (by decide) (fun K hK => ?_)
     refine goes_ Try.func45 (by kernel_rfl) rfl #[.agg #[.int .i64 a0_0, .int .i64 a0_1, .string a0_2]] (by rfl) rfl rfl z15_2 ?_
     with_reducible refine (spec_SlotsOf.calls k a0_0 a0_1 a0_2 t296 _ A8.out).mono ?_
     rintro e w16 ⟨v297, rfl, ho0, hb⟩
     refine ⟨_, rfl, ?_⟩
     have HO298 := Aside0.mk (Kd.R_lower ho0 (below_size z15_0)); replace BK293 := Aside0.mk (blk_below (g := gb293) (o := .cells #[.int .i64 a0_0, .int .i64 a0_1, .string a0_2] 28 (0, 0)) (bd15_ BK293.out) hb); replace HB := Aside0.mk (below_step z15_0 hb); (try clear hb)
     (try clear hb2)
     (try clear hk)
     (try clear hi)
     (try clear ho0)
     obtain ⟨Ao17, co17, eo17⟩ := Kd.R_slice HO298.out; (first | subst eo17 | (injection eo17 with f1_ f2_ f3_; have f4_ := f1_.symm; have f5_ := f3_.symm; clear f1_ f2_ f3_; subst f4_; subst f5_))
     have p299 : 0 ≤ (a2 : Int) := of_decide_eq_true z15_1; have q299 : a2 < (t296.length : Int) := of_decide_eq_true z15_1; obtain ⟨ad299, e299, hx299_0, hx299_1, hx299_2, hx299_3⟩ := at_T65 (Kd.R_reads' HO298.out).2.2 a2 p299 q299
     cases e299; replace p299 := eq_true p299; replace q299 := eq_true q299; refine hK.out _ _ ⟨(blk_cell BK293.out 0).trans rfl, (blk_cell BK293.out 1).trans rfl, (blk_cell BK293.out 2).trans rfl⟩ (fun hHeld => ?_)
     clear hK K; refine norm_ (a' := ?_) ?_ ?_
     rotate_left
     ·show Act.put _ (some 22) _ = _
      simp only [Act.put, pt15_, i64_w, i32_w]; rfl
     refine pure_ (i := 4) (N := some 24) (v := ?_) (a' := ?_) #[true, true, true, true, true, false, false, false] rfl rfl (any_of HT_.out (by kernel_rfl)) (fun _ _ _ h => h) (Or.inl ⟨by rfl, ?_⟩) ?_ ?_
     rotate_left
     ·intro w'
      go_simp; with_reducible rfl
     rotate_left
     ·simp only [Act.put, pt15_, i64_w, i32_w]; rfl
     refine one_ (i := 5) (N := some 25) #[true, true, true, true, true, true, false, false] rfl rfl (one_of HT_.out (by kernel_rfl)) (by decide) (fun K hK => ?_)
     refine yields_one (v := ?_) (by rfl) rfl ?_ ?_
     rotate_left
     ·go_simp; with_reducible rfl
     refine hK.out _ _ hHeld (fun hHeld => ?_)
     clear hK K; refine norm_ (a' := ?_) ?_ ?_
     rotate_left
     ·show Act.put _ (some 25) _ = _
      simp only [Act.put, pt15_, i64_w, i32_w]; rfl
     refine one_ (i := 6) (N := some 26) #[true, true, true, true, true, true, true, false] rfl rfl (one_of HT_.out (by kernel_rfl)) (by decide) (fun K hK => ?_)
     refine goes_ Try.func46 (by kernel_rfl) rfl #[.agg #[.int .i64 a0_0, .int .i64 a0_1, .string a0_2], .agg #[.int .i64 ((rd_T65 t296 a2).f0), .bool ((rd_T65 t296 a2).f1), .int .i64 ((rd_T65 t296 a2).f2), .int .i64 ((rd_T65 t296 a2).f3)]] (by rfl) rfl rfl z15_2 ?_
     with_reducible refine (spec_CellsOf.calls k a0_0 a0_1 a0_2 ((rd_T65 t296 a2).f0) ((rd_T65 t296 a2).f1) ((rd_T65 t296 a2).f2) ((rd_T65 t296 a2).f3) t300 _ A11.out).mono ?_
     rintro e w18 ⟨v301, rfl, ho0, hb⟩
     refine ⟨_, rfl, ?_⟩
     replace HO298 := Aside0.mk (Kd.R_below (by (with_reducible repeat (first | apply Kd.R_alloc | apply Kd.R_drewN | apply Kd.R_drew)); exact HO298.out) hb)
     have HO302 := Aside0.mk (Kd.R_lower ho0 (below_size z15_0)); replace BK293 := Aside0.mk (blk_below (g := gb293) (o := .cells #[.int .i64 a0_0, .int .i64 a0_1, .string a0_2] 28 (0, 0)) (bd15_ BK293.out) hb); replace HB := Aside0.mk (below_step z15_0 hb); (try clear hb)
     (try clear hb2)
     (try clear hk)
     (try clear hi)
     (try clear ho0)
     refine hK.out _ _ ⟨(blk_cell BK293.out 0).trans rfl, (blk_cell BK293.out 1).trans rfl, (blk_cell BK293.out 2).trans rfl⟩ (fun hHeld => ?_)
     clear hK K; refine norm_ (a' := ?_) ?_ ?_
     rotate_left
     ·show Act.put _ (some 26) _ = _
      simp only [Act.put, pt15_, i64_w, i32_w]; rfl
     refine pure_ (i := 7) (N := some 10) (v := ?_) (a' := ?_) #[true, true, true, true, true, true, true, true] rfl rfl (any_of HT_.out (by kernel_rfl)) (fun _ _ _ h => h) (Or.inl ⟨by rfl, ?_⟩) ?_ ?_
     rotate_left
     ·intro w'
      go_simp; with_reducible rfl
     rotate_left
     ·simp only [Act.put, pt15_, i64_w, i32_w]; rfl
     refine done_ (done_of HT_.out (by kernel_rfl)) ?_
     try go_wp2
     go_loopg [1, 11] k (fun kq v1 v11 w' => ∃ (x1_1 : ByteArray) (x11_1 : Int), v1 = .string x1_1 ∧ v11 = .int .i64 x11_1 ∧ Aside0 (spec_PutWord.l0 kq x1_1 a3 t300 x11_1 = some (r1, r2)) ∧ Aside0 (kq ≤ k) ∧ Aside0 (Kd.R (Kd.int .i64) 3 w' w.heap.size (fun _ => True) v301 t300) ∧ Aside0 (w'.heap[gb293]? = some (.cells #[.int .i64 a0_0, .int .i64 a0_1, .string a0_2] 28 (0, 0))) ∧ Aside0 (Below w.heap.size w w'))
     case atStart => exact ⟨(a1), (0), z15_4, z15_4, H', ⟨Nat.le_refl _⟩, ⟨by (with_reducible repeat (first | apply Kd.R_alloc | apply Kd.R_drewN | apply Kd.R_drew)); exact HO302.out⟩, ⟨by (with_reducible repeat (first | refine blk_drewN ?_ _ | refine blk_drew ?_ | refine blk_alloc ?_ _)); exact BK293.out⟩, ⟨z15_0⟩⟩
     case round =>
      clear H'; try clear c1
      try clear p2
      try clear q2
      try clear hx2
      try clear c4
      try clear c6
      try clear c7
      try clear c9
      try clear c9b0
      try clear c10
      try clear c10b0
      try clear hcz13_0
      try clear hcz13_1
      try clear hcz13_2
      try clear hfz13_0
      try clear hfz13_1
      try clear hfz13_2
      try clear hx299_0
      try clear hx299_1
      try clear hx299_2
      try clear hx299_3
      try clear p299
      try clear q299
      obtain ⟨x1_1, x11_1, rfl, rfl, HA, HK1, HO_10, BK293, HB⟩ := hrel
      cases gk with
      | zero => exact absurd HA.out (by simp [spec_PutWord.l0])
      | succ k1 =>
       have H := HA.out; clear HA; simp only [spec_PutWord.l0] at H; by_cases c19 : x11_1 < (t300.length : Int)
       ·rw [if_pos c19] at H
        have c19b0 : decide (x11_1 < (t300.length : Int)) = true := decide_eq_true c19; clear c19; by_cases c20 : 0 ≤ x11_1
        ·rw [if_pos c20] at H
         have c20b0 : decide (0 ≤ x11_1) = true := decide_eq_true c20; clear c20; by_cases c21 : 0 ≤ (rd t300 x11_1)
         ·rw [if_pos c21] at H
          have c21b0 := eq_true c21; have c21b1 : decide (0 ≤ (rd t300 x11_1)) = true := decide_eq_true c21; clear c21; by_cases c22 : (rd t300 x11_1) ≤ (x1_1.size : Int)
          ·rw [if_pos c22] at H
           have c22b0 := eq_true c22; have c22b1 : decide ((rd t300 x11_1) ≤ (x1_1.size : Int)) = true := decide_eq_true c22; clear c22; have c23b0 := eq_true (of_decide_eq_true z15_1 : 0 ≤ x11_1); by_cases c24 : x11_1 ≤ (wrap64 (x11_1 + 1))
           ·rw [if_pos c24] at H
            have c24b0 := eq_true c24; have c24b1 : decide (x11_1 ≤ (wrap64 (x11_1 + 1))) = true := decide_eq_true c24; by_cases c25 : (wrap64 (x11_1 + 1)) ≤ (a3.size : Int)
            ·rw [if_pos c25] at H
             have c25b0 := eq_true c25; have c25b1 : decide ((wrap64 (x11_1 + 1)) ≤ (a3.size : Int)) = true := decide_eq_true c25; by_cases c26 : (x1_1.extract 0 ((rd t300 x11_1) : Int).toNat).size + (a3.extract (x11_1 : Int).toNat ((wrap64 (x11_1 + 1)) : Int).toNat).size ≤ 9223372036854775807
             ·rw [if_pos c26] at H
              have c26b0 := eq_true c26; have c26b1 : decide ((x1_1.extract 0 ((rd t300 x11_1) : Int).toNat).size + (a3.extract (x11_1 : Int).toNat ((wrap64 (x11_1 + 1)) : Int).toNat).size ≤ 9223372036854775807) = true := decide_eq_true c26; try have c26b2 : (9223372036854775807 < (x1_1.extract 0 ((rd t300 x11_1) : Int).toNat).size + (a3.extract (x11_1 : Int).toNat ((wrap64 (x11_1 + 1)) : Int).toNat).size) = False := eq_false (Nat.not_lt.2 c26)
              try have c26b3 : (9223372036854775807 < (rd t300 x11_1).toNat + ((wrap64 (x11_1 + 1)).toNat - x11_1.toNat)) = False := eq_false (by have q0_ : (wrap64 (x11_1 + 1) : Int) ≤ (a3.size : Int) := of_decide_eq_true z15_1; have q1_ : (rd t300 x11_1 : Int) ≤ (x1_1.size : Int) := of_decide_eq_true z15_1; have h_ := c26; simp only [ByteArray.size_append, ByteArray.size_extract] at h_; omega)
              obtain ⟨ji27, hji27⟩ : ∃ j_ : Int, (wrap64 ((rd t300 x11_1) + 1)) = j_ := ⟨_, rfl⟩; replace H : (if 0 ≤ (ji27) then (if (ji27) ≤ (x1_1.size : Int) then (if ((x1_1.extract 0 ((rd t300 x11_1) : Int).toNat) ++ (a3.extract (x11_1 : Int).toNat ((wrap64 (x11_1 + 1)) : Int).toNat)).size + (x1_1.extract ((ji27) : Int).toNat x1_1.size).size ≤ 9223372036854775807 then (spec_PutWord.l0 k1 (((x1_1.extract 0 ((rd t300 x11_1) : Int).toNat) ++ (a3.extract (x11_1 : Int).toNat ((wrap64 (x11_1 + 1)) : Int).toNat)) ++ (x1_1.extract ((ji27) : Int).toNat x1_1.size)) a3 t300 (wrap64 (x11_1 + 1))) else (none)) else (none)) else (none)) = some (r1, r2) := by first | (rw [hji27] at H; exact H) | (simp only [hji27] at H ⊢; exact H)
              have hji27w : (IntKind.i64.wrap ((rd t300 x11_1) + 1)) = ji27 := (i64_w _).trans hji27; by_cases c28 : 0 ≤ (ji27)
              ·rw [if_pos c28] at H
               have c28b0 := eq_true c28; have c28b1 : decide (0 ≤ (ji27)) = true := decide_eq_true c28; clear c28; by_cases c29 : (ji27) ≤ (x1_1.size : Int)
               ·rw [if_pos c29] at H
                have c29b0 := eq_true c29; have c29b1 : decide ((ji27) ≤ (x1_1.size : Int)) = true := decide_eq_true c29; clear c29; by_cases c30 : ((x1_1.extract 0 ((rd t300 x11_1) : Int).toNat) ++ (a3.extract (x11_1 : Int).toNat ((wrap64 (x11_1 + 1)) : Int).toNat)).size + (x1_1.extract ((ji27) : Int).toNat x1_1.size).size ≤ 9223372036854775807
                ·rw [if_pos c30] at H
                 have c30b0 := eq_true c30; have c30b1 : decide (((x1_1.extract 0 ((rd t300 x11_1) : Int).toNat) ++ (a3.extract (x11_1 : Int).toNat ((wrap64 (x11_1 + 1)) : Int).toNat)).size + (x1_1.extract ((ji27) : Int).toNat x1_1.size).size ≤ 9223372036854775807) = true := decide_eq_true c30; try have c30b2 : (9223372036854775807 < ((x1_1.extract 0 ((rd t300 x11_1) : Int).toNat) ++ (a3.extract (x11_1 : Int).toNat ((wrap64 (x11_1 + 1)) : Int).toNat)).size + (x1_1.extract ((ji27) : Int).toNat x1_1.size).size) = False := eq_false (Nat.not_lt.2 c30)
                 try have c30b3 : (9223372036854775807 < (rd t300 x11_1).toNat + ((wrap64 (x11_1 + 1)).toNat - x11_1.toNat) + (x1_1.size - ji27.toNat)) = False := eq_false (by have q0_ : (wrap64 (x11_1 + 1) : Int) ≤ (a3.size : Int) := of_decide_eq_true z15_1; have q1_ : (ji27 : Int) ≤ (x1_1.size : Int) := of_decide_eq_true z15_1; have q2_ : (rd t300 x11_1 : Int) ≤ (x1_1.size : Int) := of_decide_eq_true z15_1; have h_ := c30; simp only [ByteArray.size_append, ByteArray.size_extract] at h_; omega)
                 have H' := Aside0.mk H
                 clear H; obtain ⟨Ao31, co31, eo31⟩ := Kd.R_slice HO_10.out; subst eo31; try go_wp2
                 replace HO_10 := Aside0.mk (Kd.R_drew HO_10.out); replace BK293 := Aside0.mk (blk_drew BK293.out); replace HB := Aside0.mk (below_drew1 HB.out); have p303 : 0 ≤ (x11_1 : Int) := of_decide_eq_true z15_1; have q303 : x11_1 < (t300.length : Int) := of_decide_eq_true z15_1; obtain ⟨ad303, e303, hx303_0⟩ := Kd.at_int (Kd.R_reads' HO_10.out).2.2 x11_1 p303 q303
                 cases e303; replace p303 := eq_true p303; replace q303 := eq_true q303; have p304 : 0 ≤ (x11_1 : Int) := of_decide_eq_true z15_1; have q304 : x11_1 < (t300.length : Int) := of_decide_eq_true z15_1; obtain ⟨ad304, e304, hx304_0⟩ := Kd.at_int (Kd.R_reads' HO_10.out).2.2 x11_1 p304 q304; obtain rfl : ad303 = ad304 := (by injection e304); replace p304 := eq_true p304; replace q304 := eq_true q304; refine start_ (n := 21) (S := fun w' => w'.cell? (ad303.add (x11_1).toNat) = some (.int .i64 (rd t300 x11_1)) ∧ w'.cell? (ad303.add (x11_1).toNat) = some (.int .i64 (rd t300 x11_1))) (ds := []) #[false, false, false, false, false, false, false, false, false, false, false, false, false, false, false, false, false, false, false, false, false] (by kernel_rfl) rfl rfl ⟨hx303_0, hx304_0⟩ (fun hHeld => ?_); refine with_tabW spec_PutWord.tab7 spec_PutWord.bits7 (fun HT_ HW_ => ?_)
                 generalize wr.drew = w32 at HO_10 BK293 HB hx303_0 hx304_0 hHeld ⊢
                 refine pure_ (i := 0) (N := some 33) (v := ?_) (a' := ?_) #[true, false, false, false, false, false, false, false, false, false, false, false, false, false, false, false, false, false, false, false, false] rfl rfl (any_of HT_.out (by kernel_rfl)) (fun _ _ _ h => h) (Or.inl ⟨by rfl, ?_⟩) ?_ ?_
                 rotate_left
                 ·intro w'
                  go_simp; with_reducible rfl
                 rotate_left
                 ·simp only [Act.put, pt15_, i64_w, i32_w]; rfl
                 refine pure_ (i := 1) (N := some 34) (v := ?_) (a' := ?_) #[true, true, false, false, false, false, false, false, false, false, false, false, false, false, false, false, false, false, false, false, false] rfl rfl (any_of HT_.out (by kernel_rfl)) (fun _ _ _ h => h) (Or.inl ⟨by rfl, ?_⟩) ?_ ?_
                 rotate_left
                 ·intro w'
                  go_simp; with_reducible rfl
                 rotate_left
                 ·simp only [Act.put, pt15_, i64_w, i32_w]; rfl
                 refine pure_ (i := 2) (N := some 35) (v := ?_) (a' := ?_) #[true, true, true, false, false, false, false, false, false, false, false, false, false, false, false, false, false, false, false, false, false] rfl rfl (any_of HT_.out (by kernel_rfl)) (fun _ _ _ h => h) (Or.inl ⟨by rfl, ?_⟩) ?_ ?_
                 rotate_left
                 ·intro w'
                  go_simp; with_reducible rfl
                 rotate_left
                 ·simp only [Act.put, pt15_, i64_w, i32_w]; rfl
                 refine pure_ (i := 3) (N := some 36) (v := ?_) (a' := ?_) #[true, true, true, true, false, false, false, false, false, false, false, false, false, false, false, false, false, false, false, false, false] rfl rfl (any_of HT_.out (by kernel_rfl)) (fun _ _ _ h => h) (Or.inl ⟨by rfl, ?_⟩) ?_ ?_
                 rotate_left
                 ·intro w'
                  go_simp; with_reducible rfl
                 rotate_left
                 ·simp only [Act.put, pt15_, i64_w, i32_w]; rfl
                 refine pure_ (i := 6) (N := some 39) (v := ?_) (a' := ?_) #[true, true, true, true, false, false, true, false, false, false, false, false, false, false, false, false, false, false, false, false, false] rfl rfl (any_of HT_.out (by kernel_rfl)) (fun _ _ _ h => h) (Or.inl ⟨by rfl, ?_⟩) ?_ ?_
                 rotate_left
                 ·intro w'
                  go_simp; with_reducible rfl
                 rotate_left
                 ·simp only [Act.put, pt15_, i64_w, i32_w]; rfl
                 refine pure_ (i := 7) (N := some 40) (v := ?_) (a' := ?_) #[true, true, true, true, false, false, true, true, false, false, false, false, false, false, false, false, false, false, false, false, false] rfl rfl (any_of HT_.out (by kernel_rfl)) (fun _ _ _ h => h) (Or.inl ⟨by rfl, ?_⟩) ?_ ?_
                 rotate_left
                 ·intro w'
                  go_simp; with_reducible rfl
                 rotate_left
                 ·simp only [Act.put, pt15_, i64_w, i32_w]; rfl
                 refine pure_ (i := 8) (N := some 41) (v := ?_) (a' := ?_) #[true, true, true, true, false, false, true, true, true, false, false, false, false, false, false, false, false, false, false, false, false] rfl rfl (any_of HT_.out (by kernel_rfl)) (fun _ _ _ h => h) (Or.inl ⟨by rfl, ?_⟩) ?_ ?_
                 rotate_left
                 ·intro w'
                  go_simp; with_reducible rfl
                 rotate_left
                 ·simp only [Act.put, pt15_, i64_w, i32_w]; rfl
                 refine pure_ (i := 9) (N := some 42) (v := ?_) (a' := ?_) #[true, true, true, true, false, false, true, true, true, true, false, false, false, false, false, false, false, false, false, false, false] rfl rfl (any_of HT_.out (by kernel_rfl)) (fun _ _ _ h => h) (Or.inl ⟨by rfl, ?_⟩) ?_ ?_
                 rotate_left
                 ·intro w'
                  go_simp; with_reducible rfl
                 rotate_left
                 ·simp only [Act.put, pt15_, i64_w, i32_w]; rfl
                 refine pure_ (i := 10) (N := some 43) (v := ?_) (a' := ?_) #[true, true, true, true, false, false, true, true, true, true, true, false, false, false, false, false, false, false, false, false, false] rfl rfl (any_of HT_.out (by kernel_rfl)) (fun _ _ _ h => h) (Or.inl ⟨by rfl, ?_⟩) ?_ ?_
                 rotate_left
                 ·intro w'
                  go_simp; with_reducible rfl
                 rotate_left
                 ·simp only [Act.put, pt15_, i64_w, i32_w]; rfl
                 refine pure_ (i := 12) (N := some 45) (v := ?_) (a' := ?_) #[true, true, true, true, false, false, true, true, true, true, true, false, true, false, false, false, false, false, false, false, false] rfl rfl (any_of HT_.out (by kernel_rfl)) (fun _ _ _ h => h) (Or.inl ⟨by rfl, ?_⟩) ?_ ?_
                 rotate_left
                 ·intro w'
                  go_simp; with_reducible rfl
                 rotate_left
                 ·simp only [Act.put, pt15_, i64_w, i32_w]; rfl
                 refine pure_ (i := 13) (N := some 46) (v := ?_) (a' := ?_) #[true, true, true, true, false, false, true, true, true, true, true, false, true, true, false, false, false, false, false, false, false] rfl rfl (any_of HT_.out (by kernel_rfl)) (fun _ _ _ h => h) (Or.inl ⟨by rfl, ?_⟩) ?_ ?_
                 rotate_left
                 ·intro w'
                  go_simp; with_reducible rfl
                 rotate_left
                 ·simp only [Act.put, pt15_, i64_w, i32_w]; rfl
                 refine pure_ (i := 14) (N := some 47) (v := ?_) (a' := ?_) #[true, true, true, true, false, false, true, true, true, true, true, false, true, true, true, false, false, false, false, false, false] rfl rfl (any_of HT_.out (by kernel_rfl)) (fun _ _ _ h => h) (Or.inl ⟨by rfl, ?_⟩) ?_ ?_
                 rotate_left
                 ·intro w'
                  go_simp; with_reducible rfl
                 rotate_left
                 ·simp only [Act.put, pt15_, i64_w, i32_w]; rfl
                 refine pure_ (i := 15) (N := some 48) (v := ?_) (a' := ?_) #[true, true, true, true, false, false, true, true, true, true, true, false, true, true, true, true, false, false, false, false, false] rfl rfl (any_of HT_.out (by kernel_rfl)) (fun _ _ _ h => h) (Or.inl ⟨by rfl, ?_⟩) ?_ ?_
                 rotate_left
                 ·intro w'
                  go_simp; with_reducible rfl
                 rotate_left
                 ·simp only [Act.put, pt15_, i64_w, i32_w]; rfl
                 refine take_ (i := 4) (N := some 37) (v := ?_) (a' := ?_) #[true, true, true, true, true, false, true, true, true, true, true, false, true, true, true, true, false, false, false, false, false] rfl rfl (take_ofW HT_.out HW_.out (by kernel_rfl)) (fun _ _ _ h => h) (Or.inl ⟨by rfl, ?_⟩) hHeld ?_ ?_
                 rotate_left
                 ·rintro w' ⟨s0, s1⟩
                  go_simp; with_reducible rfl
                 rotate_left
                 ·simp only [Act.put, pt15_, i64_w, i32_w]; rfl
                 refine pure_ (i := 5) (N := some 38) (v := ?_) (a' := ?_) #[true, true, true, true, true, true, true, true, true, true, true, false, true, true, true, true, false, false, false, false, false] rfl rfl (any_of HT_.out (by kernel_rfl)) (fun _ _ _ h => h) (Or.inl ⟨by rfl, ?_⟩) ?_ ?_
                 rotate_left
                 ·intro w'
                  go_simp; with_reducible rfl
                 rotate_left
                 ·simp only [Act.put, pt15_, i64_w, i32_w]; rfl
                 refine pure_ (i := 11) (N := some 44) (v := ?_) (a' := ?_) #[true, true, true, true, true, true, true, true, true, true, true, true, true, true, true, true, false, false, false, false, false] rfl rfl (any_of HT_.out (by kernel_rfl)) (fun _ _ _ h => h) (Or.inl ⟨by rfl, ?_⟩) ?_ ?_
                 rotate_left
                 ·intro w'
                  go_simp; with_reducible rfl
                 rotate_left
                 ·simp only [Act.put, pt15_, i64_w, i32_w]; rfl
                 refine take_ (i := 16) (N := some 49) (v := ?_) (a' := ?_) #[true, true, true, true, true, true, true, true, true, true, true, true, true, true, true, true, true, false, false, false, false] rfl rfl (take_ofW HT_.out HW_.out (by kernel_rfl)) (fun _ _ _ h => h) (Or.inl ⟨by rfl, ?_⟩) hHeld ?_ ?_
                 rotate_left
                 ·rintro w' ⟨s0, s1⟩
                  go_simp; with_reducible rfl
                 rotate_left
                 ·simp only [Act.put, pt15_, i64_w, i32_w]; rfl
                 refine pure_ (i := 17) (N := some 50) (v := ?_) (a' := ?_) #[true, true, true, true, true, true, true, true, true, true, true, true, true, true, true, true, true, true, false, false, false] rfl rfl (any_of HT_.out (by kernel_rfl)) (fun _ _ _ h => h) (Or.inl ⟨by rfl, ?_⟩) ?_ ?_
                 rotate_left
                 ·intro w'
                  go_simp; with_reducible rfl
                 rotate_left
                 ·simp only [Act.put, pt15_, i64_w, i32_w]; rfl
                 refine pure_ (i := 18) (N := some 51) (v := ?_) (a' := ?_) #[true, true, true, true, true, true, true, true, true, true, true, true, true, true, true, true, true, true, true, false, false] rfl rfl (any_of HT_.out (by kernel_rfl)) (fun _ _ _ h => h) (Or.inl ⟨by rfl, ?_⟩) ?_ ?_
                 rotate_left
                 ·intro w'
                  go_simp; with_reducible rfl
                 rotate_left
                 ·simp only [Act.put, pt15_, i64_w, i32_w]; rfl
                 refine pure_ (i := 19) (N := some 52) (v := ?_) (a' := ?_) #[true, true, true, true, true, true, true, true, true, true, true, true, true, true, true, true, true, true, true, true, false] rfl rfl (any_of HT_.out (by kernel_rfl)) (fun _ _ _ h => h) (Or.inl ⟨by rfl, ?_⟩) ?_ ?_
                 rotate_left
                 ·intro w'
                  go_simp; with_reducible rfl
                 rotate_left
                 ·simp only [Act.put, pt15_, i64_w, i32_w]; rfl
                 refine pure_ (i := 20) (N := some 1) (v := ?_) (a' := ?_) #[true, true, true, true, true, true, true, true, true, true, true, true, true, true, true, true, true, true, true, true, true] rfl rfl (any_of HT_.out (by kernel_rfl)) (fun _ _ _ h => h) (Or.inl ⟨by rfl, ?_⟩) ?_ ?_
                 rotate_left
                 ·intro w'
                  go_simp; with_reducible rfl
                 rotate_left
                 ·simp only [Act.put, pt15_, i64_w, i32_w]; rfl
                 refine done_ (done_of HT_.out (by kernel_rfl)) ?_
                 try go_wp2
                 go_roundg k1
                 case measure => have := HK1.out; omega
                 case rel => exact ⟨(((x1_1.extract 0 ((rd t300 x11_1) : Int).toNat) ++ (a3.extract (x11_1 : Int).toNat ((wrap64 (x11_1 + 1)) : Int).toNat)) ++ (x1_1.extract ((ji27) : Int).toNat x1_1.size)), (wrap64 (x11_1 + 1)), (by first | rfl | (simp; done) | (simp only [← hji27] <;> (first | rfl | simp)) | (simp [*]; done)), z15_4, H', ⟨by have := HK1.out; omega⟩, ⟨by (with_reducible repeat (first | apply Kd.R_alloc | apply Kd.R_drewN | apply Kd.R_drew)); exact HO_10.out⟩, ⟨by (with_reducible repeat (first | refine blk_drewN ?_ _ | refine blk_drew ?_ | refine blk_alloc ?_ _)); exact BK293.out⟩, ⟨z15_0⟩⟩
                ·rw [if_neg c30] at H
                 exact absurd H (by simp)
               ·rw [if_neg c29] at H
                exact absurd H (by simp)
              ·rw [if_neg c28] at H
               exact absurd H (by simp)
             ·rw [if_neg c26] at H
              exact absurd H (by simp)
            ·rw [if_neg c25] at H
             exact absurd H (by simp)
           ·rw [if_neg c24] at H
            exact absurd H (by simp)
          ·rw [if_neg c22] at H
           exact absurd H (by simp)
         ·rw [if_neg c21] at H
          exact absurd H (by simp)
        ·rw [if_neg c20] at H
         exact absurd H (by simp)
       ·rw [if_neg c19] at H
        have c19b0 : decide (x11_1 < (t300.length : Int)) = false := decide_eq_false c19; clear c19; simp only [Option.some.injEq, Prod.mk.injEq] at H; obtain ⟨rfl, rfl⟩ := H; obtain ⟨Ao33, co33, eo33⟩ := Kd.R_slice HO_10.out; subst eo33; go_wp2
        go_ret2
        exact ⟨by first | rfl | (simp [errW_none, errW_some] <;> rfl) | (simp [*, errW_none, errW_some] <;> rfl), z15_0⟩
    ·rw [if_neg c10] at H
     exact absurd H (by simp)
   ·rw [if_neg c9] at H
    exact absurd H (by simp)
  ·replace c7 := Bool.eq_false_iff.mpr c7; subst c7; rw [if_neg (show ¬ (false = true) by decide)] at H
   simp only [Option.some.injEq, Prod.mk.injEq] at H; obtain ⟨rfl, rfl⟩ := H; go_enter Try.func98, Try.ntmps98
   go_wp2_with (first | ((with_reducible refine gate_dst (N := 4) rfl ?_); refine box_event ?hg (N := 4) ?hd (cs := #[.int .i64 a0_0, .int .i64 a0_1, .string a0_2]) (t := 28) ?hr ?_; (case hd => rfl); (case hg => rfl); (case hr => first | (go_simp; done) | (go_simp; rfl)); intro gb293 hg w34 hbox hb; have BK293 := Aside0.mk (hbox); have GW293 := Aside0.mk ((by rw [hg]; exact (below_size z15_3) : w.heap.size ≤ gb293)); have GE293 := Aside0.mk ((by rw [hg]; exact (below_size z15_3) : w.heap.size ≤ gb293)); replace HB := Aside0.mk (below_step z15_3 hb); clear hb hbox hg; obtain ⟨hcz35_0, hcz35_1, hcz35_2, hfz35_0, hfz35_1, hfz35_2⟩ := bc3_15_ BK293.out) | ((with_reducible refine gate_callee (f := 66) rfl ?_); refine goesL_ (some 15) rfl rfl Try.func66 (by kernel_rfl) rfl #[.agg #[.int .i64 a0_0, .int .i64 a0_1, .string a0_2], .string a1, .int .i64 a2] rfl z15_2 ?_; (with_reducible refine (spec_SlotPattern.calls k a0_0 a0_1 a0_2 a1 a2 t294 _ A5.out).mono ?_); rintro e w36 ⟨rfl, hb⟩; refine ⟨_, rfl, ?_⟩; replace BK293 := Aside0.mk (blk_below (g := gb293) (o := .cells #[.int .i64 a0_0, .int .i64 a0_1, .string a0_2] 28 (0, 0)) (bd15_ BK293.out) hb); replace HB := Aside0.mk (below_step z15_0 hb); (try clear hb)) | ((with_reducible refine gate_callee (f := 101) rfl ?_); refine goesL_ (some 17) rfl rfl Try.func101 (by kernel_rfl) rfl #[.string t294, .string a3] rfl z15_2 ?_; (with_reducible refine (spec_FitsPattern.calls k t294 a3 false _ A6.out).mono ?_); rintro e w' ⟨rfl, ⟨nd, rfl⟩⟩; refine ⟨_, rfl, ?_⟩))
   go_ret2
   exact ⟨by first | rfl | (simp [errW_none, errW_some] <;> rfl) | (simp [*, errW_none, errW_some] <;> rfl), z15_0⟩

end Go.Proofs.Ytodcckiphdnjeaa.QFnFilled
