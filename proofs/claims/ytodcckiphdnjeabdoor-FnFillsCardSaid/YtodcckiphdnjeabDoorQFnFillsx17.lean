-- Written by a changed copy of the kit's printer (wip/mp.py of this repo), for this claim; Lean checks it.
import Derived.Test.YtodcckiphdnjeabDoorQFnFillsx0
import Derived.Test.YtodcckiphdnjeabDoorQFnFillsx15
import Derived.Test.YtodcckiphdnjeabDoorQFnFillsx16
namespace Go.Proofs.YtodcckiphdnjeabDoor.QFnFills
open Go.RowKit Go.Proofs.YtodcckiphdnjeabDoorW.PrintWords Go.Proofs.YtodcckiphdnjeabDoorW.PrintLast Go.Proofs.YtodcckiphdnjeabDoorW.PrintMore
attribute [local go_sem] max2_int min2_int max_two min_two max_three min_three max_four min_four   -- for this text's walks alone
set_option linter.unusedVariables false
set_option linter.unusedSimpArgs false

theorem bd17_ {p q : Prop} (h0 : q) (h : q → p := by intro h_; (with_reducible repeat (first | refine blk_drewN ?_ _ | refine blk_drew ?_ | refine blk_alloc ?_ _)); exact h_) : p := h h0
theorem z17_0 {p : Prop} (h : p := by first | (with_reducible assumption) | assumption) : p := h
theorem z17_1 {p : Prop} (h : p := by repeat (first | exact Drawn0.refl _ | apply Drawn0.step)) : p := h
theorem z17_2 {p : Prop} (h : p := by repeat (first | (with_reducible first | exact HB.out | apply below_alloc | apply pw_below_drewN | apply below_drew1 | refine below_set ?_ GE420.out) | exact HB.out)) : p := h
theorem z17_3 {p : Prop} (h : p := by (try simp only [List.map_toArray, List.map_cons, List.map_nil]); first | done | rfl | (simp only [List.length_drop, List.length_take]; rfl)) : p := h
theorem z17_4 {p : Prop} (h : p := by first | rfl | (simp; done) | (simp [*]; done)) : p := h
theorem z17_5 {p : Prop} (h : p := by repeat (first | (with_reducible first | exact HB.out | apply below_alloc | apply pw_below_drewN | apply below_drew1) | exact HB.out)) : p := h
/-! ### impl_FitsPattern: function 26 -/
mutual
def impl_FitsPattern.j0 : Nat → ByteArray → ByteArray → Bool → Option (Bool)
  | 0, _, _, _ => none
  | k + 1, x0, x1, x20 => if x20 = true then (some false) else (impl_FitsPattern.l0 k x0 x1 (x0.size : Int) 0)
def impl_FitsPattern.l0 : Nat → ByteArray → ByteArray → Int → Int → Option (Bool)
  | 0, _, _, _, _ => none
  | k + 1, x0, x1, x22, x23 => if x23 < x22 then (if 0 ≤ x23 then (if x23 < (x0.size : Int) then (if (bt x0 x23) = 63 then (impl_FitsPattern.l0 k x0 x1 x22 (wrap64 (x23 + 1))) else (if x23 < (x1.size : Int) then (if (bt x0 x23) = (bt x1 x23) then (impl_FitsPattern.l0 k x0 x1 x22 (wrap64 (x23 + 1))) else (some false)) else (none))) else (none)) else (none)) else (some true)
end
def impl_FitsPattern.f (k : Nat) (a0 : ByteArray) (a1 : ByteArray) : Option (Bool) := (impl_IsPattern.f k a0).bind fun t418 => (if t418 = true then ((impl_IsWord.f k a1).bind fun t419 => (if t419 = true then (impl_FitsPattern.j0 k a0 a1 ((a0.size : Int) != (a1.size : Int))) else (impl_FitsPattern.j0 k a0 a1 true))) else (impl_FitsPattern.j0 k a0 a1 true))
theorem impl_FitsPattern.mono_l : ∀ k, (∀ y0 y1 y2, LeO (impl_FitsPattern.j0 k y0 y1 y2) (impl_FitsPattern.j0 (k + 1) y0 y1 y2)) ∧ (∀ y0 y1 y2 y3, LeO (impl_FitsPattern.l0 k y0 y1 y2 y3) (impl_FitsPattern.l0 (k + 1) y0 y1 y2 y3))
  | 0 => ⟨fun _ _ _ r h => by simp [impl_FitsPattern.j0] at h, fun _ _ _ _ r h => by simp [impl_FitsPattern.l0] at h⟩
  | k + 1 => by
   obtain ⟨ih0, ih1⟩ := impl_FitsPattern.mono_l k; refine ⟨?_, ?_⟩
   ·intro y0 y1 y2
    unfold impl_FitsPattern.j0
    repeat' first
    | (with_reducible exact ih0 _ _ _)
    | (with_reducible exact ih1 _ _ _ _)
    | (with_reducible exact impl_IsPattern.mono _ _)
    | (with_reducible exact impl_IsWord.mono _ _)
    | (with_reducible exact LeO.refl _)
    | (with_reducible exact LeO.none _)
    | (with_reducible refine LeO.ite ?_ ?_)
    | (with_reducible refine LeO.bind ?_ (fun _ => ?_))
    | exact ih0 _ _ _
    | exact ih1 _ _ _ _
    | exact impl_IsPattern.mono _ _
    | exact impl_IsWord.mono _ _
    | exact LeO.none _
    | refine LeO.ite ?_ ?_
    | refine LeO.bind ?_ (fun _ => ?_)
   ·intro y0 y1 y2 y3
    unfold impl_FitsPattern.l0
    repeat' first
    | (with_reducible exact ih0 _ _ _)
    | (with_reducible exact ih1 _ _ _ _)
    | (with_reducible exact impl_IsPattern.mono _ _)
    | (with_reducible exact impl_IsWord.mono _ _)
    | (with_reducible exact LeO.refl _)
    | (with_reducible exact LeO.none _)
    | (with_reducible refine LeO.ite ?_ ?_)
    | (with_reducible refine LeO.bind ?_ (fun _ => ?_))
    | exact ih0 _ _ _
    | exact ih1 _ _ _ _
    | exact impl_IsPattern.mono _ _
    | exact impl_IsWord.mono _ _
    | exact LeO.none _
    | refine LeO.ite ?_ ?_
    | refine LeO.bind ?_ (fun _ => ?_)
theorem impl_FitsPattern.mono : ∀ a0 a1 k, LeO (impl_FitsPattern.f k a0 a1) (impl_FitsPattern.f (k + 1) a0 a1) := by
  intro a0 a1 k
  obtain ⟨ih0, ih1⟩ := impl_FitsPattern.mono_l k; unfold impl_FitsPattern.f
  repeat' first
    | (with_reducible exact ih0 _ _ _)
    | (with_reducible exact ih1 _ _ _ _)
    | (with_reducible exact impl_IsPattern.mono _ _)
    | (with_reducible exact impl_IsWord.mono _ _)
    | (with_reducible exact LeO.refl _)
    | (with_reducible exact LeO.none _)
    | (with_reducible refine LeO.ite ?_ ?_)
    | (with_reducible refine LeO.bind ?_ (fun _ => ?_))
    | exact ih0 _ _ _
    | exact ih1 _ _ _ _
    | exact impl_IsPattern.mono _ _
    | exact impl_IsWord.mono _ _
    | exact LeO.none _
    | refine LeO.ite ?_ ?_
    | refine LeO.bind ?_ (fun _ => ?_)
set_option maxHeartbeats 8000000 in
set_option maxRecDepth 100000 in
theorem impl_FitsPattern.calls (k : Nat) (a0 : ByteArray) (a1 : ByteArray) (r : Bool) (w : World) (h : impl_FitsPattern.f k a0 a1 = some r) :
   Calls Tryd.prog 26 #[.string a0, .string a1] w fun e w' => e = .returned (.bool r) ∧ Drawn0 w w' := by
  have H : ((impl_IsPattern.f k a0).bind fun t418 => (if t418 = true then ((impl_IsWord.f k a1).bind fun t419 => (if t419 = true then (impl_FitsPattern.j0 k a0 a1 ((a0.size : Int) != (a1.size : Int))) else (impl_FitsPattern.j0 k a0 a1 true))) else (impl_FitsPattern.j0 k a0 a1 true))) = some r := h; clear h; have HC3 := Aside0.mk H; clear H; go_enter Tryd.func26, Tryd.ntmps26
  go_upto_region 1 with (fail)
  repeat (go_quiet (fail); go_upto_region 1 with (fail))
  go_cut [20] (fun v20 wc => ∃ (kq : Nat) (x20_2 : Bool), v20 = .bool x20_2 ∧ Aside0 (impl_FitsPattern.j0 kq a0 a1 x20_2 = some r) ∧ Aside0 (kq ≤ k) ∧ Drawn0 w wc)
  case first =>
   have H := HC3.out; clear HC3; replace H := Option.bind_eq_some_iff.mp H; obtain ⟨t418, A40, H⟩ := H; replace H : (if t418 = true then ((impl_IsWord.f k a1).bind fun t419 => (if t419 = true then (impl_FitsPattern.j0 k a0 a1 ((a0.size : Int) != (a1.size : Int))) else (impl_FitsPattern.j0 k a0 a1 true))) else (impl_FitsPattern.j0 k a0 a1 true)) = some r := H; have A4 := Aside0.mk A40; clear A40; by_cases c5 : t418 = true
   ·subst c5; have H1 : ((impl_IsWord.f k a1).bind fun t419 => (if t419 = true then (impl_FitsPattern.j0 k a0 a1 ((a0.size : Int) != (a1.size : Int))) else (impl_FitsPattern.j0 k a0 a1 true))) = some r := by rw [if_pos rfl] at H; exact H
    clear H; have H := H1; clear H1; replace H := Option.bind_eq_some_iff.mp H; obtain ⟨t419, A60, H⟩ := H; replace H : (if t419 = true then (impl_FitsPattern.j0 k a0 a1 ((a0.size : Int) != (a1.size : Int))) else (impl_FitsPattern.j0 k a0 a1 true)) = some r := H; have A6 := Aside0.mk A60; clear A60; by_cases c7 : t419 = true
    ·subst c7; have H1 : (impl_FitsPattern.j0 k a0 a1 ((a0.size : Int) != (a1.size : Int))) = some r := by rw [if_pos rfl] at H; exact H
     clear H; have H := H1; clear H1; have H' := Aside0.mk H
     clear H; go_wp2_with (first | (go_at_call 50; (with_reducible refine (impl_IsPattern.calls k a0 true _ A4.out).mono ?_); rintro e w' ⟨rfl, ⟨nd, rfl⟩⟩; (try first | exact ⟨rfl, _, World.drewN_drewN _ _ _⟩ | exact ⟨rfl, _, Eq.trans (World.drewN_drewN _ _ _) (congrArg (World.drewN _) (Nat.add_assoc _ _ _))⟩)) | (go_at_call 51; (with_reducible refine (impl_IsWord.calls k a1 true _ A6.out).mono ?_); rintro e w' ⟨rfl, ⟨nd, rfl⟩⟩; (try first | exact ⟨rfl, _, World.drewN_drewN _ _ _⟩ | exact ⟨rfl, _, Eq.trans (World.drewN_drewN _ _ _) (congrArg (World.drewN _) (Nat.add_assoc _ _ _))⟩)))
     repeat (go_quiet (first | (go_at_call 50; (with_reducible refine (impl_IsPattern.calls k a0 true _ A4.out).mono ?_); rintro e w' ⟨rfl, ⟨nd, rfl⟩⟩; (try first | exact ⟨rfl, _, World.drewN_drewN _ _ _⟩ | exact ⟨rfl, _, Eq.trans (World.drewN_drewN _ _ _) (congrArg (World.drewN _) (Nat.add_assoc _ _ _))⟩)) | (go_at_call 51; (with_reducible refine (impl_IsWord.calls k a1 true _ A6.out).mono ?_); rintro e w' ⟨rfl, ⟨nd, rfl⟩⟩; (try first | exact ⟨rfl, _, World.drewN_drewN _ _ _⟩ | exact ⟨rfl, _, Eq.trans (World.drewN_drewN _ _ _) (congrArg (World.drewN _) (Nat.add_assoc _ _ _))⟩))); try go_wp2_with (first | (go_at_call 50; (with_reducible refine (impl_IsPattern.calls k a0 true _ A4.out).mono ?_); rintro e w' ⟨rfl, ⟨nd, rfl⟩⟩; (try first | exact ⟨rfl, _, World.drewN_drewN _ _ _⟩ | exact ⟨rfl, _, Eq.trans (World.drewN_drewN _ _ _) (congrArg (World.drewN _) (Nat.add_assoc _ _ _))⟩)) | (go_at_call 51; (with_reducible refine (impl_IsWord.calls k a1 true _ A6.out).mono ?_); rintro e w' ⟨rfl, ⟨nd, rfl⟩⟩; (try first | exact ⟨rfl, _, World.drewN_drewN _ _ _⟩ | exact ⟨rfl, _, Eq.trans (World.drewN_drewN _ _ _) (congrArg (World.drewN _) (Nat.add_assoc _ _ _))⟩))))
     go_meet
     case rel => exact ⟨_, (((a0.size : Int) != (a1.size : Int))), z17_4, H', ⟨by first | omega | exact Nat.le_refl _⟩, z17_1⟩
    ·replace c7 := Bool.eq_false_iff.mpr c7; subst c7; have H1 : (impl_FitsPattern.j0 k a0 a1 true) = some r := by rw [if_neg (show ¬ (false = true) by decide)] at H; exact H
     clear H; have H := H1; clear H1; have H' := Aside0.mk H
     clear H; go_wp2_with (first | (go_at_call 50; (with_reducible refine (impl_IsPattern.calls k a0 true _ A4.out).mono ?_); rintro e w' ⟨rfl, ⟨nd, rfl⟩⟩; (try first | exact ⟨rfl, _, World.drewN_drewN _ _ _⟩ | exact ⟨rfl, _, Eq.trans (World.drewN_drewN _ _ _) (congrArg (World.drewN _) (Nat.add_assoc _ _ _))⟩)) | (go_at_call 51; (with_reducible refine (impl_IsWord.calls k a1 false _ A6.out).mono ?_); rintro e w' ⟨rfl, ⟨nd, rfl⟩⟩; (try first | exact ⟨rfl, _, World.drewN_drewN _ _ _⟩ | exact ⟨rfl, _, Eq.trans (World.drewN_drewN _ _ _) (congrArg (World.drewN _) (Nat.add_assoc _ _ _))⟩)))
     repeat (go_quiet (first | (go_at_call 50; (with_reducible refine (impl_IsPattern.calls k a0 true _ A4.out).mono ?_); rintro e w' ⟨rfl, ⟨nd, rfl⟩⟩; (try first | exact ⟨rfl, _, World.drewN_drewN _ _ _⟩ | exact ⟨rfl, _, Eq.trans (World.drewN_drewN _ _ _) (congrArg (World.drewN _) (Nat.add_assoc _ _ _))⟩)) | (go_at_call 51; (with_reducible refine (impl_IsWord.calls k a1 false _ A6.out).mono ?_); rintro e w' ⟨rfl, ⟨nd, rfl⟩⟩; (try first | exact ⟨rfl, _, World.drewN_drewN _ _ _⟩ | exact ⟨rfl, _, Eq.trans (World.drewN_drewN _ _ _) (congrArg (World.drewN _) (Nat.add_assoc _ _ _))⟩))); try go_wp2_with (first | (go_at_call 50; (with_reducible refine (impl_IsPattern.calls k a0 true _ A4.out).mono ?_); rintro e w' ⟨rfl, ⟨nd, rfl⟩⟩; (try first | exact ⟨rfl, _, World.drewN_drewN _ _ _⟩ | exact ⟨rfl, _, Eq.trans (World.drewN_drewN _ _ _) (congrArg (World.drewN _) (Nat.add_assoc _ _ _))⟩)) | (go_at_call 51; (with_reducible refine (impl_IsWord.calls k a1 false _ A6.out).mono ?_); rintro e w' ⟨rfl, ⟨nd, rfl⟩⟩; (try first | exact ⟨rfl, _, World.drewN_drewN _ _ _⟩ | exact ⟨rfl, _, Eq.trans (World.drewN_drewN _ _ _) (congrArg (World.drewN _) (Nat.add_assoc _ _ _))⟩))))
     go_meet
     case rel => exact ⟨_, (true), z17_4, H', ⟨by first | omega | exact Nat.le_refl _⟩, z17_1⟩
   ·replace c5 := Bool.eq_false_iff.mpr c5; subst c5; have H1 : (impl_FitsPattern.j0 k a0 a1 true) = some r := by rw [if_neg (show ¬ (false = true) by decide)] at H; exact H
    clear H; have H := H1; clear H1; have H' := Aside0.mk H
    clear H; go_wp2_with (first | (go_at_call 50; (with_reducible refine (impl_IsPattern.calls k a0 false _ A4.out).mono ?_); rintro e w' ⟨rfl, ⟨nd, rfl⟩⟩; (try first | exact ⟨rfl, _, World.drewN_drewN _ _ _⟩ | exact ⟨rfl, _, Eq.trans (World.drewN_drewN _ _ _) (congrArg (World.drewN _) (Nat.add_assoc _ _ _))⟩)))
    repeat (go_quiet (first | (go_at_call 50; (with_reducible refine (impl_IsPattern.calls k a0 false _ A4.out).mono ?_); rintro e w' ⟨rfl, ⟨nd, rfl⟩⟩; (try first | exact ⟨rfl, _, World.drewN_drewN _ _ _⟩ | exact ⟨rfl, _, Eq.trans (World.drewN_drewN _ _ _) (congrArg (World.drewN _) (Nat.add_assoc _ _ _))⟩))); try go_wp2_with (first | (go_at_call 50; (with_reducible refine (impl_IsPattern.calls k a0 false _ A4.out).mono ?_); rintro e w' ⟨rfl, ⟨nd, rfl⟩⟩; (try first | exact ⟨rfl, _, World.drewN_drewN _ _ _⟩ | exact ⟨rfl, _, Eq.trans (World.drewN_drewN _ _ _) (congrArg (World.drewN _) (Nat.add_assoc _ _ _))⟩))))
    go_meet
    case rel => exact ⟨_, (true), z17_4, H', ⟨by first | omega | exact Nat.le_refl _⟩, z17_1⟩
  case rest =>
   clear HC3; try clear c2
   try clear p2
   try clear c5
   try clear c7
   obtain ⟨kq, x20_2, rfl, HA, HJ2, ⟨mc2, rfl⟩⟩ := hcut
   cases kq with
   | zero => exact absurd HA.out (by simp [impl_FitsPattern.j0])
   | succ kj2 =>
    have H := HA.out; clear HA; simp only [impl_FitsPattern.j0] at H; by_cases c8 : x20_2 = true
    ·subst c8; have H1 : (some false) = some r := by rw [if_pos rfl] at H; exact H
     clear H; have H := H1; clear H1; obtain rfl := Option.some.inj H; go_wp2
     repeat (go_quiet (fail); try go_wp2)
     go_ret
     exact ⟨z17_4, z17_1⟩
    ·replace c8 := Bool.eq_false_iff.mpr c8; subst c8; have H1 : (impl_FitsPattern.l0 kj2 a0 a1 (a0.size : Int) 0) = some r := by rw [if_neg (show ¬ (false = true) by decide)] at H; exact H
     clear H; have H := H1; clear H1; have H' := Aside0.mk H
     clear H; go_wp2
     repeat (go_quiet (fail); try go_wp2)
     go_loopg [23] kj2 (fun kq v23 w' => ∃ (x23_2 : Int), v23 = .int .i64 x23_2 ∧ Aside0 (impl_FitsPattern.l0 kq a0 a1 (a0.size : Int) x23_2 = some r) ∧ Aside0 (kq ≤ kj2) ∧ Drawn0 w w')
     case atStart => exact ⟨(0), z17_4, H', ⟨Nat.le_refl _⟩, z17_1⟩
     case round =>
      clear H'; try clear c2
      try clear p2
      try clear c5
      try clear c7
      try clear c8
      try clear p2
      obtain ⟨x23_2, rfl, HA, HK2, ⟨m2, rfl⟩⟩ := hrel
      cases gk with
      | zero => exact absurd HA.out (by simp [impl_FitsPattern.l0])
      | succ k2 =>
       have H := HA.out; clear HA; simp only [impl_FitsPattern.l0] at H; by_cases c9 : x23_2 < (a0.size : Int)
       ·rw [if_pos c9] at H
        have c9b0 : decide (x23_2 < (a0.size : Int)) = true := decide_eq_true c9; clear c9; by_cases c10 : 0 ≤ x23_2
        ·rw [if_pos c10] at H
         have c10b0 : decide (0 ≤ x23_2) = true := decide_eq_true c10; clear c10; by_cases c11 : x23_2 < (a0.size : Int)
         ·rw [if_pos c11] at H
          have c11b0 : decide (x23_2 < (a0.size : Int)) = true := decide_eq_true c11; clear c11; by_cases c13 : (bt a0 x23_2) = 63
          ·rw [if_pos c13] at H
           have c13b0 : ((bt a0 x23_2) == 63) = true := beq_iff_eq.mpr c13; have c13b1 : ((bt a0 x23_2) != 63) = false := bne_eq_false_iff_eq.mpr c13; clear c13; have H' := Aside0.mk H
           clear H; have p12 : 0 ≤ (x23_2 : Int) := of_decide_eq_true z17_0; have q12 : x23_2 < (a0.size : Int) := of_decide_eq_true z17_0; have hx12 := bt_at a0 x23_2; replace p12 := eq_true p12; replace q12 := eq_true q12; go_wp2
           repeat (go_quiet (fail); try go_wp2)
           go_roundg k2
           case measure => have := HJ2.out; have := HK2.out; omega
           case rel => exact ⟨(wrap64 (x23_2 + 1)), z17_4, H', ⟨by have := HJ2.out; have := HK2.out; omega⟩, z17_1⟩
          ·rw [if_neg c13] at H
           have c13b0 : ((bt a0 x23_2) == 63) = false := beq_eq_false_iff_ne.mpr c13; have c13b1 : ((bt a0 x23_2) != 63) = true := bne_iff_ne.mpr c13; by_cases c15 : x23_2 < (a1.size : Int)
           ·rw [if_pos c15] at H
            have c15b0 : decide (x23_2 < (a1.size : Int)) = true := decide_eq_true c15; clear c15; by_cases c17 : (bt a0 x23_2) = (bt a1 x23_2)
            ·rw [if_pos c17] at H
             have c17b0 : ((bt a0 x23_2) == (bt a1 x23_2)) = true := beq_iff_eq.mpr c17; have c17b1 : ((bt a0 x23_2) != (bt a1 x23_2)) = false := bne_eq_false_iff_eq.mpr c17; clear c17; have H' := Aside0.mk H
             clear H; have p12 : 0 ≤ (x23_2 : Int) := of_decide_eq_true z17_0; have q12 : x23_2 < (a0.size : Int) := of_decide_eq_true z17_0; have hx12 := bt_at a0 x23_2; replace p12 := eq_true p12; replace q12 := eq_true q12; have p14 : 0 ≤ (x23_2 : Int) := of_decide_eq_true z17_0; have q14 : x23_2 < (a0.size : Int) := of_decide_eq_true z17_0; have hx14 := bt_at a0 x23_2; replace p14 := eq_true p14; replace q14 := eq_true q14; have p16 : 0 ≤ (x23_2 : Int) := of_decide_eq_true z17_0; have q16 : x23_2 < (a1.size : Int) := of_decide_eq_true z17_0; have hx16 := bt_at a1 x23_2; replace p16 := eq_true p16; replace q16 := eq_true q16; go_wp2
             repeat (go_quiet (fail); try go_wp2)
             go_roundg k2
             case measure => have := HJ2.out; have := HK2.out; omega
             case rel => exact ⟨(wrap64 (x23_2 + 1)), z17_4, H', ⟨by have := HJ2.out; have := HK2.out; omega⟩, z17_1⟩
            ·rw [if_neg c17] at H
             have c17b0 : ((bt a0 x23_2) == (bt a1 x23_2)) = false := beq_eq_false_iff_ne.mpr c17; have c17b1 : ((bt a0 x23_2) != (bt a1 x23_2)) = true := bne_iff_ne.mpr c17; obtain rfl := Option.some.inj H; have p12 : 0 ≤ (x23_2 : Int) := of_decide_eq_true z17_0; have q12 : x23_2 < (a0.size : Int) := of_decide_eq_true z17_0; have hx12 := bt_at a0 x23_2; replace p12 := eq_true p12; replace q12 := eq_true q12; have p14 : 0 ≤ (x23_2 : Int) := of_decide_eq_true z17_0; have q14 : x23_2 < (a0.size : Int) := of_decide_eq_true z17_0; have hx14 := bt_at a0 x23_2; replace p14 := eq_true p14; replace q14 := eq_true q14; have p16 : 0 ≤ (x23_2 : Int) := of_decide_eq_true z17_0; have q16 : x23_2 < (a1.size : Int) := of_decide_eq_true z17_0; have hx16 := bt_at a1 x23_2; replace p16 := eq_true p16; replace q16 := eq_true q16; go_wp2
             repeat (go_quiet (fail); try go_wp2)
             go_ret
             exact ⟨z17_4, z17_1⟩
           ·rw [if_neg c15] at H
            exact absurd H (by simp)
         ·rw [if_neg c11] at H
          exact absurd H (by simp)
        ·rw [if_neg c10] at H
         exact absurd H (by simp)
       ·rw [if_neg c9] at H
        have c9b0 : decide (x23_2 < (a0.size : Int)) = false := decide_eq_false c9; clear c9; obtain rfl := Option.some.inj H; go_wp2
        repeat (go_quiet (fail); try go_wp2)
        go_ret
        exact ⟨z17_4, z17_1⟩

/-! ### impl_writeCells: function 27 (given) -/
/-- One byte in memory. -/
def wcEnc (b : UInt8) : Value := Value.int .u8 b.toNat
theorem wc_strOfNums (l : List UInt8) : strOfNums (l.map fun b => (b.toNat : Int)) = ⟨l.toArray⟩ := by
  unfold strOfNums
  congr 1
  simp [List.map_map, Function.comp_def]
theorem wc_holds (w : World) (e : TypeId) (s : ByteArray) : Go.Sort.Holds wcEnc (Lib.bytesWorld w e s) w.heap.size 0 s.data := by
  intro j hj
  have hj' : j < s.size := hj
  refine ⟨?_, ?_⟩
  · rw [Nat.zero_add, Lib.bytesWorld_cell w e s j hj']
    have : j < s.data.toList.length := by simpa using hj
    have hx : s.data[j]! = s.data[j] := getElem!_pos s.data j hj; rw [hx]
    simp [wcEnc, List.getD_eq_getElem?_getD, Array.getElem?_eq_getElem hj]
  · simp [World.frozen?, Lib.bytesWorld_at_new, Lib.bytesCells]
    try omega
theorem wc_below {w W : World} (enc : UInt8 → Value) (blk off : Nat) (d : Array UInt8) (n : Nat) (h : Below w.heap.size w W) (hb : w.heap.size ≤ blk) : Below w.heap.size w (Go.Sort.putRow enc (Go.Sort.ahead W n) blk off d) := by
  refine h.trans ⟨rfl, rfl, rfl, ?_, fun i hi => ?_⟩
  · simp [Go.Sort.putRow, Go.Sort.mapBlock, Go.Sort.ahead]
    try exact h.size
  · have : blk ≠ i := by omega
    simp [Go.Sort.putRow, Go.Sort.mapBlock, Go.Sort.ahead, Array.getElem?_modify, this]
theorem wc_reads (W : World) (s : ByteArray) (d : Array UInt8) (hd : d.size = s.size) (hs : s.size ≤ 9223372036854775807) (n : Nat) (e : TypeId) : ReadsInt (Go.Sort.putRow wcEnc (Go.Sort.ahead (Lib.bytesWorld W e s) n) W.heap.size 0 d) .u8 (some ⟨W.heap.size, 0, none⟩) s.size (d.toList.map fun b => (b.toNat : Int)) := by
  refine ⟨by simp [hd], hs, fun _ => ⟨_, rfl, fun j hj => ?_⟩⟩
  have hj' : j < d.size := by omega
  have hp := (Go.Sort.holds_putRow wcEnc (Go.Sort.ahead (Lib.bytesWorld W e s) n) W.heap.size 0 s.data d (Go.Sort.holds_ahead wcEnc _ n _ _ _ (wc_holds W e s)) hd j hj').1; rw [Nat.zero_add] at hp
  rw [add_plain, hp]
  have hx : d[j]! = d[j] := getElem!_pos d j hj'; rw [hx]
  unfold wcEnc
  have hl : j < d.toList.length := by simpa using hj'
  rw [List.getD_eq_getElem?_getD, List.getElem?_map, List.getElem?_eq_getElem hl]
  simp
/-- A row of bytes with a word's letters in some cells. -/
def writeGo (word : ByteArray) : List Int → Nat → Array UInt8 → Array UInt8
  | [], _, d => d
  | c :: l, i, d => writeGo word l (i + 1) (d.setIfInBounds c.toNat (word.data.toList.getD i 0))
theorem writeGo_nil (word : ByteArray) (i : Nat) (d : Array UInt8) : writeGo word [] i d = d := rfl
theorem writeGo_cons (word : ByteArray) (c : Int) (l : List Int) (i : Nat) (d : Array UInt8) : writeGo word (c :: l) i d = writeGo word l (i + 1) (d.setIfInBounds c.toNat (word.data.toList.getD i 0)) := rfl
def impl_writeCells.f (a0 : ByteArray) (l1 : List Int) (a2 : ByteArray) : Option ByteArray := if (∀ c ∈ l1, 0 ≤ c ∧ c < (a0.size : Int)) ∧ l1.length ≤ a2.size ∧ a0.size ≤ 1048576 ∧ l1.length ≤ 1048576 then some ⟨writeGo a2 l1 0 a0.data⟩ else none
theorem wc_at (s : ByteArray) (i : Nat) (h : i < s.size) : s.data.toList.getD i 0 = s[i] := by
  have hl : i < s.data.toList.length := by simpa using h
  rw [List.getD_eq_getElem?_getD, List.getElem?_eq_getElem hl]
  rfl
theorem impl_writeCells.calls (a0 : ByteArray) (A1 : Option Addr) (c1 : Nat) (l1 : List Int) (a2 : ByteArray) (r : ByteArray) (w : World) (hr1 : Kd.C (Kd.int .i64) w A1 l1.length l1) (hc1 : l1.length ≤ c1) (h : impl_writeCells.f a0 l1 a2 = some r) :
    Calls Tryd.prog 27 #[.string a0, .slice A1 l1.length c1, .string a2] w fun e w' => e = .returned (.string r) ∧ Below w.heap.size w w' := by
  unfold impl_writeCells.f at h
  by_cases hok : (∀ c ∈ l1, 0 ≤ c ∧ c < (a0.size : Int)) ∧ l1.length ≤ a2.size ∧ a0.size ≤ 1048576 ∧ l1.length ≤ 1048576
  · rw [if_pos hok] at h
    injection h with h
    subst h; obtain ⟨hcell, hlw, hsz, hll⟩ := hok; have HR1 := Aside0.mk hr1; have HC1 := Aside0.mk hc1; clear hr1 hc1; have kb := fun W => print_bytes (P := Tryd.prog) 9 22 5 Tryd.underlying9 Tryd.underlying22 Tryd.underlying5 a0 W
    have HH := Aside0.mk (wc_holds w 5 a0); have HB0 := Aside0.mk (bytes_below (Below.refl w.heap.size w) (Nat.le_refl _) 5 a0); go_enter Tryd.func27, Tryd.ntmps27
    go_wp2
    go_loopg [14] l1.length (fun kq v14 wr => ∃ (i n : Nat) (dk : Array UInt8), v14 = .int .i64 (i : Int) ∧ Aside0 (i ≤ l1.length) ∧ Aside0 (l1.length - i ≤ kq) ∧ Aside0 (dk.size = a0.size) ∧ Aside0 (wr = Go.Sort.putRow wcEnc (Go.Sort.ahead (Lib.bytesWorld w 5 a0) n) w.heap.size 0 dk) ∧ Aside0 (writeGo a2 (l1.drop i) i dk = writeGo a2 l1 0 a0.data))
    case atStart => exact ⟨0, 0, a0.data, rfl, ⟨Nat.zero_le _⟩, ⟨by omega⟩, ⟨rfl⟩, ⟨(Go.Sort.putRow_self wcEnc _ _ _ _ HH.out).symm⟩, ⟨rfl⟩⟩
    case round =>
      obtain ⟨i, n, dk, rfl, hi, hk, hd, hwr, heq⟩ := hrel; have HB := Aside0.mk (show Below w.heap.size w wr from by rw [hwr.out]; exact wc_below wcEnc _ _ _ _ HB0.out (Nat.le_refl _)); by_cases hlt : i < l1.length
      · have hcr : rd l1 (i : Int) = l1[i] := by
          unfold rd
          simp [hlt]
        have hm := hcell _ (List.getElem_mem hlt); have cb0 : decide ((i : Int) < (l1.length : Int)) = true := by simp; exact hlt
        have hHk : Go.Sort.Holds wcEnc wr w.heap.size 0 dk := by rw [hwr.out]; exact Go.Sort.holds_putRow wcEnc _ _ _ a0.data dk (Go.Sort.holds_ahead wcEnc _ n _ _ _ HH.out) hd.out
        obtain ⟨a, ha⟩ := Int.eq_ofNat_of_zero_le hm.1; have had : a < dk.size := by rw [hd.out]; omega
        obtain ⟨ci, fi⟩ := hHk a had; rw [Nat.zero_add] at ci fi
        unfold wcEnc at ci
        obtain ⟨ad, e, hx⟩ := Kd.at_int HR1.out (i : Int) (by omega) (by omega)
        cases e; replace hx := (HB.out.cell (World.block_lt_of_cell? w _ hx)).trans hx; rw [hcr, ha] at hx
        have p1 : (0 ≤ (i : Int)) = True := eq_true (by omega); have q1 : ((i : Int) < (l1.length : Int)) = True := eq_true (by omega); have q2 : ((i : Int) < (a2.size : Int)) = True := eq_true (by omega); have p3 : (0 ≤ (a : Int)) = True := eq_true (by omega); have q3 : ((a : Int) < (a0.size : Int)) = True := eq_true (by omega); have hw := wc_at a2 i (by omega); have hdd : dk.size = a0.size := hd.out; have hwr' := hwr.out
        have heq' := heq.out
        rw [List.drop_eq_getElem_cons hlt, writeGo_cons, ha, Int.toNat_natCast] at heq'
        simp only [Int.toNat_natCast] at hx; have HE := Aside0.mk heq'; clear heq' heq hwr hHk; have HWR := Aside0.mk hwr'; clear hwr' hcr hm ha hcell; go_wp2
        go_roundg (l1.length - (i + 1))
        case measure => have := hk.out; omega
        case rel =>
          refine ⟨i + 1, n, dk.setIfInBounds a (a2.data.toList.getD i 0), ?_, ⟨by omega⟩, ⟨Nat.le_refl _⟩, ⟨by rw [Array.size_setIfInBounds]; exact hdd⟩, ⟨?_⟩, HE⟩
          · simp
          · rw [HWR.out]
            have := Go.Sort.putRow_set wcEnc (Go.Sort.ahead (Lib.bytesWorld w 5 a0) n) w.heap.size 0 dk a (a2.data.toList.getD i 0) had
            rw [Nat.zero_add, hw] at this
            rw [hw]
            exact this
      · have cb0 : decide ((i : Int) < (l1.length : Int)) = false := by simp; omega
        have heq' := heq.out
        rw [List.drop_eq_nil_of_le (by omega), writeGo_nil] at heq'
        have hR : ReadsInt wr .u8 (some ⟨w.heap.size, 0, none⟩) a0.size (dk.toList.map fun b => (b.toNat : Int)) := by
          rw [hwr.out]
          exact wc_reads w a0 dk hd.out (by omega) n 5
        have kc := string_of_reads (P := Tryd.prog) (src := 22) (dst := 9) (e := 5) (c := grownCap w a0.size 0 5) Tryd.underlying22 Tryd.underlying5 Tryd.underlying9 hR; simp only [wc_strOfNums, Array.toArray_toList] at kc; rw [heq'] at kc
        clear hR heq'; go_wp2
        go_ret
        exact ⟨rfl, HB.out⟩
  · rw [if_neg hok] at h
    cases h


/-! ### impl_PutWord: function 6 -/
def impl_PutWord.f (k : Nat) (a0_0 : Int) (a0_1 : Int) (a0_2 : ByteArray) (a1 : ByteArray) (a2 : Int) (a3 : ByteArray) : Option (ByteArray × Bool) := (impl_SlotPattern.f k a0_0 a0_1 a0_2 a1 a2).bind fun t421 => ((impl_FitsPattern.f k t421 a3).bind fun t422 => (if t422 = true then ((impl_layout.f k a0_0 a0_1 a0_2).bind fun t423 => (if 0 ≤ a2 then (if a2 < (t423.length : Int) then ((impl_writeCells.f a1 (rd_L5 t423 a2) a3).bind fun t427 => (some (t427, true))) else (none)) else (none))) else (some (a1, false))))
theorem impl_PutWord.mono : ∀ a0 a1 a2 a3 a4 a5 k, LeO (impl_PutWord.f k a0 a1 a2 a3 a4 a5) (impl_PutWord.f (k + 1) a0 a1 a2 a3 a4 a5) := by
  intro a0 a1 a2 a3 a4 a5 k
  unfold impl_PutWord.f
  repeat' first
    | (with_reducible exact impl_FitsPattern.mono _ _ _)
    | (with_reducible exact impl_SlotPattern.mono _ _ _ _ _ _)
    | (with_reducible exact impl_layout.mono _ _ _ _)
    | (with_reducible exact LeO.refl _)
    | (with_reducible exact LeO.none _)
    | (with_reducible refine LeO.ite ?_ ?_)
    | (with_reducible refine LeO.bind ?_ (fun _ => ?_))
    | exact impl_FitsPattern.mono _ _ _
    | exact impl_SlotPattern.mono _ _ _ _ _ _
    | exact impl_layout.mono _ _ _ _
    | exact LeO.none _
    | refine LeO.ite ?_ ?_
    | refine LeO.bind ?_ (fun _ => ?_)
set_option maxHeartbeats 8000000 in
set_option maxRecDepth 100000 in
theorem impl_PutWord.calls (k : Nat) (a0_0 : Int) (a0_1 : Int) (a0_2 : ByteArray) (a1 : ByteArray) (a2 : Int) (a3 : ByteArray) (r1 : ByteArray) (r2 : Bool) (w : World) (h : impl_PutWord.f k a0_0 a0_1 a0_2 a1 a2 a3 = some (r1, r2)) :
   Calls Tryd.prog 6 #[.agg #[.int .i64 a0_0, .int .i64 a0_1, .string a0_2], .string a1, .int .i64 a2, .string a3] w fun e w' => e = .returned (.tuple #[.string r1, .bool r2]) ∧ Below w.heap.size w w' := by
  have hu25 := Tryd.underlying25; have HB := Aside0.mk (Below.refl w.heap.size w); have H : ((impl_SlotPattern.f k a0_0 a0_1 a0_2 a1 a2).bind fun t421 => ((impl_FitsPattern.f k t421 a3).bind fun t422 => (if t422 = true then ((impl_layout.f k a0_0 a0_1 a0_2).bind fun t423 => (if 0 ≤ a2 then (if a2 < (t423.length : Int) then ((impl_writeCells.f a1 (rd_L5 t423 a2) a3).bind fun t427 => (some (t427, true))) else (none)) else (none))) else (some (a1, false))))) = some (r1, r2) := h; clear h; replace H := Option.bind_eq_some_iff.mp H; obtain ⟨t421, A50, H⟩ := H; replace H : ((impl_FitsPattern.f k t421 a3).bind fun t422 => (if t422 = true then ((impl_layout.f k a0_0 a0_1 a0_2).bind fun t423 => (if 0 ≤ a2 then (if a2 < (t423.length : Int) then ((impl_writeCells.f a1 (rd_L5 t423 a2) a3).bind fun t427 => (some (t427, true))) else (none)) else (none))) else (some (a1, false)))) = some (r1, r2) := H; have A5 := Aside0.mk A50; clear A50; replace H := Option.bind_eq_some_iff.mp H; obtain ⟨t422, A60, H⟩ := H; replace H : (if t422 = true then ((impl_layout.f k a0_0 a0_1 a0_2).bind fun t423 => (if 0 ≤ a2 then (if a2 < (t423.length : Int) then ((impl_writeCells.f a1 (rd_L5 t423 a2) a3).bind fun t427 => (some (t427, true))) else (none)) else (none))) else (some (a1, false))) = some (r1, r2) := H; have A6 := Aside0.mk A60; clear A60; by_cases c7 : t422 = true
  ·subst c7; have H1 : ((impl_layout.f k a0_0 a0_1 a0_2).bind fun t423 => (if 0 ≤ a2 then (if a2 < (t423.length : Int) then ((impl_writeCells.f a1 (rd_L5 t423 a2) a3).bind fun t427 => (some (t427, true))) else (none)) else (none))) = some (r1, r2) := by rw [if_pos rfl] at H; exact H
   clear H; have H := H1; clear H1; replace H := Option.bind_eq_some_iff.mp H; obtain ⟨t423, A80, H⟩ := H; replace H : (if 0 ≤ a2 then (if a2 < (t423.length : Int) then ((impl_writeCells.f a1 (rd_L5 t423 a2) a3).bind fun t427 => (some (t427, true))) else (none)) else (none)) = some (r1, r2) := H; have A8 := Aside0.mk A80; clear A80; by_cases c9 : 0 ≤ a2
   ·rw [if_pos c9] at H
    have c9b0 : decide (0 ≤ a2) = true := decide_eq_true c9; clear c9; by_cases c10 : a2 < (t423.length : Int)
    ·rw [if_pos c10] at H
     have c10b0 : decide (a2 < (t423.length : Int)) = true := decide_eq_true c10; clear c10; replace H := Option.bind_eq_some_iff.mp H; obtain ⟨t427, A110, H⟩ := H; replace H : (some (t427, true)) = some (r1, r2) := H; have A11 := Aside0.mk A110; clear A110; simp only [Option.some.injEq, Prod.mk.injEq] at H; obtain ⟨rfl, rfl⟩ := H; go_enter Tryd.func6, Tryd.ntmps6
     go_wp2_with (first | ((with_reducible refine gate_dst (N := 4) rfl ?_); refine box_event ?hg (N := 4) ?hd (cs := #[.int .i64 a0_0, .int .i64 a0_1, .string a0_2]) (t := 25) ?hr ?_; (case hd => rfl); (case hg => rfl); (case hr => first | (go_simp; done) | (go_simp; rfl)); intro gb420 hg w12 hbox hb; have n0_ := Aside0.mk (below_step z17_5 hb); have n1_ := Aside0.mk (hbox); have n2_ := Aside0.mk ((by rw [hg]; exact (below_size z17_5) : w.heap.size ≤ gb420)); have n3_ := Aside0.mk ((by rw [hg]; exact (below_size z17_5) : w.heap.size ≤ gb420)); clear HB; have HB := n0_; have BK420 := n1_; have GW420 := n2_; have GE420 := n3_; clear n0_ n1_ n2_ n3_; clear hb hbox hg; have hcz13_0 : w12.cell? ⟨gb420, 0, none⟩ = some (.int .i64 a0_0) := (blk_cell BK420.out 0).trans rfl; have hcz13_1 : w12.cell? ⟨gb420, 1, none⟩ = some (.int .i64 a0_1) := (blk_cell BK420.out 1).trans rfl; have hcz13_2 : w12.cell? ⟨gb420, 2, none⟩ = some (.string a0_2) := (blk_cell BK420.out 2).trans rfl; have hfz13_0 := blk_frozen BK420.out 0; have hfz13_1 := blk_frozen BK420.out 1; have hfz13_2 := blk_frozen BK420.out 2) | ((with_reducible refine gate_callee (f := 8) rfl ?_); refine goesL_ (some 13) rfl rfl Tryd.func8 (by kernel_rfl) rfl #[.agg #[.int .i64 a0_0, .int .i64 a0_1, .string a0_2], .string a1, .int .i64 a2] rfl z17_3 ?_; (with_reducible refine (impl_SlotPattern.calls k a0_0 a0_1 a0_2 a1 a2 t421 _ A5.out).mono ?_); rintro e w14 ⟨rfl, hb⟩; refine ⟨_, rfl, ?_⟩; have n0_ := Aside0.mk (blk_below (g := gb420) (o := .cells #[.int .i64 a0_0, .int .i64 a0_1, .string a0_2] 25 (0, 0)) (bd17_ BK420.out) hb); have n1_ := Aside0.mk (below_step z17_2 hb); clear BK420; clear HB; have BK420 := n0_; have HB := n1_; clear n0_ n1_; (try clear hb); (try clear hb2); (try clear hk); (try clear hi)) | ((with_reducible refine gate_callee (f := 26) rfl ?_); refine goesL_ (some 15) rfl rfl Tryd.func26 (by kernel_rfl) rfl #[.string t421, .string a3] rfl z17_3 ?_; (with_reducible refine (impl_FitsPattern.calls k t421 a3 true _ A6.out).mono ?_); rintro e w' ⟨rfl, ⟨nd, rfl⟩⟩; refine ⟨_, rfl, ?_⟩; have hcz15_0 : w14.cell? ⟨gb420, 0, none⟩ = some (.int .i64 a0_0) := (blk_cell BK420.out 0).trans rfl; have hcz15_1 : w14.cell? ⟨gb420, 1, none⟩ = some (.int .i64 a0_1) := (blk_cell BK420.out 1).trans rfl; have hcz15_2 : w14.cell? ⟨gb420, 2, none⟩ = some (.string a0_2) := (blk_cell BK420.out 2).trans rfl; have hfz15_0 := blk_frozen BK420.out 0; have hfz15_1 := blk_frozen BK420.out 1; have hfz15_2 := blk_frozen BK420.out 2) | ((with_reducible refine gate_callee (f := 28) rfl ?_); refine goesL_ (some 20) rfl rfl Tryd.func28 (by kernel_rfl) rfl #[.agg #[.int .i64 a0_0, .int .i64 a0_1, .string a0_2]] rfl z17_3 ?_; (with_reducible refine (impl_layout.calls k a0_0 a0_1 a0_2 t423 _ A8.out).mono ?_); rintro e w16 ⟨v424, rfl, ho0, hb⟩; refine ⟨_, rfl, ?_⟩; have n0_ := Aside0.mk (Kd.S_lower ho0 (below_size z17_2)); have n1_ := Aside0.mk (blk_below (g := gb420) (o := .cells #[.int .i64 a0_0, .int .i64 a0_1, .string a0_2] 25 (0, 0)) (bd17_ BK420.out) hb); have n2_ := Aside0.mk (below_step z17_2 hb); clear BK420; clear HB; have HO425 := n0_; have BK420 := n1_; have HB := n2_; clear n0_ n1_ n2_; (try clear hb); (try clear hb2); (try clear hk); (try clear hi); (try clear ho0); obtain ⟨Ao17, co17, eo17⟩ := Kd.S_slice HO425.out; subst eo17; have p426 : 0 ≤ (a2 : Int) := of_decide_eq_true z17_0; have q426 : a2 < (t423.length : Int) := of_decide_eq_true z17_0; obtain ⟨ad426, A426_0, c426_0, e426, hx426_0, hl426_0, hi426_0⟩ := at_L5 (Kd.S_reads' HO425.out).2.2 a2 p426 q426; cases e426; obtain ⟨ce426, hce426, hMe426, hcc426⟩ := Kd.S_get HO425.out [] a2 p426 (by first | exact q426 | exact of_decide_eq_true z17_0 | (have e_ := (Kd.S_reads' HO425.out).1; omega)); obtain ⟨ve426_0, rfl, ge426_0⟩ := hMe426; have hv426_0 := hcc426 0 _ rfl; rw [Nat.add_zero, show ((Kd.slice 3 (Kd.int .i64))).sz = 1 from rfl, Nat.mul_one] at hv426_0; replace hv426_0 := Option.some.inj (hv426_0.symm.trans hx426_0); rw [hv426_0] at ge426_0; have HL426_0 := Aside0.mk (show Kd.R (Kd.int .i64) 3 _ _ _ _ (rd_L5 t423 a2) from ge426_0); clear hv426_0 ge426_0; clear hcc426 hce426; have HR426_0 := Aside0.mk hi426_0; have HC426_0 := Aside0.mk hl426_0; clear hi426_0 hl426_0; replace p426 := eq_true p426; replace q426 := eq_true q426) | ((with_reducible refine gate_callee (f := 27) rfl ?_); refine goesL_ (some 25) rfl rfl Tryd.func27 (by kernel_rfl) rfl #[.string a1, .slice A426_0 (rd_L5 t423 a2).length c426_0, .string a3] rfl z17_3 ?_; (with_reducible refine (impl_writeCells.calls a1 _ _ (rd_L5 t423 a2) a3 t427 _ ?side1 ?side2 A11.out).mono ?_); (case side1 => repeat (first | exact (by repeat (first | (with_reducible exact HR426_0.out) | (with_reducible refine Kd.C_alloc ?_ _) | (with_reducible refine Kd.C_drewN ?_ _) | (with_reducible refine Kd.C_drew ?_) | exact HR426_0.out)) | (with_reducible refine Kd.C_alloc ?_ _) | (with_reducible refine Kd.C_drewN ?_ _) | (with_reducible refine Kd.C_drew ?_))); (case side2 => exact HC426_0.out); rintro e w18 ⟨rfl, hb⟩; refine ⟨_, rfl, ?_⟩; have n0_ := Aside0.mk (Kd.S_below (by (with_reducible repeat (first | apply Kd.S_alloc | apply Kd.S_drewN | apply Kd.S_drew)); exact HO425.out) hb); have n1_ := Aside0.mk (Kd.R_below (by (with_reducible repeat (first | apply Kd.R_alloc | apply Kd.R_drewN | apply Kd.R_drew)); exact HL426_0.out) hb); have n2_ := Aside0.mk (blk_below (g := gb420) (o := .cells #[.int .i64 a0_0, .int .i64 a0_1, .string a0_2] 25 (0, 0)) (bd17_ BK420.out) hb); have n3_ := Aside0.mk (Kd.C_below (by repeat (first | (with_reducible exact HR426_0.out) | (with_reducible refine Kd.C_alloc ?_ _) | (with_reducible refine Kd.C_drewN ?_ _) | (with_reducible refine Kd.C_drew ?_) | exact HR426_0.out)) hb); have n4_ := Aside0.mk (below_step z17_2 hb); clear HO425; clear HL426_0; clear BK420; clear HR426_0; clear HB; have HO425 := n0_; have HL426_0 := n1_; have BK420 := n2_; have HR426_0 := n3_; have HB := n4_; clear n0_ n1_ n2_ n3_ n4_; (try clear hb); (try clear hb2); (try clear hk); (try clear hi)))
     go_ret2
     exact ⟨by first | rfl | (simp [errW_none, errW_some] <;> rfl) | (simp [*, errW_none, errW_some] <;> rfl), z17_2⟩
    ·rw [if_neg c10] at H
     exact absurd H (by simp)
   ·rw [if_neg c9] at H
    exact absurd H (by simp)
  ·replace c7 := Bool.eq_false_iff.mpr c7; subst c7; have H1 : (some (a1, false)) = some (r1, r2) := by rw [if_neg (show ¬ (false = true) by decide)] at H; exact H
   clear H; have H := H1; clear H1; simp only [Option.some.injEq, Prod.mk.injEq] at H; obtain ⟨rfl, rfl⟩ := H; go_enter Tryd.func6, Tryd.ntmps6
   go_wp2_with (first | ((with_reducible refine gate_dst (N := 4) rfl ?_); refine box_event ?hg (N := 4) ?hd (cs := #[.int .i64 a0_0, .int .i64 a0_1, .string a0_2]) (t := 25) ?hr ?_; (case hd => rfl); (case hg => rfl); (case hr => first | (go_simp; done) | (go_simp; rfl)); intro gb420 hg w19 hbox hb; have n0_ := Aside0.mk (below_step z17_5 hb); have n1_ := Aside0.mk (hbox); have n2_ := Aside0.mk ((by rw [hg]; exact (below_size z17_5) : w.heap.size ≤ gb420)); have n3_ := Aside0.mk ((by rw [hg]; exact (below_size z17_5) : w.heap.size ≤ gb420)); clear HB; have HB := n0_; have BK420 := n1_; have GW420 := n2_; have GE420 := n3_; clear n0_ n1_ n2_ n3_; clear hb hbox hg; have hcz20_0 : w19.cell? ⟨gb420, 0, none⟩ = some (.int .i64 a0_0) := (blk_cell BK420.out 0).trans rfl; have hcz20_1 : w19.cell? ⟨gb420, 1, none⟩ = some (.int .i64 a0_1) := (blk_cell BK420.out 1).trans rfl; have hcz20_2 : w19.cell? ⟨gb420, 2, none⟩ = some (.string a0_2) := (blk_cell BK420.out 2).trans rfl; have hfz20_0 := blk_frozen BK420.out 0; have hfz20_1 := blk_frozen BK420.out 1; have hfz20_2 := blk_frozen BK420.out 2) | ((with_reducible refine gate_callee (f := 8) rfl ?_); refine goesL_ (some 13) rfl rfl Tryd.func8 (by kernel_rfl) rfl #[.agg #[.int .i64 a0_0, .int .i64 a0_1, .string a0_2], .string a1, .int .i64 a2] rfl z17_3 ?_; (with_reducible refine (impl_SlotPattern.calls k a0_0 a0_1 a0_2 a1 a2 t421 _ A5.out).mono ?_); rintro e w21 ⟨rfl, hb⟩; refine ⟨_, rfl, ?_⟩; have n0_ := Aside0.mk (blk_below (g := gb420) (o := .cells #[.int .i64 a0_0, .int .i64 a0_1, .string a0_2] 25 (0, 0)) (bd17_ BK420.out) hb); have n1_ := Aside0.mk (below_step z17_2 hb); clear BK420; clear HB; have BK420 := n0_; have HB := n1_; clear n0_ n1_; (try clear hb); (try clear hb2); (try clear hk); (try clear hi)) | ((with_reducible refine gate_callee (f := 26) rfl ?_); refine goesL_ (some 15) rfl rfl Tryd.func26 (by kernel_rfl) rfl #[.string t421, .string a3] rfl z17_3 ?_; (with_reducible refine (impl_FitsPattern.calls k t421 a3 false _ A6.out).mono ?_); rintro e w' ⟨rfl, ⟨nd, rfl⟩⟩; refine ⟨_, rfl, ?_⟩))
   go_ret2
   exact ⟨by first | rfl | (simp [errW_none, errW_some] <;> rfl) | (simp [*, errW_none, errW_some] <;> rfl), z17_2⟩

/-! ### laws_agrees: function 9 -/
def laws_agrees.l0 : Nat → ByteArray → ByteArray → Int → Option (Bool)
  | 0, _, _, _ => none
  | k + 1, x0, x1, x5 => if x5 < (x1.size : Int) then (if 0 ≤ x5 then (if (bt x1 x5) = 63 then (laws_agrees.l0 k x0 x1 (wrap64 (x5 + 1))) else (if x5 ≥ (x0.size : Int) then (some false) else (if x5 < (x0.size : Int) then (if (bt x0 x5) = (bt x1 x5) then (laws_agrees.l0 k x0 x1 (wrap64 (x5 + 1))) else (some false)) else (none)))) else (none)) else (some ((x0.size : Int) == (x1.size : Int)))
def laws_agrees.f (k : Nat) (a0 : ByteArray) (a1 : ByteArray) : Option (Bool) := laws_agrees.l0 k a0 a1 0
theorem laws_agrees.mono_l : ∀ k, (∀ y0 y1 y2, LeO (laws_agrees.l0 k y0 y1 y2) (laws_agrees.l0 (k + 1) y0 y1 y2))
  | 0 => fun _ _ _ r h => by simp [laws_agrees.l0] at h
  | k + 1 => by
   have ih0 := laws_agrees.mono_l k
   ·intro y0 y1 y2
    unfold laws_agrees.l0
    repeat' first
    | (with_reducible exact ih0 _ _ _)
    | (with_reducible exact LeO.refl _)
    | (with_reducible exact LeO.none _)
    | (with_reducible refine LeO.ite ?_ ?_)
    | (with_reducible refine LeO.bind ?_ (fun _ => ?_))
    | exact ih0 _ _ _
    | exact LeO.none _
    | refine LeO.ite ?_ ?_
    | refine LeO.bind ?_ (fun _ => ?_)
theorem laws_agrees.mono : ∀ a0 a1 k, LeO (laws_agrees.f k a0 a1) (laws_agrees.f (k + 1) a0 a1) := by
  intro a0 a1 k
  have ih0 := laws_agrees.mono_l k; unfold laws_agrees.f
  repeat' first
    | (with_reducible exact ih0 _ _ _)
    | (with_reducible exact LeO.refl _)
    | (with_reducible exact LeO.none _)
    | (with_reducible refine LeO.ite ?_ ?_)
    | (with_reducible refine LeO.bind ?_ (fun _ => ?_))
    | exact ih0 _ _ _
    | exact LeO.none _
    | refine LeO.ite ?_ ?_
    | refine LeO.bind ?_ (fun _ => ?_)
set_option maxHeartbeats 8000000 in
set_option maxRecDepth 100000 in
theorem laws_agrees.calls (k : Nat) (a0 : ByteArray) (a1 : ByteArray) (r : Bool) (w : World) (h : laws_agrees.f k a0 a1 = some r) :
   Calls Tryd.prog 9 #[.string a0, .string a1] w fun e w' => e = .returned (.bool r) ∧ Drawn0 w w' := by
  have H : (laws_agrees.l0 k a0 a1 0) = some r := h; clear h; have H' := Aside0.mk H
  clear H; go_enter Tryd.func9, Tryd.ntmps9
  go_wp2
  repeat (go_quiet (fail); try go_wp2)
  go_loopg [5] k (fun kq v5 w' => ∃ (x5_1 : Int), v5 = .int .i64 x5_1 ∧ Aside0 (laws_agrees.l0 kq a0 a1 x5_1 = some r) ∧ Aside0 (kq ≤ k) ∧ Drawn0 w w')
  case atStart => exact ⟨(0), z17_4, H', ⟨Nat.le_refl _⟩, z17_1⟩
  case round =>
   clear H'; try clear p2
   obtain ⟨x5_1, rfl, HA, HK1, ⟨m1, rfl⟩⟩ := hrel
   cases gk with
   | zero => exact absurd HA.out (by simp [laws_agrees.l0])
   | succ k1 =>
    have H := HA.out; clear HA; simp only [laws_agrees.l0] at H; by_cases c3 : x5_1 < (a1.size : Int)
    ·rw [if_pos c3] at H
     have c3b0 : decide (x5_1 < (a1.size : Int)) = true := decide_eq_true c3; clear c3; by_cases c4 : 0 ≤ x5_1
     ·rw [if_pos c4] at H
      have c4b0 : decide (0 ≤ x5_1) = true := decide_eq_true c4; clear c4; by_cases c6 : (bt a1 x5_1) = 63
      ·rw [if_pos c6] at H
       have c6b0 : ((bt a1 x5_1) == 63) = true := beq_iff_eq.mpr c6; have c6b1 : ((bt a1 x5_1) != 63) = false := bne_eq_false_iff_eq.mpr c6; clear c6; have H' := Aside0.mk H
       clear H; have p5 : 0 ≤ (x5_1 : Int) := of_decide_eq_true z17_0; have q5 : x5_1 < (a1.size : Int) := of_decide_eq_true z17_0; have hx5 := bt_at a1 x5_1; replace p5 := eq_true p5; replace q5 := eq_true q5; go_wp2
       repeat (go_quiet (fail); try go_wp2)
       go_roundg k1
       case measure => have := HK1.out; omega
       case rel => exact ⟨(wrap64 (x5_1 + 1)), z17_4, H', ⟨by have := HK1.out; omega⟩, z17_1⟩
      ·rw [if_neg c6] at H
       have c6b0 : ((bt a1 x5_1) == 63) = false := beq_eq_false_iff_ne.mpr c6; have c6b1 : ((bt a1 x5_1) != 63) = true := bne_iff_ne.mpr c6; by_cases c7 : x5_1 ≥ (a0.size : Int)
       ·rw [if_pos c7] at H
        have c7b0 : decide ((a0.size : Int) ≤ x5_1) = true := decide_eq_true c7; clear c7; obtain rfl := Option.some.inj H; have p5 : 0 ≤ (x5_1 : Int) := of_decide_eq_true z17_0; have q5 : x5_1 < (a1.size : Int) := of_decide_eq_true z17_0; have hx5 := bt_at a1 x5_1; replace p5 := eq_true p5; replace q5 := eq_true q5; go_wp2
        repeat (go_quiet (fail); try go_wp2)
        go_ret
        exact ⟨z17_4, z17_1⟩
       ·rw [if_neg c7] at H
        have c7b0 : decide ((a0.size : Int) ≤ x5_1) = false := decide_eq_false c7; clear c7; by_cases c8 : x5_1 < (a0.size : Int)
        ·rw [if_pos c8] at H
         have c8b0 : decide (x5_1 < (a0.size : Int)) = true := decide_eq_true c8; clear c8; by_cases c11 : (bt a0 x5_1) = (bt a1 x5_1)
         ·rw [if_pos c11] at H
          have c11b0 : ((bt a0 x5_1) == (bt a1 x5_1)) = true := beq_iff_eq.mpr c11; have c11b1 : ((bt a0 x5_1) != (bt a1 x5_1)) = false := bne_eq_false_iff_eq.mpr c11; clear c11; have H' := Aside0.mk H
          clear H; have p5 : 0 ≤ (x5_1 : Int) := of_decide_eq_true z17_0; have q5 : x5_1 < (a1.size : Int) := of_decide_eq_true z17_0; have hx5 := bt_at a1 x5_1; replace p5 := eq_true p5; replace q5 := eq_true q5; have p9 : 0 ≤ (x5_1 : Int) := of_decide_eq_true z17_0; have q9 : x5_1 < (a0.size : Int) := of_decide_eq_true z17_0; have hx9 := bt_at a0 x5_1; replace p9 := eq_true p9; replace q9 := eq_true q9; have p10 : 0 ≤ (x5_1 : Int) := of_decide_eq_true z17_0; have q10 : x5_1 < (a1.size : Int) := of_decide_eq_true z17_0; have hx10 := bt_at a1 x5_1; replace p10 := eq_true p10; replace q10 := eq_true q10; go_wp2
          repeat (go_quiet (fail); try go_wp2)
          go_roundg k1
          case measure => have := HK1.out; omega
          case rel => exact ⟨(wrap64 (x5_1 + 1)), z17_4, H', ⟨by have := HK1.out; omega⟩, z17_1⟩
         ·rw [if_neg c11] at H
          have c11b0 : ((bt a0 x5_1) == (bt a1 x5_1)) = false := beq_eq_false_iff_ne.mpr c11; have c11b1 : ((bt a0 x5_1) != (bt a1 x5_1)) = true := bne_iff_ne.mpr c11; obtain rfl := Option.some.inj H; have p5 : 0 ≤ (x5_1 : Int) := of_decide_eq_true z17_0; have q5 : x5_1 < (a1.size : Int) := of_decide_eq_true z17_0; have hx5 := bt_at a1 x5_1; replace p5 := eq_true p5; replace q5 := eq_true q5; have p9 : 0 ≤ (x5_1 : Int) := of_decide_eq_true z17_0; have q9 : x5_1 < (a0.size : Int) := of_decide_eq_true z17_0; have hx9 := bt_at a0 x5_1; replace p9 := eq_true p9; replace q9 := eq_true q9; have p10 : 0 ≤ (x5_1 : Int) := of_decide_eq_true z17_0; have q10 : x5_1 < (a1.size : Int) := of_decide_eq_true z17_0; have hx10 := bt_at a1 x5_1; replace p10 := eq_true p10; replace q10 := eq_true q10; go_wp2
          repeat (go_quiet (fail); try go_wp2)
          go_ret
          exact ⟨z17_4, z17_1⟩
        ·rw [if_neg c8] at H
         exact absurd H (by simp)
     ·rw [if_neg c4] at H
      exact absurd H (by simp)
    ·rw [if_neg c3] at H
     have c3b0 : decide (x5_1 < (a1.size : Int)) = false := decide_eq_false c3; clear c3; obtain rfl := Option.some.inj H; go_wp2
     repeat (go_quiet (fail); try go_wp2)
     go_ret
     exact ⟨z17_4, z17_1⟩

/-! ### slices_Index_string_string: function 54 -/
def slices_Index_string_string.l0 : Nat → List ByteArray → ByteArray → Int → Int → Option (Int)
  | 0, _, _, _, _ => none
  | k + 1, x0, x1, x7, x8 => if x8 < x7 then (if 0 ≤ x8 then (if x8 < (x0.length : Int) then (if x1.toList = (rdOf ByteArray.empty x0 x8).toList then (some x8) else (slices_Index_string_string.l0 k x0 x1 x7 (wrap64 (x8 + 1)))) else (none)) else (none)) else (some (-1))
def slices_Index_string_string.f (k : Nat) (l0 : List ByteArray) (a1 : ByteArray) : Option (Int) := slices_Index_string_string.l0 k l0 a1 (l0.length : Int) 0
theorem slices_Index_string_string.mono_l : ∀ k, (∀ y0 y1 y2 y3, LeO (slices_Index_string_string.l0 k y0 y1 y2 y3) (slices_Index_string_string.l0 (k + 1) y0 y1 y2 y3))
  | 0 => fun _ _ _ _ r h => by simp [slices_Index_string_string.l0] at h
  | k + 1 => by
   have ih0 := slices_Index_string_string.mono_l k
   ·intro y0 y1 y2 y3
    unfold slices_Index_string_string.l0
    repeat' first
    | (with_reducible exact ih0 _ _ _ _)
    | (with_reducible exact LeO.refl _)
    | (with_reducible exact LeO.none _)
    | (with_reducible refine LeO.ite ?_ ?_)
    | (with_reducible refine LeO.bind ?_ (fun _ => ?_))
    | exact ih0 _ _ _ _
    | exact LeO.none _
    | refine LeO.ite ?_ ?_
    | refine LeO.bind ?_ (fun _ => ?_)
theorem slices_Index_string_string.mono : ∀ a0 a1 k, LeO (slices_Index_string_string.f k a0 a1) (slices_Index_string_string.f (k + 1) a0 a1) := by
  intro a0 a1 k
  have ih0 := slices_Index_string_string.mono_l k; unfold slices_Index_string_string.f
  repeat' first
    | (with_reducible exact ih0 _ _ _ _)
    | (with_reducible exact LeO.refl _)
    | (with_reducible exact LeO.none _)
    | (with_reducible refine LeO.ite ?_ ?_)
    | (with_reducible refine LeO.bind ?_ (fun _ => ?_))
    | exact ih0 _ _ _ _
    | exact LeO.none _
    | refine LeO.ite ?_ ?_
    | refine LeO.bind ?_ (fun _ => ?_)
set_option maxHeartbeats 8000000 in
set_option maxRecDepth 100000 in
theorem slices_Index_string_string.calls (k : Nat) (A0 : Option Addr) (c0 : Nat) (l0 : List ByteArray) (a1 : ByteArray) (r : Int) (w : World) (hr0 : Kd.C Kd.string w A0 l0.length l0) (hc0 : l0.length ≤ c0) (h : slices_Index_string_string.f k l0 a1 = some r) :
   Calls Tryd.prog 54 #[.slice A0 l0.length c0, .string a1] w fun e w' => e = .returned (.int .i64 r) ∧ Drawn0 w w' := by
  have HR0 := Aside0.mk hr0; have HC0 := Aside0.mk hc0; clear hr0 hc0; have H : (slices_Index_string_string.l0 k l0 a1 (l0.length : Int) 0) = some r := h; clear h; have H' := Aside0.mk H
  clear H; go_enter Tryd.func54, Tryd.ntmps54
  go_wp2
  go_loopg [8] k (fun kq v8 w' => ∃ (x8_1 : Int), v8 = .int .i64 x8_1 ∧ Aside0 (slices_Index_string_string.l0 kq l0 a1 (l0.length : Int) x8_1 = some r) ∧ Aside0 (kq ≤ k) ∧ Drawn0 w w')
  case atStart => exact ⟨(0), z17_4, H', ⟨Nat.le_refl _⟩, z17_1⟩
  case round =>
   clear H'; try clear p2
   obtain ⟨x8_1, rfl, HA, HK1, ⟨m1, rfl⟩⟩ := hrel
   cases gk with
   | zero => exact absurd HA.out (by simp [slices_Index_string_string.l0])
   | succ k1 =>
    have H := HA.out; clear HA; simp only [slices_Index_string_string.l0] at H; by_cases c3 : x8_1 < (l0.length : Int)
    ·rw [if_pos c3] at H
     have c3b0 : decide (x8_1 < (l0.length : Int)) = true := decide_eq_true c3; clear c3; by_cases c4 : 0 ≤ x8_1
     ·rw [if_pos c4] at H
      have c4b0 : decide (0 ≤ x8_1) = true := decide_eq_true c4; clear c4; by_cases c5 : x8_1 < (l0.length : Int)
      ·rw [if_pos c5] at H
       have c5b0 : decide (x8_1 < (l0.length : Int)) = true := decide_eq_true c5; clear c5; by_cases c6 : a1.toList = (rdOf ByteArray.empty l0 x8_1).toList
       ·rw [if_pos c6] at H
        have c6b0 : (a1.toList == (rdOf ByteArray.empty l0 x8_1).toList) = true := beq_iff_eq.mpr c6; have c6b1 : (a1.toList != (rdOf ByteArray.empty l0 x8_1).toList) = false := bne_eq_false_iff_eq.mpr c6; clear c6; obtain rfl := Option.some.inj H; have p428 : 0 ≤ (x8_1 : Int) := of_decide_eq_true z17_0; have q428 : x8_1 < (l0.length : Int) := of_decide_eq_true z17_0; obtain ⟨ad428, e428, hx428_0⟩ := Kd.at_string HR0.out x8_1 p428 q428
        cases e428; replace p428 := eq_true p428; replace q428 := eq_true q428; go_wp2
        go_ret
        exact ⟨z17_4, z17_1⟩
       ·rw [if_neg c6] at H
        have c6b0 : (a1.toList == (rdOf ByteArray.empty l0 x8_1).toList) = false := beq_eq_false_iff_ne.mpr c6; have c6b1 : (a1.toList != (rdOf ByteArray.empty l0 x8_1).toList) = true := bne_iff_ne.mpr c6; have H' := Aside0.mk H
        clear H; have p428 : 0 ≤ (x8_1 : Int) := of_decide_eq_true z17_0; have q428 : x8_1 < (l0.length : Int) := of_decide_eq_true z17_0; obtain ⟨ad428, e428, hx428_0⟩ := Kd.at_string HR0.out x8_1 p428 q428
        cases e428; replace p428 := eq_true p428; replace q428 := eq_true q428; go_wp2
        go_roundg k1
        case measure => have := HK1.out; omega
        case rel => exact ⟨(wrap64 (x8_1 + 1)), z17_4, H', ⟨by have := HK1.out; omega⟩, z17_1⟩
      ·rw [if_neg c5] at H
       exact absurd H (by simp)
     ·rw [if_neg c4] at H
      exact absurd H (by simp)
    ·rw [if_neg c3] at H
     have c3b0 : decide (x8_1 < (l0.length : Int)) = false := decide_eq_false c3; clear c3; obtain rfl := Option.some.inj H; go_wp2
     go_ret
     exact ⟨z17_4, z17_1⟩

/-! ### slices_Contains_string_string: function 32 -/
def slices_Contains_string_string.f (k : Nat) (l0 : List ByteArray) (a1 : ByteArray) : Option (Bool) := (slices_Index_string_string.f k l0 a1).bind fun t429 => (some (decide (t429 ≥ 0)))
theorem slices_Contains_string_string.mono : ∀ a0 a1 k, LeO (slices_Contains_string_string.f k a0 a1) (slices_Contains_string_string.f (k + 1) a0 a1) := by
  intro a0 a1 k
  unfold slices_Contains_string_string.f
  repeat' first
    | (with_reducible exact slices_Index_string_string.mono _ _ _)
    | (with_reducible exact LeO.refl _)
    | (with_reducible exact LeO.none _)
    | (with_reducible refine LeO.ite ?_ ?_)
    | (with_reducible refine LeO.bind ?_ (fun _ => ?_))
    | exact slices_Index_string_string.mono _ _ _
    | exact LeO.none _
    | refine LeO.ite ?_ ?_
    | refine LeO.bind ?_ (fun _ => ?_)
set_option maxHeartbeats 8000000 in
set_option maxRecDepth 100000 in
theorem slices_Contains_string_string.calls (k : Nat) (A0 : Option Addr) (c0 : Nat) (l0 : List ByteArray) (a1 : ByteArray) (r : Bool) (w : World) (hr0 : Kd.C Kd.string w A0 l0.length l0) (hc0 : l0.length ≤ c0) (h : slices_Contains_string_string.f k l0 a1 = some r) :
   Calls Tryd.prog 32 #[.slice A0 l0.length c0, .string a1] w fun e w' => e = .returned (.bool r) ∧ Drawn0 w w' := by
  have HR0 := Aside0.mk hr0; have HC0 := Aside0.mk hc0; clear hr0 hc0; have H : ((slices_Index_string_string.f k l0 a1).bind fun t429 => (some (decide (t429 ≥ 0)))) = some r := h; clear h; replace H := Option.bind_eq_some_iff.mp H; obtain ⟨t429, A30, H⟩ := H; replace H : (some (decide (t429 ≥ 0))) = some r := H; have A3 := Aside0.mk A30; clear A30; obtain rfl := Option.some.inj H; go_enter Tryd.func32, Tryd.ntmps32
  go_wp2_with (first | ((with_reducible refine gate_callee (f := 54) rfl ?_); refine goesL_ (some 7) rfl rfl Tryd.func54 (by kernel_rfl) rfl #[.slice A0 l0.length c0, .string a1] rfl z17_3 ?_; (with_reducible refine (slices_Index_string_string.calls k _ _ l0 a1 t429 _ ?side1 ?side2 A3.out).mono ?_); (case side1 => repeat (first | exact HR0.out | (with_reducible refine Kd.C_alloc ?_ _) | (with_reducible refine Kd.C_drewN ?_ _) | (with_reducible refine Kd.C_drew ?_))); (case side2 => exact HC0.out); rintro e w' ⟨rfl, ⟨nd, rfl⟩⟩; refine ⟨_, rfl, ?_⟩))
  go_ret
  exact ⟨z17_4, z17_1⟩

/-! ### impl_HasWord: function 10 -/
def impl_HasWord.f (k : Nat) (l0 : List ByteArray) (a1 : ByteArray) : Option (Bool) := (slices_Contains_string_string.f k l0 a1).bind fun t430 => (some t430)
theorem impl_HasWord.mono : ∀ a0 a1 k, LeO (impl_HasWord.f k a0 a1) (impl_HasWord.f (k + 1) a0 a1) := by
  intro a0 a1 k
  unfold impl_HasWord.f
  repeat' first
    | (with_reducible exact slices_Contains_string_string.mono _ _ _)
    | (with_reducible exact LeO.refl _)
    | (with_reducible exact LeO.none _)
    | (with_reducible refine LeO.ite ?_ ?_)
    | (with_reducible refine LeO.bind ?_ (fun _ => ?_))
    | exact slices_Contains_string_string.mono _ _ _
    | exact LeO.none _
    | refine LeO.ite ?_ ?_
    | refine LeO.bind ?_ (fun _ => ?_)
set_option maxHeartbeats 8000000 in
set_option maxRecDepth 100000 in
theorem impl_HasWord.calls (k : Nat) (A0 : Option Addr) (c0 : Nat) (l0 : List ByteArray) (a1 : ByteArray) (r : Bool) (w : World) (hr0 : Kd.C Kd.string w A0 l0.length l0) (hc0 : l0.length ≤ c0) (h : impl_HasWord.f k l0 a1 = some r) :
   Calls Tryd.prog 10 #[.slice A0 l0.length c0, .string a1] w fun e w' => e = .returned (.bool r) ∧ Drawn0 w w' := by
  have HR0 := Aside0.mk hr0; have HC0 := Aside0.mk hc0; clear hr0 hc0; have H : ((slices_Contains_string_string.f k l0 a1).bind fun t430 => (some t430)) = some r := h; clear h; replace H := Option.bind_eq_some_iff.mp H; obtain ⟨t430, A30, H⟩ := H; replace H : (some t430) = some r := H; have A3 := Aside0.mk A30; clear A30; obtain rfl := Option.some.inj H; go_enter Tryd.func10, Tryd.ntmps10
  go_wp2_with (first | ((with_reducible refine gate_callee (f := 32) rfl ?_); refine goesL_ (some 7) rfl rfl Tryd.func32 (by kernel_rfl) rfl #[.slice A0 l0.length c0, .string a1] rfl z17_3 ?_; (with_reducible refine (slices_Contains_string_string.calls k _ _ l0 a1 t430 _ ?side1 ?side2 A3.out).mono ?_); (case side1 => repeat (first | exact HR0.out | (with_reducible refine Kd.C_alloc ?_ _) | (with_reducible refine Kd.C_drewN ?_ _) | (with_reducible refine Kd.C_drew ?_))); (case side2 => exact HC0.out); rintro e w' ⟨rfl, ⟨nd, rfl⟩⟩; refine ⟨_, rfl, ?_⟩))
  go_ret
  exact ⟨z17_4, z17_1⟩

-- NOT PRINTED: function 33 (impl_those)

end Go.Proofs.YtodcckiphdnjeabDoor.QFnFills
