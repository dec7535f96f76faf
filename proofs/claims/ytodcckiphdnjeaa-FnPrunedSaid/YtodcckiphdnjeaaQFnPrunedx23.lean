-- Written by a changed copy of the kit's printer (wip/mp.py of this repo), for this claim; Lean checks it.
import Derived.Test.YtodcckiphdnjeaaQFnPrunedx0
import Derived.Test.YtodcckiphdnjeaaQFnPrunedx2
import Derived.Test.YtodcckiphdnjeaaQFnPrunedx5
import Derived.Test.YtodcckiphdnjeaaQFnPrunedx6
namespace Go.Proofs.Ytodcckiphdnjeaa.QFnPruned
open Go.RowKit Go.Proofs.YtodcckiphdnjeaaW.PrintWords Go.Proofs.YtodcckiphdnjeaaW.PrintLast Go.Proofs.YtodcckiphdnjeaaW.PrintMore
attribute [local go_sem] max2_int min2_int max_two min_two max_three min_three max_four min_four   -- for this text's walks alone
set_option linter.unusedVariables false
set_option maxHeartbeats 8000000
set_option maxRecDepth 100000
set_option linter.unusedSimpArgs false

/-! ### impl_IsPattern: function 116 -/
def impl_IsPattern.l0 : Nat → ByteArray → Int → Int → Option (Bool)
  | 0, _, _, _ => none
  | k + 1, x0, x9, x10 => if x10 < x9 then (if 0 ≤ x10 then (if x10 < (x0.size : Int) then (if (bt x0 x10) = 63 then (impl_IsPattern.l0 k x0 x9 (wrap64 (x10 + 1))) else ((impl_isLetter.f (bt x0 x10)).bind fun t522 => (if t522 = true then (impl_IsPattern.l0 k x0 x9 (wrap64 (x10 + 1))) else (some false)))) else (none)) else (none)) else (some true)
def impl_IsPattern.f (k : Nat) (a0 : ByteArray) : Option (Bool) := (impl_InRange.f (a0.size : Int) 1 8).bind fun t521 => (if t521 = true then (impl_IsPattern.l0 k a0 (a0.size : Int) 0) else (some false))
theorem impl_IsPattern.calls (k : Nat) (a0 : ByteArray) (r : Bool) (w : World) (h : impl_IsPattern.f k a0 = some r) :
   Calls Try.prog 116 #[.string a0] w fun e w' => e = .returned (.bool r) ∧ Drawn0 w w' := by
  have H : ((impl_InRange.f (a0.size : Int) 1 8).bind fun t521 => (if t521 = true then (impl_IsPattern.l0 k a0 (a0.size : Int) 0) else (some false))) = some r := h; clear h; replace H := Option.bind_eq_some_iff.mp H; obtain ⟨t521, A20, H⟩ := H; try dsimp only at H
  have A2 := Aside0.mk A20; clear A20; by_cases c3 : t521 = true
  ·subst c3; rw [if_pos rfl] at H
   have H' := Aside0.mk H
   clear H; go_enter Try.func116, Try.ntmps116
   go_wp2_with (first | ((with_reducible refine gate_callee (f := 49) rfl ?_); refine goesL_ (some 6) rfl rfl Try.func49 (by kernel_rfl) rfl #[.int .i64 (a0.size : Int), .int .i64 1, .int .i64 8] rfl (by (try simp only [List.map_toArray, List.map_cons, List.map_nil]); first | done | rfl | (simp only [List.length_drop, List.length_take]; rfl)) ?_; (with_reducible refine (impl_InRange.calls (a0.size : Int) 1 8 true _ A2.out).mono ?_); rintro e w' ⟨rfl, ⟨nd, rfl⟩⟩; refine ⟨_, rfl, ?_⟩))
   go_loopg [10] k (fun kq v10 w' => ∃ (x10_1 : Int), v10 = .int .i64 x10_1 ∧ Aside0 (impl_IsPattern.l0 kq a0 (a0.size : Int) x10_1 = some r) ∧ Aside0 (kq ≤ k) ∧ Drawn0 w w')
   case atStart => exact ⟨(0), z_g2, H', ⟨Nat.le_refl _⟩, z_g3⟩
   case round =>
    clear H'; try clear c1
    try clear p2
    try clear c3
    obtain ⟨x10_1, rfl, HA, HK1, ⟨m1, rfl⟩⟩ := hrel
    cases gk with
    | zero => exact absurd HA.out (by simp [impl_IsPattern.l0])
    | succ k1 =>
     have H := HA.out; clear HA; simp only [impl_IsPattern.l0] at H; by_cases c4 : x10_1 < (a0.size : Int)
     ·rw [if_pos c4] at H
      have c4b0 := decide_eq_true c4; clear c4; by_cases c5 : 0 ≤ x10_1
      ·rw [if_pos c5] at H
       have c5b0 := decide_eq_true c5; clear c5; by_cases c6 : x10_1 < (a0.size : Int)
       ·rw [if_pos c6] at H
        have c6b0 := decide_eq_true c6; clear c6; by_cases c8 : (bt a0 x10_1) = 63
        ·rw [if_pos c8] at H
         have c8b0 : ((bt a0 x10_1) == 63) = true := beq_iff_eq.mpr c8; have c8b1 : ((bt a0 x10_1) != 63) = false := bne_eq_false_iff_eq.mpr c8; clear c8; have H' := Aside0.mk H
         clear H; have p7 : 0 ≤ (x10_1 : Int) := of_decide_eq_true z_g1; have q7 : x10_1 < (a0.size : Int) := of_decide_eq_true z_g1; have hx7 := bt_at a0 x10_1; replace p7 := eq_true p7; replace q7 := eq_true q7; go_wp2
         go_roundg k1
         case measure => have := HK1.out; omega
         case rel => exact ⟨(wrap64 (x10_1 + 1)), z_g2, H', ⟨by have := HK1.out; omega⟩, z_g3⟩
        ·rw [if_neg c8] at H
         have c8b0 : ((bt a0 x10_1) == 63) = false := beq_eq_false_iff_ne.mpr c8; have c8b1 : ((bt a0 x10_1) != 63) = true := bne_iff_ne.mpr c8; replace H := Option.bind_eq_some_iff.mp H; obtain ⟨t522, A100, H⟩ := H; try dsimp only at H
         have A10 := Aside0.mk A100; clear A100; by_cases c11 : t522 = true
         ·subst c11; rw [if_pos rfl] at H
          have H' := Aside0.mk H
          clear H; have p7 : 0 ≤ (x10_1 : Int) := of_decide_eq_true z_g1; have q7 : x10_1 < (a0.size : Int) := of_decide_eq_true z_g1; have hx7 := bt_at a0 x10_1; replace p7 := eq_true p7; replace q7 := eq_true q7; have p9 : 0 ≤ (x10_1 : Int) := of_decide_eq_true z_g1; have q9 : x10_1 < (a0.size : Int) := of_decide_eq_true z_g1; have hx9 := bt_at a0 x10_1; replace p9 := eq_true p9; replace q9 := eq_true q9; go_wp2_with (first | (go_at_call 77; (with_reducible refine (impl_isLetter.calls (bt a0 x10_1) true _ A10.out).mono ?_); rintro e w' ⟨rfl, ⟨nd, rfl⟩⟩))
          go_roundg k1
          case measure => have := HK1.out; omega
          case rel => exact ⟨(wrap64 (x10_1 + 1)), z_g2, H', ⟨by have := HK1.out; omega⟩, z_g3⟩
         ·replace c11 := Bool.eq_false_iff.mpr c11; subst c11; rw [if_neg (show ¬ (false = true) by decide)] at H
          obtain rfl := Option.some.inj H; have p7 : 0 ≤ (x10_1 : Int) := of_decide_eq_true z_g1; have q7 : x10_1 < (a0.size : Int) := of_decide_eq_true z_g1; have hx7 := bt_at a0 x10_1; replace p7 := eq_true p7; replace q7 := eq_true q7; have p9 : 0 ≤ (x10_1 : Int) := of_decide_eq_true z_g1; have q9 : x10_1 < (a0.size : Int) := of_decide_eq_true z_g1; have hx9 := bt_at a0 x10_1; replace p9 := eq_true p9; replace q9 := eq_true q9; go_wp2_with (first | (go_at_call 77; (with_reducible refine (impl_isLetter.calls (bt a0 x10_1) false _ A10.out).mono ?_); rintro e w' ⟨rfl, ⟨nd, rfl⟩⟩))
          go_ret
          exact ⟨z_g2, z_g3⟩
       ·rw [if_neg c6] at H
        exact absurd H (by simp)
      ·rw [if_neg c5] at H
       exact absurd H (by simp)
     ·rw [if_neg c4] at H
      have c4b0 := decide_eq_false c4; clear c4; obtain rfl := Option.some.inj H; go_wp2
      go_ret
      exact ⟨z_g2, z_g3⟩
  ·replace c3 := Bool.eq_false_iff.mpr c3; subst c3; rw [if_neg (show ¬ (false = true) by decide)] at H
   obtain rfl := Option.some.inj H; go_enter Try.func116, Try.ntmps116
   go_wp2_with (first | ((with_reducible refine gate_callee (f := 49) rfl ?_); refine goesL_ (some 6) rfl rfl Try.func49 (by kernel_rfl) rfl #[.int .i64 (a0.size : Int), .int .i64 1, .int .i64 8] rfl (by (try simp only [List.map_toArray, List.map_cons, List.map_nil]); first | done | rfl | (simp only [List.length_drop, List.length_take]; rfl)) ?_; (with_reducible refine (impl_InRange.calls (a0.size : Int) 1 8 false _ A2.out).mono ?_); rintro e w' ⟨rfl, ⟨nd, rfl⟩⟩; refine ⟨_, rfl, ?_⟩))
   go_ret
   exact ⟨z_g2, z_g3⟩

/-! ### impl_FitsPattern: function 89 -/
mutual
def impl_FitsPattern.j0 : Nat → ByteArray → ByteArray → Bool → Option (Bool)
  | 0, _, _, _ => none
  | k + 1, x0, x1, x20 => if x20 = true then (some false) else (impl_FitsPattern.l0 k x0 x1 (x0.size : Int) 0)
def impl_FitsPattern.l0 : Nat → ByteArray → ByteArray → Int → Int → Option (Bool)
  | 0, _, _, _, _ => none
  | k + 1, x0, x1, x22, x23 => if x23 < x22 then (if 0 ≤ x23 then (if x23 < (x0.size : Int) then (if (bt x0 x23) = 63 then (impl_FitsPattern.l0 k x0 x1 x22 (wrap64 (x23 + 1))) else (if x23 < (x1.size : Int) then (if (bt x0 x23) = (bt x1 x23) then (impl_FitsPattern.l0 k x0 x1 x22 (wrap64 (x23 + 1))) else (some false)) else (none))) else (none)) else (none)) else (some true)
end
def impl_FitsPattern.f (k : Nat) (a0 : ByteArray) (a1 : ByteArray) : Option (Bool) := (impl_IsPattern.f k a0).bind fun t523 => (if t523 = true then ((impl_IsWord.f k a1).bind fun t524 => (if t524 = true then (impl_FitsPattern.j0 k a0 a1 ((a0.size : Int) != (a1.size : Int))) else (impl_FitsPattern.j0 k a0 a1 true))) else (impl_FitsPattern.j0 k a0 a1 true))
theorem impl_FitsPattern.calls (k : Nat) (a0 : ByteArray) (a1 : ByteArray) (r : Bool) (w : World) (h : impl_FitsPattern.f k a0 a1 = some r) :
   Calls Try.prog 89 #[.string a0, .string a1] w fun e w' => e = .returned (.bool r) ∧ Drawn0 w w' := by
  have H : ((impl_IsPattern.f k a0).bind fun t523 => (if t523 = true then ((impl_IsWord.f k a1).bind fun t524 => (if t524 = true then (impl_FitsPattern.j0 k a0 a1 ((a0.size : Int) != (a1.size : Int))) else (impl_FitsPattern.j0 k a0 a1 true))) else (impl_FitsPattern.j0 k a0 a1 true))) = some r := h; clear h; have HC3 := Aside0.mk H; clear H; go_enter Try.func89, Try.ntmps89
  go_upto_region 1 with (fail)
  repeat (go_quiet (fail); go_upto_region 1 with (fail))
  go_cut [20] (fun v20 wc => ∃ (kq : Nat) (x20_2 : Bool), v20 = .bool x20_2 ∧ Aside0 (impl_FitsPattern.j0 kq a0 a1 x20_2 = some r) ∧ Aside0 (kq ≤ k) ∧ Drawn0 w wc)
  case first =>
   have H := HC3.out; clear HC3; replace H := Option.bind_eq_some_iff.mp H; obtain ⟨t523, A40, H⟩ := H; try dsimp only at H
   have A4 := Aside0.mk A40; clear A40; by_cases c5 : t523 = true
   ·subst c5; rw [if_pos rfl] at H
    replace H := Option.bind_eq_some_iff.mp H; obtain ⟨t524, A60, H⟩ := H; try dsimp only at H
    have A6 := Aside0.mk A60; clear A60; by_cases c7 : t524 = true
    ·subst c7; rw [if_pos rfl] at H
     have H' := Aside0.mk H
     clear H; go_wp2_with (first | (go_at_call 116; (with_reducible refine (impl_IsPattern.calls k a0 true _ A4.out).mono ?_); rintro e w' ⟨rfl, ⟨nd, rfl⟩⟩; (try first | exact ⟨rfl, _, World.drewN_drewN _ _ _⟩ | exact ⟨rfl, _, Eq.trans (World.drewN_drewN _ _ _) (congrArg (World.drewN _) (Nat.add_assoc _ _ _))⟩)) | (go_at_call 70; (with_reducible refine (impl_IsWord.calls k a1 true _ A6.out).mono ?_); rintro e w' ⟨rfl, ⟨nd, rfl⟩⟩; (try first | exact ⟨rfl, _, World.drewN_drewN _ _ _⟩ | exact ⟨rfl, _, Eq.trans (World.drewN_drewN _ _ _) (congrArg (World.drewN _) (Nat.add_assoc _ _ _))⟩)))
     repeat (go_quiet (first | (go_at_call 116; (with_reducible refine (impl_IsPattern.calls k a0 true _ A4.out).mono ?_); rintro e w' ⟨rfl, ⟨nd, rfl⟩⟩; (try first | exact ⟨rfl, _, World.drewN_drewN _ _ _⟩ | exact ⟨rfl, _, Eq.trans (World.drewN_drewN _ _ _) (congrArg (World.drewN _) (Nat.add_assoc _ _ _))⟩)) | (go_at_call 70; (with_reducible refine (impl_IsWord.calls k a1 true _ A6.out).mono ?_); rintro e w' ⟨rfl, ⟨nd, rfl⟩⟩; (try first | exact ⟨rfl, _, World.drewN_drewN _ _ _⟩ | exact ⟨rfl, _, Eq.trans (World.drewN_drewN _ _ _) (congrArg (World.drewN _) (Nat.add_assoc _ _ _))⟩))); try go_wp2_with (first | (go_at_call 116; (with_reducible refine (impl_IsPattern.calls k a0 true _ A4.out).mono ?_); rintro e w' ⟨rfl, ⟨nd, rfl⟩⟩; (try first | exact ⟨rfl, _, World.drewN_drewN _ _ _⟩ | exact ⟨rfl, _, Eq.trans (World.drewN_drewN _ _ _) (congrArg (World.drewN _) (Nat.add_assoc _ _ _))⟩)) | (go_at_call 70; (with_reducible refine (impl_IsWord.calls k a1 true _ A6.out).mono ?_); rintro e w' ⟨rfl, ⟨nd, rfl⟩⟩; (try first | exact ⟨rfl, _, World.drewN_drewN _ _ _⟩ | exact ⟨rfl, _, Eq.trans (World.drewN_drewN _ _ _) (congrArg (World.drewN _) (Nat.add_assoc _ _ _))⟩))))
     go_meet
     case rel => exact ⟨_, (((a0.size : Int) != (a1.size : Int))), z_g2, H', ⟨by first | omega | exact Nat.le_refl _⟩, z_g3⟩
    ·replace c7 := Bool.eq_false_iff.mpr c7; subst c7; rw [if_neg (show ¬ (false = true) by decide)] at H
     have H' := Aside0.mk H
     clear H; go_wp2_with (first | (go_at_call 116; (with_reducible refine (impl_IsPattern.calls k a0 true _ A4.out).mono ?_); rintro e w' ⟨rfl, ⟨nd, rfl⟩⟩; (try first | exact ⟨rfl, _, World.drewN_drewN _ _ _⟩ | exact ⟨rfl, _, Eq.trans (World.drewN_drewN _ _ _) (congrArg (World.drewN _) (Nat.add_assoc _ _ _))⟩)) | (go_at_call 70; (with_reducible refine (impl_IsWord.calls k a1 false _ A6.out).mono ?_); rintro e w' ⟨rfl, ⟨nd, rfl⟩⟩; (try first | exact ⟨rfl, _, World.drewN_drewN _ _ _⟩ | exact ⟨rfl, _, Eq.trans (World.drewN_drewN _ _ _) (congrArg (World.drewN _) (Nat.add_assoc _ _ _))⟩)))
     repeat (go_quiet (first | (go_at_call 116; (with_reducible refine (impl_IsPattern.calls k a0 true _ A4.out).mono ?_); rintro e w' ⟨rfl, ⟨nd, rfl⟩⟩; (try first | exact ⟨rfl, _, World.drewN_drewN _ _ _⟩ | exact ⟨rfl, _, Eq.trans (World.drewN_drewN _ _ _) (congrArg (World.drewN _) (Nat.add_assoc _ _ _))⟩)) | (go_at_call 70; (with_reducible refine (impl_IsWord.calls k a1 false _ A6.out).mono ?_); rintro e w' ⟨rfl, ⟨nd, rfl⟩⟩; (try first | exact ⟨rfl, _, World.drewN_drewN _ _ _⟩ | exact ⟨rfl, _, Eq.trans (World.drewN_drewN _ _ _) (congrArg (World.drewN _) (Nat.add_assoc _ _ _))⟩))); try go_wp2_with (first | (go_at_call 116; (with_reducible refine (impl_IsPattern.calls k a0 true _ A4.out).mono ?_); rintro e w' ⟨rfl, ⟨nd, rfl⟩⟩; (try first | exact ⟨rfl, _, World.drewN_drewN _ _ _⟩ | exact ⟨rfl, _, Eq.trans (World.drewN_drewN _ _ _) (congrArg (World.drewN _) (Nat.add_assoc _ _ _))⟩)) | (go_at_call 70; (with_reducible refine (impl_IsWord.calls k a1 false _ A6.out).mono ?_); rintro e w' ⟨rfl, ⟨nd, rfl⟩⟩; (try first | exact ⟨rfl, _, World.drewN_drewN _ _ _⟩ | exact ⟨rfl, _, Eq.trans (World.drewN_drewN _ _ _) (congrArg (World.drewN _) (Nat.add_assoc _ _ _))⟩))))
     go_meet
     case rel => exact ⟨_, (true), z_g2, H', ⟨by first | omega | exact Nat.le_refl _⟩, z_g3⟩
   ·replace c5 := Bool.eq_false_iff.mpr c5; subst c5; rw [if_neg (show ¬ (false = true) by decide)] at H
    have H' := Aside0.mk H
    clear H; go_wp2_with (first | (go_at_call 116; (with_reducible refine (impl_IsPattern.calls k a0 false _ A4.out).mono ?_); rintro e w' ⟨rfl, ⟨nd, rfl⟩⟩; (try first | exact ⟨rfl, _, World.drewN_drewN _ _ _⟩ | exact ⟨rfl, _, Eq.trans (World.drewN_drewN _ _ _) (congrArg (World.drewN _) (Nat.add_assoc _ _ _))⟩)))
    repeat (go_quiet (first | (go_at_call 116; (with_reducible refine (impl_IsPattern.calls k a0 false _ A4.out).mono ?_); rintro e w' ⟨rfl, ⟨nd, rfl⟩⟩; (try first | exact ⟨rfl, _, World.drewN_drewN _ _ _⟩ | exact ⟨rfl, _, Eq.trans (World.drewN_drewN _ _ _) (congrArg (World.drewN _) (Nat.add_assoc _ _ _))⟩))); try go_wp2_with (first | (go_at_call 116; (with_reducible refine (impl_IsPattern.calls k a0 false _ A4.out).mono ?_); rintro e w' ⟨rfl, ⟨nd, rfl⟩⟩; (try first | exact ⟨rfl, _, World.drewN_drewN _ _ _⟩ | exact ⟨rfl, _, Eq.trans (World.drewN_drewN _ _ _) (congrArg (World.drewN _) (Nat.add_assoc _ _ _))⟩))))
    go_meet
    case rel => exact ⟨_, (true), z_g2, H', ⟨by first | omega | exact Nat.le_refl _⟩, z_g3⟩
  case rest =>
   clear HC3; try clear p2
   try clear c5
   try clear c7
   obtain ⟨kq, x20_2, rfl, HA, HJ2, ⟨mc2, rfl⟩⟩ := hcut
   cases kq with
   | zero => exact absurd HA.out (by simp [impl_FitsPattern.j0])
   | succ kj2 =>
    have H := HA.out; clear HA; simp only [impl_FitsPattern.j0] at H; by_cases c8 : x20_2 = true
    ·subst c8; rw [if_pos rfl] at H
     obtain rfl := Option.some.inj H; go_wp2
     repeat (go_quiet (fail); try go_wp2)
     go_ret
     exact ⟨z_g2, z_g3⟩
    ·replace c8 := Bool.eq_false_iff.mpr c8; subst c8; rw [if_neg (show ¬ (false = true) by decide)] at H
     have H' := Aside0.mk H
     clear H; go_wp2
     repeat (go_quiet (fail); try go_wp2)
     go_loopg [23] kj2 (fun kq v23 w' => ∃ (x23_2 : Int), v23 = .int .i64 x23_2 ∧ Aside0 (impl_FitsPattern.l0 kq a0 a1 (a0.size : Int) x23_2 = some r) ∧ Aside0 (kq ≤ kj2) ∧ Drawn0 w w')
     case atStart => exact ⟨(0), z_g2, H', ⟨Nat.le_refl _⟩, z_g3⟩
     case round =>
      clear H'; try clear c2
      try clear p2
      try clear c5
      try clear c7
      try clear c8
      try clear p2
      obtain ⟨x23_2, rfl, HA, HK2, ⟨m2, rfl⟩⟩ := hrel
      cases gk with
      | zero => exact absurd HA.out (by simp [impl_FitsPattern.l0])
      | succ k2 =>
       have H := HA.out; clear HA; simp only [impl_FitsPattern.l0] at H; by_cases c9 : x23_2 < (a0.size : Int)
       ·rw [if_pos c9] at H
        have c9b0 := decide_eq_true c9; clear c9; by_cases c10 : 0 ≤ x23_2
        ·rw [if_pos c10] at H
         have c10b0 := decide_eq_true c10; clear c10; by_cases c11 : x23_2 < (a0.size : Int)
         ·rw [if_pos c11] at H
          have c11b0 := decide_eq_true c11; clear c11; by_cases c13 : (bt a0 x23_2) = 63
          ·rw [if_pos c13] at H
           have c13b0 : ((bt a0 x23_2) == 63) = true := beq_iff_eq.mpr c13; have c13b1 : ((bt a0 x23_2) != 63) = false := bne_eq_false_iff_eq.mpr c13; clear c13; have H' := Aside0.mk H
           clear H; have p12 : 0 ≤ (x23_2 : Int) := of_decide_eq_true z_g1; have q12 : x23_2 < (a0.size : Int) := of_decide_eq_true z_g1; have hx12 := bt_at a0 x23_2; replace p12 := eq_true p12; replace q12 := eq_true q12; go_wp2
           repeat (go_quiet (fail); try go_wp2)
           go_roundg k2
           case measure => have := HJ2.out; have := HK2.out; omega
           case rel => exact ⟨(wrap64 (x23_2 + 1)), z_g2, H', ⟨by have := HJ2.out; have := HK2.out; omega⟩, z_g3⟩
          ·rw [if_neg c13] at H
           have c13b0 : ((bt a0 x23_2) == 63) = false := beq_eq_false_iff_ne.mpr c13; have c13b1 : ((bt a0 x23_2) != 63) = true := bne_iff_ne.mpr c13; by_cases c15 : x23_2 < (a1.size : Int)
           ·rw [if_pos c15] at H
            have c15b0 := decide_eq_true c15; clear c15; by_cases c17 : (bt a0 x23_2) = (bt a1 x23_2)
            ·rw [if_pos c17] at H
             have c17b0 : ((bt a0 x23_2) == (bt a1 x23_2)) = true := beq_iff_eq.mpr c17; have c17b1 : ((bt a0 x23_2) != (bt a1 x23_2)) = false := bne_eq_false_iff_eq.mpr c17; clear c17; have H' := Aside0.mk H
             clear H; have p12 : 0 ≤ (x23_2 : Int) := of_decide_eq_true z_g1; have q12 : x23_2 < (a0.size : Int) := of_decide_eq_true z_g1; have hx12 := bt_at a0 x23_2; replace p12 := eq_true p12; replace q12 := eq_true q12; have p14 : 0 ≤ (x23_2 : Int) := of_decide_eq_true z_g1; have q14 : x23_2 < (a0.size : Int) := of_decide_eq_true z_g1; have hx14 := bt_at a0 x23_2; replace p14 := eq_true p14; replace q14 := eq_true q14; have p16 : 0 ≤ (x23_2 : Int) := of_decide_eq_true z_g1; have q16 : x23_2 < (a1.size : Int) := of_decide_eq_true z_g1; have hx16 := bt_at a1 x23_2; replace p16 := eq_true p16; replace q16 := eq_true q16; go_wp2
             repeat (go_quiet (fail); try go_wp2)
             go_roundg k2
             case measure => have := HJ2.out; have := HK2.out; omega
             case rel => exact ⟨(wrap64 (x23_2 + 1)), z_g2, H', ⟨by have := HJ2.out; have := HK2.out; omega⟩, z_g3⟩
            ·rw [if_neg c17] at H
             have c17b0 : ((bt a0 x23_2) == (bt a1 x23_2)) = false := beq_eq_false_iff_ne.mpr c17; have c17b1 : ((bt a0 x23_2) != (bt a1 x23_2)) = true := bne_iff_ne.mpr c17; obtain rfl := Option.some.inj H; have p12 : 0 ≤ (x23_2 : Int) := of_decide_eq_true z_g1; have q12 : x23_2 < (a0.size : Int) := of_decide_eq_true z_g1; have hx12 := bt_at a0 x23_2; replace p12 := eq_true p12; replace q12 := eq_true q12; have p14 : 0 ≤ (x23_2 : Int) := of_decide_eq_true z_g1; have q14 : x23_2 < (a0.size : Int) := of_decide_eq_true z_g1; have hx14 := bt_at a0 x23_2; replace p14 := eq_true p14; replace q14 := eq_true q14; have p16 : 0 ≤ (x23_2 : Int) := of_decide_eq_true z_g1; have q16 : x23_2 < (a1.size : Int) := of_decide_eq_true z_g1; have hx16 := bt_at a1 x23_2; replace p16 := eq_true p16; replace q16 := eq_true q16; go_wp2
             repeat (go_quiet (fail); try go_wp2)
             go_ret
             exact ⟨z_g2, z_g3⟩
           ·rw [if_neg c15] at H
            exact absurd H (by simp)
         ·rw [if_neg c11] at H
          exact absurd H (by simp)
        ·rw [if_neg c10] at H
         exact absurd H (by simp)
       ·rw [if_neg c9] at H
        have c9b0 := decide_eq_false c9; clear c9; obtain rfl := Option.some.inj H; go_wp2
        repeat (go_quiet (fail); try go_wp2)
        go_ret
        exact ⟨z_g2, z_g3⟩

/-! ### impl_writeCells: function 90 (given) -/
/-- One byte in memory. -/
def wcEnc (b : UInt8) : Value := Value.int .u8 b.toNat
theorem wc_strOfNums (l : List UInt8) : strOfNums (l.map fun b => (b.toNat : Int)) = ⟨l.toArray⟩ := by
  unfold strOfNums
  congr 1
  simp [List.map_map, Function.comp_def]
theorem wc_holds (w : World) (e : TypeId) (s : ByteArray) : Go.Sort.Holds wcEnc (Lib.bytesWorld w e s) w.heap.size 0 s.data := by
  intro j hj
  have hj' : j < s.size := hj
  refine ⟨?_, ?_⟩
  · rw [Nat.zero_add, Lib.bytesWorld_cell w e s j hj']
    have : j < s.data.toList.length := by simpa using hj
    have hx : s.data[j]! = s.data[j] := getElem!_pos s.data j hj; rw [hx]
    simp [wcEnc, List.getD_eq_getElem?_getD, Array.getElem?_eq_getElem hj]
  · simp [World.frozen?, Lib.bytesWorld_at_new, Lib.bytesCells]
    try omega
theorem wc_below {w W : World} (enc : UInt8 → Value) (blk off : Nat) (d : Array UInt8) (n : Nat) (h : Below w.heap.size w W) (hb : w.heap.size ≤ blk) : Below w.heap.size w (Go.Sort.putRow enc (Go.Sort.ahead W n) blk off d) := by
  refine h.trans ⟨rfl, rfl, rfl, ?_, fun i hi => ?_⟩
  · simp [Go.Sort.putRow, Go.Sort.mapBlock, Go.Sort.ahead]
    try exact h.size
  · have : blk ≠ i := by omega
    simp [Go.Sort.putRow, Go.Sort.mapBlock, Go.Sort.ahead, Array.getElem?_modify, this]
theorem wc_reads (W : World) (s : ByteArray) (d : Array UInt8) (hd : d.size = s.size) (hs : s.size ≤ 9223372036854775807) (n : Nat) (e : TypeId) : ReadsInt (Go.Sort.putRow wcEnc (Go.Sort.ahead (Lib.bytesWorld W e s) n) W.heap.size 0 d) .u8 (some ⟨W.heap.size, 0, none⟩) s.size (d.toList.map fun b => (b.toNat : Int)) := by
  refine ⟨by simp [hd], hs, fun _ => ⟨_, rfl, fun j hj => ?_⟩⟩
  have hj' : j < d.size := by omega
  have hp := (Go.Sort.holds_putRow wcEnc (Go.Sort.ahead (Lib.bytesWorld W e s) n) W.heap.size 0 s.data d (Go.Sort.holds_ahead wcEnc _ n _ _ _ (wc_holds W e s)) hd j hj').1; rw [Nat.zero_add] at hp
  rw [add_plain, hp]
  have hx : d[j]! = d[j] := getElem!_pos d j hj'; rw [hx]
  unfold wcEnc
  have hl : j < d.toList.length := by simpa using hj'
  rw [List.getD_eq_getElem?_getD, List.getElem?_map, List.getElem?_eq_getElem hl]
  simp
/-- A row of bytes with a word's letters in some cells. -/
def writeGo (word : ByteArray) : List Int → Nat → Array UInt8 → Array UInt8
  | [], _, d => d
  | c :: l, i, d => writeGo word l (i + 1) (d.setIfInBounds c.toNat (word.data.toList.getD i 0))
theorem writeGo_nil (word : ByteArray) (i : Nat) (d : Array UInt8) : writeGo word [] i d = d := rfl
theorem writeGo_cons (word : ByteArray) (c : Int) (l : List Int) (i : Nat) (d : Array UInt8) : writeGo word (c :: l) i d = writeGo word l (i + 1) (d.setIfInBounds c.toNat (word.data.toList.getD i 0)) := rfl
def impl_writeCells.f (a0 : ByteArray) (l1 : List Int) (a2 : ByteArray) : Option ByteArray := if (∀ c ∈ l1, 0 ≤ c ∧ c < (a0.size : Int)) ∧ l1.length ≤ a2.size ∧ a0.size ≤ 1048576 ∧ l1.length ≤ 1048576 then some ⟨writeGo a2 l1 0 a0.data⟩ else none
theorem wc_at (s : ByteArray) (i : Nat) (h : i < s.size) : s.data.toList.getD i 0 = s[i] := by
  have hl : i < s.data.toList.length := by simpa using h
  rw [List.getD_eq_getElem?_getD, List.getElem?_eq_getElem hl]
  rfl
theorem impl_writeCells.calls (a0 : ByteArray) (A1 : Option Addr) (c1 : Nat) (l1 : List Int) (a2 : ByteArray) (r : ByteArray) (w : World) (hr1 : Kd.C (Kd.int .i64) w A1 l1.length l1) (hc1 : l1.length ≤ c1) (h : impl_writeCells.f a0 l1 a2 = some r) :
    Calls Try.prog 90 #[.string a0, .slice A1 l1.length c1, .string a2] w fun e w' => e = .returned (.string r) ∧ Below w.heap.size w w' := by
  unfold impl_writeCells.f at h
  by_cases hok : (∀ c ∈ l1, 0 ≤ c ∧ c < (a0.size : Int)) ∧ l1.length ≤ a2.size ∧ a0.size ≤ 1048576 ∧ l1.length ≤ 1048576
  · rw [if_pos hok] at h
    injection h with h
    subst h; obtain ⟨hcell, hlw, hsz, hll⟩ := hok; have HR1 := Aside0.mk hr1; have HC1 := Aside0.mk hc1; clear hr1 hc1; have kb := fun W => print_bytes (P := Try.prog) 9 37 5 Try.underlying9 Try.underlying37 Try.underlying5 a0 W
    have HH := Aside0.mk (wc_holds w 5 a0); have HB0 := Aside0.mk (bytes_below (Below.refl w.heap.size w) (Nat.le_refl _) 5 a0); go_enter Try.func90, Try.ntmps90
    go_wp2
    go_loopg [14] l1.length (fun kq v14 wr => ∃ (i n : Nat) (dk : Array UInt8), v14 = .int .i64 (i : Int) ∧ Aside0 (i ≤ l1.length) ∧ Aside0 (l1.length - i ≤ kq) ∧ Aside0 (dk.size = a0.size) ∧ Aside0 (wr = Go.Sort.putRow wcEnc (Go.Sort.ahead (Lib.bytesWorld w 5 a0) n) w.heap.size 0 dk) ∧ Aside0 (writeGo a2 (l1.drop i) i dk = writeGo a2 l1 0 a0.data))
    case atStart => exact ⟨0, 0, a0.data, rfl, ⟨Nat.zero_le _⟩, ⟨by omega⟩, ⟨rfl⟩, ⟨(Go.Sort.putRow_self wcEnc _ _ _ _ HH.out).symm⟩, ⟨rfl⟩⟩
    case round =>
      obtain ⟨i, n, dk, rfl, hi, hk, hd, hwr, heq⟩ := hrel; have HB := Aside0.mk (show Below w.heap.size w wr from by rw [hwr.out]; exact wc_below wcEnc _ _ _ _ HB0.out (Nat.le_refl _)); by_cases hlt : i < l1.length
      · have hcr : rd l1 (i : Int) = l1[i] := by
          unfold rd
          simp [hlt]
        have hm := hcell _ (List.getElem_mem hlt); have cb0 : decide ((i : Int) < (l1.length : Int)) = true := by simp; exact hlt
        have hHk : Go.Sort.Holds wcEnc wr w.heap.size 0 dk := by rw [hwr.out]; exact Go.Sort.holds_putRow wcEnc _ _ _ a0.data dk (Go.Sort.holds_ahead wcEnc _ n _ _ _ HH.out) hd.out
        obtain ⟨a, ha⟩ := Int.eq_ofNat_of_zero_le hm.1; have had : a < dk.size := by rw [hd.out]; omega
        obtain ⟨ci, fi⟩ := hHk a had; rw [Nat.zero_add] at ci fi
        unfold wcEnc at ci
        obtain ⟨ad, e, hx⟩ := Kd.at_int HR1.out (i : Int) (by omega) (by omega)
        cases e; replace hx := (HB.out.cell (World.block_lt_of_cell? w _ hx)).trans hx; rw [hcr, ha] at hx
        have p1 : (0 ≤ (i : Int)) = True := eq_true (by omega); have q1 : ((i : Int) < (l1.length : Int)) = True := eq_true (by omega); have q2 : ((i : Int) < (a2.size : Int)) = True := eq_true (by omega); have p3 : (0 ≤ (a : Int)) = True := eq_true (by omega); have q3 : ((a : Int) < (a0.size : Int)) = True := eq_true (by omega); have hw := wc_at a2 i (by omega); have hdd : dk.size = a0.size := hd.out; have hwr' := hwr.out
        have heq' := heq.out
        rw [List.drop_eq_getElem_cons hlt, writeGo_cons, ha, Int.toNat_natCast] at heq'
        simp only [Int.toNat_natCast] at hx; have HE := Aside0.mk heq'; clear heq' heq hwr hHk; have HWR := Aside0.mk hwr'; clear hwr' hcr hm ha hcell; go_wp2
        go_roundg (l1.length - (i + 1))
        case measure => have := hk.out; omega
        case rel =>
          refine ⟨i + 1, n, dk.setIfInBounds a (a2.data.toList.getD i 0), ?_, ⟨by omega⟩, ⟨Nat.le_refl _⟩, ⟨by rw [Array.size_setIfInBounds]; exact hdd⟩, ⟨?_⟩, HE⟩
          · simp
          · rw [HWR.out]
            have := Go.Sort.putRow_set wcEnc (Go.Sort.ahead (Lib.bytesWorld w 5 a0) n) w.heap.size 0 dk a (a2.data.toList.getD i 0) had
            rw [Nat.zero_add, hw] at this
            rw [hw]
            exact this
      · have cb0 : decide ((i : Int) < (l1.length : Int)) = false := by simp; omega
        have heq' := heq.out
        rw [List.drop_eq_nil_of_le (by omega), writeGo_nil] at heq'
        have hR : ReadsInt wr .u8 (some ⟨w.heap.size, 0, none⟩) a0.size (dk.toList.map fun b => (b.toNat : Int)) := by
          rw [hwr.out]
          exact wc_reads w a0 dk hd.out (by omega) n 5
        have kc := string_of_reads (P := Try.prog) (src := 37) (dst := 9) (e := 5) (c := grownCap w a0.size 0 5) Try.underlying37 Try.underlying5 Try.underlying9 hR; simp only [wc_strOfNums, Array.toArray_toList] at kc; rw [heq'] at kc
        clear hR heq'; go_wp2
        go_ret
        exact ⟨rfl, HB.out⟩
  · rw [if_neg hok] at h
    cases h


end Go.Proofs.Ytodcckiphdnjeaa.QFnPruned
