-- Written by a changed copy of the kit's printer (wip/mp.py of this repo), for this claim; Lean checks it.
import Derived.Test.YtodcckiphdnjeabDoorQFnFillsx0
import Derived.Test.YtodcckiphdnjeabDoorQFnFillsx2
namespace Go.Proofs.YtodcckiphdnjeabDoor.QFnFills
open Go.RowKit Go.Proofs.YtodcckiphdnjeabDoorW.PrintWords Go.Proofs.YtodcckiphdnjeabDoorW.PrintLast Go.Proofs.YtodcckiphdnjeabDoorW.PrintMore
attribute [local go_sem] max2_int min2_int max_two min_two max_three min_three max_four min_four   -- for this text's walks alone
set_option linter.unusedVariables false
set_option linter.unusedSimpArgs false

theorem z9_0 {p : Prop} (h : p := by first | (with_reducible assumption) | assumption) : p := h
theorem z9_1 {p : Prop} (h : p := by repeat (first | exact Drawn0.refl _ | apply Drawn0.step)) : p := h
theorem z9_2 {p : Prop} (h : p := by first | rfl | (simp; done) | (simp [*]; done)) : p := h
/-! ### spec_IsPattern: function 59 -/
def spec_IsPattern.l0 : Nat → ByteArray → Int → Option (Bool)
  | 0, _, _ => none
  | k + 1, x0, x3 => if x3 < (x0.size : Int) then (if 0 ≤ x3 then (if (bt x0 x3) = 63 then (spec_IsPattern.l0 k x0 (wrap64 (x3 + 1))) else (if (bt x0 x3) < 97 then (some false) else (if (bt x0 x3) > 122 then (some false) else (spec_IsPattern.l0 k x0 (wrap64 (x3 + 1)))))) else (none)) else (some true)
def spec_IsPattern.f (k : Nat) (a0 : ByteArray) : Option (Bool) := (spec_l1In.f (a0.size : Int) 1 8).bind fun t246 => (if t246 = true then (spec_IsPattern.l0 k a0 0) else (some false))
theorem spec_IsPattern.mono_l : ∀ k, (∀ y0 y1, LeO (spec_IsPattern.l0 k y0 y1) (spec_IsPattern.l0 (k + 1) y0 y1))
  | 0 => fun _ _ r h => by simp [spec_IsPattern.l0] at h
  | k + 1 => by
   have ih0 := spec_IsPattern.mono_l k
   ·intro y0 y1
    unfold spec_IsPattern.l0
    repeat' first
    | (with_reducible exact ih0 _ _)
    | (with_reducible exact LeO.refl _)
    | (with_reducible exact LeO.none _)
    | (with_reducible refine LeO.ite ?_ ?_)
    | (with_reducible refine LeO.bind ?_ (fun _ => ?_))
    | exact ih0 _ _
    | exact LeO.none _
    | refine LeO.ite ?_ ?_
    | refine LeO.bind ?_ (fun _ => ?_)
theorem spec_IsPattern.mono : ∀ a0 k, LeO (spec_IsPattern.f k a0) (spec_IsPattern.f (k + 1) a0) := by
  intro a0 k
  have ih0 := spec_IsPattern.mono_l k; unfold spec_IsPattern.f
  repeat' first
    | (with_reducible exact ih0 _ _)
    | (with_reducible exact LeO.refl _)
    | (with_reducible exact LeO.none _)
    | (with_reducible refine LeO.ite ?_ ?_)
    | (with_reducible refine LeO.bind ?_ (fun _ => ?_))
    | exact ih0 _ _
    | exact LeO.none _
    | refine LeO.ite ?_ ?_
    | refine LeO.bind ?_ (fun _ => ?_)
set_option maxHeartbeats 8000000 in
set_option maxRecDepth 100000 in
theorem spec_IsPattern.calls (k : Nat) (a0 : ByteArray) (r : Bool) (w : World) (h : spec_IsPattern.f k a0 = some r) :
   Calls Tryd.prog 59 #[.string a0] w fun e w' => e = .returned (.bool r) ∧ Drawn0 w w' := by
  have H : ((spec_l1In.f (a0.size : Int) 1 8).bind fun t246 => (if t246 = true then (spec_IsPattern.l0 k a0 0) else (some false))) = some r := h; clear h; replace H := Option.bind_eq_some_iff.mp H; obtain ⟨t246, A20, H⟩ := H; replace H : (if t246 = true then (spec_IsPattern.l0 k a0 0) else (some false)) = some r := H; have A2 := Aside0.mk A20; clear A20; by_cases c3 : t246 = true
  ·subst c3; have H1 : (spec_IsPattern.l0 k a0 0) = some r := by rw [if_pos rfl] at H; exact H
   clear H; have H := H1; clear H1; have H' := Aside0.mk H
   clear H; go_enter Tryd.func59, Tryd.ntmps59
   go_wp2_with (first | ((with_reducible refine gate_callee (f := 47) rfl ?_); refine goesL_ (some 6) rfl rfl Tryd.func47 (by kernel_rfl) rfl #[.int .i64 (a0.size : Int), .int .i64 1, .int .i64 8] rfl (by (try simp only [List.map_toArray, List.map_cons, List.map_nil]); first | done | rfl | (simp only [List.length_drop, List.length_take]; rfl)) ?_; (with_reducible refine (spec_l1In.calls (a0.size : Int) 1 8 true _ A2.out).mono ?_); rintro e w' ⟨rfl, ⟨nd, rfl⟩⟩; refine ⟨_, rfl, ?_⟩))
   go_loopg [3] k (fun kq v3 w' => ∃ (x3_1 : Int), v3 = .int .i64 x3_1 ∧ Aside0 (spec_IsPattern.l0 kq a0 x3_1 = some r) ∧ Aside0 (kq ≤ k) ∧ Drawn0 w w')
   case atStart => exact ⟨(0), z9_2, H', ⟨Nat.le_refl _⟩, z9_1⟩
   case round =>
    clear H'; try clear p2
    try clear c3
    obtain ⟨x3_1, rfl, HA, HK1, ⟨m1, rfl⟩⟩ := hrel
    cases gk with
    | zero => exact absurd HA.out (by simp [spec_IsPattern.l0])
    | succ k1 =>
     have H := HA.out; clear HA; simp only [spec_IsPattern.l0] at H; by_cases c4 : x3_1 < (a0.size : Int)
     ·rw [if_pos c4] at H
      have c4b0 : decide (x3_1 < (a0.size : Int)) = true := decide_eq_true c4; clear c4; by_cases c5 : 0 ≤ x3_1
      ·rw [if_pos c5] at H
       have c5b0 : decide (0 ≤ x3_1) = true := decide_eq_true c5; clear c5; by_cases c7 : (bt a0 x3_1) = 63
       ·rw [if_pos c7] at H
        have c7b0 : ((bt a0 x3_1) == 63) = true := beq_iff_eq.mpr c7; have c7b1 : ((bt a0 x3_1) != 63) = false := bne_eq_false_iff_eq.mpr c7; clear c7; have H' := Aside0.mk H
        clear H; have p6 : 0 ≤ (x3_1 : Int) := of_decide_eq_true z9_0; have q6 : x3_1 < (a0.size : Int) := of_decide_eq_true z9_0; have hx6 := bt_at a0 x3_1; replace p6 := eq_true p6; replace q6 := eq_true q6; go_wp2
        go_roundg k1
        case measure => have := HK1.out; omega
        case rel => exact ⟨(wrap64 (x3_1 + 1)), z9_2, H', ⟨by have := HK1.out; omega⟩, z9_1⟩
       ·rw [if_neg c7] at H
        have c7b0 : ((bt a0 x3_1) == 63) = false := beq_eq_false_iff_ne.mpr c7; have c7b1 : ((bt a0 x3_1) != 63) = true := bne_iff_ne.mpr c7; by_cases c9 : (bt a0 x3_1) < 97
        ·rw [if_pos c9] at H
         have c9b0 : decide ((bt a0 x3_1) < 97) = true := decide_eq_true c9; clear c9; obtain rfl := Option.some.inj H; have p6 : 0 ≤ (x3_1 : Int) := of_decide_eq_true z9_0; have q6 : x3_1 < (a0.size : Int) := of_decide_eq_true z9_0; have hx6 := bt_at a0 x3_1; replace p6 := eq_true p6; replace q6 := eq_true q6; have p8 : 0 ≤ (x3_1 : Int) := of_decide_eq_true z9_0; have q8 : x3_1 < (a0.size : Int) := of_decide_eq_true z9_0; have hx8 := bt_at a0 x3_1; replace p8 := eq_true p8; replace q8 := eq_true q8; go_wp2
         go_ret
         exact ⟨z9_2, z9_1⟩
        ·rw [if_neg c9] at H
         have c9b0 : decide ((bt a0 x3_1) < 97) = false := decide_eq_false c9; clear c9; by_cases c11 : (bt a0 x3_1) > 122
         ·rw [if_pos c11] at H
          have c11b0 : decide (122 < (bt a0 x3_1)) = true := decide_eq_true c11; clear c11; obtain rfl := Option.some.inj H; have p6 : 0 ≤ (x3_1 : Int) := of_decide_eq_true z9_0; have q6 : x3_1 < (a0.size : Int) := of_decide_eq_true z9_0; have hx6 := bt_at a0 x3_1; replace p6 := eq_true p6; replace q6 := eq_true q6; have p8 : 0 ≤ (x3_1 : Int) := of_decide_eq_true z9_0; have q8 : x3_1 < (a0.size : Int) := of_decide_eq_true z9_0; have hx8 := bt_at a0 x3_1; replace p8 := eq_true p8; replace q8 := eq_true q8; have p10 : 0 ≤ (x3_1 : Int) := of_decide_eq_true z9_0; have q10 : x3_1 < (a0.size : Int) := of_decide_eq_true z9_0; have hx10 := bt_at a0 x3_1; replace p10 := eq_true p10; replace q10 := eq_true q10; go_wp2
          go_ret
          exact ⟨z9_2, z9_1⟩
         ·rw [if_neg c11] at H
          have c11b0 : decide (122 < (bt a0 x3_1)) = false := decide_eq_false c11; clear c11; have H' := Aside0.mk H
          clear H; have p6 : 0 ≤ (x3_1 : Int) := of_decide_eq_true z9_0; have q6 : x3_1 < (a0.size : Int) := of_decide_eq_true z9_0; have hx6 := bt_at a0 x3_1; replace p6 := eq_true p6; replace q6 := eq_true q6; have p8 : 0 ≤ (x3_1 : Int) := of_decide_eq_true z9_0; have q8 : x3_1 < (a0.size : Int) := of_decide_eq_true z9_0; have hx8 := bt_at a0 x3_1; replace p8 := eq_true p8; replace q8 := eq_true q8; have p10 : 0 ≤ (x3_1 : Int) := of_decide_eq_true z9_0; have q10 : x3_1 < (a0.size : Int) := of_decide_eq_true z9_0; have hx10 := bt_at a0 x3_1; replace p10 := eq_true p10; replace q10 := eq_true q10; go_wp2
          go_roundg k1
          case measure => have := HK1.out; omega
          case rel => exact ⟨(wrap64 (x3_1 + 1)), z9_2, H', ⟨by have := HK1.out; omega⟩, z9_1⟩
      ·rw [if_neg c5] at H
       exact absurd H (by simp)
     ·rw [if_neg c4] at H
      have c4b0 : decide (x3_1 < (a0.size : Int)) = false := decide_eq_false c4; clear c4; obtain rfl := Option.some.inj H; go_wp2
      go_ret
      exact ⟨z9_2, z9_1⟩
  ·replace c3 := Bool.eq_false_iff.mpr c3; subst c3; have H1 : (some false) = some r := by rw [if_neg (show ¬ (false = true) by decide)] at H; exact H
   clear H; have H := H1; clear H1; obtain rfl := Option.some.inj H; go_enter Tryd.func59, Tryd.ntmps59
   go_wp2_with (first | ((with_reducible refine gate_callee (f := 47) rfl ?_); refine goesL_ (some 6) rfl rfl Tryd.func47 (by kernel_rfl) rfl #[.int .i64 (a0.size : Int), .int .i64 1, .int .i64 8] rfl (by (try simp only [List.map_toArray, List.map_cons, List.map_nil]); first | done | rfl | (simp only [List.length_drop, List.length_take]; rfl)) ?_; (with_reducible refine (spec_l1In.calls (a0.size : Int) 1 8 false _ A2.out).mono ?_); rintro e w' ⟨rfl, ⟨nd, rfl⟩⟩; refine ⟨_, rfl, ?_⟩))
   go_ret
   exact ⟨z9_2, z9_1⟩

/-! ### spec_IsWord: function 60 -/
def spec_IsWord.l0 : Nat → ByteArray → Int → Option (Bool)
  | 0, _, _ => none
  | k + 1, x0, x3 => if x3 < (x0.size : Int) then (if 0 ≤ x3 then (if (bt x0 x3) < 97 then (some false) else (if (bt x0 x3) > 122 then (some false) else (spec_IsWord.l0 k x0 (wrap64 (x3 + 1))))) else (none)) else (some true)
def spec_IsWord.f (k : Nat) (a0 : ByteArray) : Option (Bool) := (spec_l1In.f (a0.size : Int) 1 8).bind fun t247 => (if t247 = true then (spec_IsWord.l0 k a0 0) else (some false))
theorem spec_IsWord.mono_l : ∀ k, (∀ y0 y1, LeO (spec_IsWord.l0 k y0 y1) (spec_IsWord.l0 (k + 1) y0 y1))
  | 0 => fun _ _ r h => by simp [spec_IsWord.l0] at h
  | k + 1 => by
   have ih0 := spec_IsWord.mono_l k
   ·intro y0 y1
    unfold spec_IsWord.l0
    repeat' first
    | (with_reducible exact ih0 _ _)
    | (with_reducible exact LeO.refl _)
    | (with_reducible exact LeO.none _)
    | (with_reducible refine LeO.ite ?_ ?_)
    | (with_reducible refine LeO.bind ?_ (fun _ => ?_))
    | exact ih0 _ _
    | exact LeO.none _
    | refine LeO.ite ?_ ?_
    | refine LeO.bind ?_ (fun _ => ?_)
theorem spec_IsWord.mono : ∀ a0 k, LeO (spec_IsWord.f k a0) (spec_IsWord.f (k + 1) a0) := by
  intro a0 k
  have ih0 := spec_IsWord.mono_l k; unfold spec_IsWord.f
  repeat' first
    | (with_reducible exact ih0 _ _)
    | (with_reducible exact LeO.refl _)
    | (with_reducible exact LeO.none _)
    | (with_reducible refine LeO.ite ?_ ?_)
    | (with_reducible refine LeO.bind ?_ (fun _ => ?_))
    | exact ih0 _ _
    | exact LeO.none _
    | refine LeO.ite ?_ ?_
    | refine LeO.bind ?_ (fun _ => ?_)
set_option maxHeartbeats 8000000 in
set_option maxRecDepth 100000 in
theorem spec_IsWord.calls (k : Nat) (a0 : ByteArray) (r : Bool) (w : World) (h : spec_IsWord.f k a0 = some r) :
   Calls Tryd.prog 60 #[.string a0] w fun e w' => e = .returned (.bool r) ∧ Drawn0 w w' := by
  have H : ((spec_l1In.f (a0.size : Int) 1 8).bind fun t247 => (if t247 = true then (spec_IsWord.l0 k a0 0) else (some false))) = some r := h; clear h; replace H := Option.bind_eq_some_iff.mp H; obtain ⟨t247, A20, H⟩ := H; replace H : (if t247 = true then (spec_IsWord.l0 k a0 0) else (some false)) = some r := H; have A2 := Aside0.mk A20; clear A20; by_cases c3 : t247 = true
  ·subst c3; have H1 : (spec_IsWord.l0 k a0 0) = some r := by rw [if_pos rfl] at H; exact H
   clear H; have H := H1; clear H1; have H' := Aside0.mk H
   clear H; go_enter Tryd.func60, Tryd.ntmps60
   go_wp2_with (first | ((with_reducible refine gate_callee (f := 47) rfl ?_); refine goesL_ (some 6) rfl rfl Tryd.func47 (by kernel_rfl) rfl #[.int .i64 (a0.size : Int), .int .i64 1, .int .i64 8] rfl (by (try simp only [List.map_toArray, List.map_cons, List.map_nil]); first | done | rfl | (simp only [List.length_drop, List.length_take]; rfl)) ?_; (with_reducible refine (spec_l1In.calls (a0.size : Int) 1 8 true _ A2.out).mono ?_); rintro e w' ⟨rfl, ⟨nd, rfl⟩⟩; refine ⟨_, rfl, ?_⟩))
   go_loopg [3] k (fun kq v3 w' => ∃ (x3_1 : Int), v3 = .int .i64 x3_1 ∧ Aside0 (spec_IsWord.l0 kq a0 x3_1 = some r) ∧ Aside0 (kq ≤ k) ∧ Drawn0 w w')
   case atStart => exact ⟨(0), z9_2, H', ⟨Nat.le_refl _⟩, z9_1⟩
   case round =>
    clear H'; try clear p2
    try clear c3
    obtain ⟨x3_1, rfl, HA, HK1, ⟨m1, rfl⟩⟩ := hrel
    cases gk with
    | zero => exact absurd HA.out (by simp [spec_IsWord.l0])
    | succ k1 =>
     have H := HA.out; clear HA; simp only [spec_IsWord.l0] at H; by_cases c4 : x3_1 < (a0.size : Int)
     ·rw [if_pos c4] at H
      have c4b0 : decide (x3_1 < (a0.size : Int)) = true := decide_eq_true c4; clear c4; by_cases c5 : 0 ≤ x3_1
      ·rw [if_pos c5] at H
       have c5b0 : decide (0 ≤ x3_1) = true := decide_eq_true c5; clear c5; by_cases c7 : (bt a0 x3_1) < 97
       ·rw [if_pos c7] at H
        have c7b0 : decide ((bt a0 x3_1) < 97) = true := decide_eq_true c7; clear c7; obtain rfl := Option.some.inj H; have p6 : 0 ≤ (x3_1 : Int) := of_decide_eq_true z9_0; have q6 : x3_1 < (a0.size : Int) := of_decide_eq_true z9_0; have hx6 := bt_at a0 x3_1; replace p6 := eq_true p6; replace q6 := eq_true q6; go_wp2
        go_ret
        exact ⟨z9_2, z9_1⟩
       ·rw [if_neg c7] at H
        have c7b0 : decide ((bt a0 x3_1) < 97) = false := decide_eq_false c7; clear c7; by_cases c9 : (bt a0 x3_1) > 122
        ·rw [if_pos c9] at H
         have c9b0 : decide (122 < (bt a0 x3_1)) = true := decide_eq_true c9; clear c9; obtain rfl := Option.some.inj H; have p6 : 0 ≤ (x3_1 : Int) := of_decide_eq_true z9_0; have q6 : x3_1 < (a0.size : Int) := of_decide_eq_true z9_0; have hx6 := bt_at a0 x3_1; replace p6 := eq_true p6; replace q6 := eq_true q6; have p8 : 0 ≤ (x3_1 : Int) := of_decide_eq_true z9_0; have q8 : x3_1 < (a0.size : Int) := of_decide_eq_true z9_0; have hx8 := bt_at a0 x3_1; replace p8 := eq_true p8; replace q8 := eq_true q8; go_wp2
         go_ret
         exact ⟨z9_2, z9_1⟩
        ·rw [if_neg c9] at H
         have c9b0 : decide (122 < (bt a0 x3_1)) = false := decide_eq_false c9; clear c9; have H' := Aside0.mk H
         clear H; have p6 : 0 ≤ (x3_1 : Int) := of_decide_eq_true z9_0; have q6 : x3_1 < (a0.size : Int) := of_decide_eq_true z9_0; have hx6 := bt_at a0 x3_1; replace p6 := eq_true p6; replace q6 := eq_true q6; have p8 : 0 ≤ (x3_1 : Int) := of_decide_eq_true z9_0; have q8 : x3_1 < (a0.size : Int) := of_decide_eq_true z9_0; have hx8 := bt_at a0 x3_1; replace p8 := eq_true p8; replace q8 := eq_true q8; go_wp2
         go_roundg k1
         case measure => have := HK1.out; omega
         case rel => exact ⟨(wrap64 (x3_1 + 1)), z9_2, H', ⟨by have := HK1.out; omega⟩, z9_1⟩
      ·rw [if_neg c5] at H
       exact absurd H (by simp)
     ·rw [if_neg c4] at H
      have c4b0 : decide (x3_1 < (a0.size : Int)) = false := decide_eq_false c4; clear c4; obtain rfl := Option.some.inj H; go_wp2
      go_ret
      exact ⟨z9_2, z9_1⟩
  ·replace c3 := Bool.eq_false_iff.mpr c3; subst c3; have H1 : (some false) = some r := by rw [if_neg (show ¬ (false = true) by decide)] at H; exact H
   clear H; have H := H1; clear H1; obtain rfl := Option.some.inj H; go_enter Tryd.func60, Tryd.ntmps60
   go_wp2_with (first | ((with_reducible refine gate_callee (f := 47) rfl ?_); refine goesL_ (some 6) rfl rfl Tryd.func47 (by kernel_rfl) rfl #[.int .i64 (a0.size : Int), .int .i64 1, .int .i64 8] rfl (by (try simp only [List.map_toArray, List.map_cons, List.map_nil]); first | done | rfl | (simp only [List.length_drop, List.length_take]; rfl)) ?_; (with_reducible refine (spec_l1In.calls (a0.size : Int) 1 8 false _ A2.out).mono ?_); rintro e w' ⟨rfl, ⟨nd, rfl⟩⟩; refine ⟨_, rfl, ?_⟩))
   go_ret
   exact ⟨z9_2, z9_1⟩

/-! ### spec_FitsPattern: function 44 -/
mutual
def spec_FitsPattern.j0 : Nat → ByteArray → ByteArray → Bool → Option (Bool)
  | 0, _, _, _ => none
  | k + 1, x0, x1, x20 => if x20 = true then (some false) else (spec_FitsPattern.l0 k x0 x1 0)
def spec_FitsPattern.l0 : Nat → ByteArray → ByteArray → Int → Option (Bool)
  | 0, _, _, _ => none
  | k + 1, x0, x1, x5 => if x5 < (x0.size : Int) then (if 0 ≤ x5 then (if (bt x0 x5) = 63 then (spec_FitsPattern.l0 k x0 x1 (wrap64 (x5 + 1))) else (if x5 < (x1.size : Int) then (if (bt x0 x5) = (bt x1 x5) then (spec_FitsPattern.l0 k x0 x1 (wrap64 (x5 + 1))) else (some false)) else (none))) else (none)) else (some true)
end
def spec_FitsPattern.f (k : Nat) (a0 : ByteArray) (a1 : ByteArray) : Option (Bool) := (spec_IsPattern.f k a0).bind fun t248 => (if t248 = true then ((spec_IsWord.f k a1).bind fun t249 => (if t249 = true then (spec_FitsPattern.j0 k a0 a1 ((a0.size : Int) != (a1.size : Int))) else (spec_FitsPattern.j0 k a0 a1 true))) else (spec_FitsPattern.j0 k a0 a1 true))
theorem spec_FitsPattern.mono_l : ∀ k, (∀ y0 y1 y2, LeO (spec_FitsPattern.j0 k y0 y1 y2) (spec_FitsPattern.j0 (k + 1) y0 y1 y2)) ∧ (∀ y0 y1 y2, LeO (spec_FitsPattern.l0 k y0 y1 y2) (spec_FitsPattern.l0 (k + 1) y0 y1 y2))
  | 0 => ⟨fun _ _ _ r h => by simp [spec_FitsPattern.j0] at h, fun _ _ _ r h => by simp [spec_FitsPattern.l0] at h⟩
  | k + 1 => by
   obtain ⟨ih0, ih1⟩ := spec_FitsPattern.mono_l k; refine ⟨?_, ?_⟩
   ·intro y0 y1 y2
    unfold spec_FitsPattern.j0
    repeat' first
    | (with_reducible exact ih0 _ _ _)
    | (with_reducible exact ih1 _ _ _)
    | (with_reducible exact spec_IsPattern.mono _ _)
    | (with_reducible exact spec_IsWord.mono _ _)
    | (with_reducible exact LeO.refl _)
    | (with_reducible exact LeO.none _)
    | (with_reducible refine LeO.ite ?_ ?_)
    | (with_reducible refine LeO.bind ?_ (fun _ => ?_))
    | exact ih0 _ _ _
    | exact ih1 _ _ _
    | exact spec_IsPattern.mono _ _
    | exact spec_IsWord.mono _ _
    | exact LeO.none _
    | refine LeO.ite ?_ ?_
    | refine LeO.bind ?_ (fun _ => ?_)
   ·intro y0 y1 y2
    unfold spec_FitsPattern.l0
    repeat' first
    | (with_reducible exact ih0 _ _ _)
    | (with_reducible exact ih1 _ _ _)
    | (with_reducible exact spec_IsPattern.mono _ _)
    | (with_reducible exact spec_IsWord.mono _ _)
    | (with_reducible exact LeO.refl _)
    | (with_reducible exact LeO.none _)
    | (with_reducible refine LeO.ite ?_ ?_)
    | (with_reducible refine LeO.bind ?_ (fun _ => ?_))
    | exact ih0 _ _ _
    | exact ih1 _ _ _
    | exact spec_IsPattern.mono _ _
    | exact spec_IsWord.mono _ _
    | exact LeO.none _
    | refine LeO.ite ?_ ?_
    | refine LeO.bind ?_ (fun _ => ?_)
theorem spec_FitsPattern.mono : ∀ a0 a1 k, LeO (spec_FitsPattern.f k a0 a1) (spec_FitsPattern.f (k + 1) a0 a1) := by
  intro a0 a1 k
  obtain ⟨ih0, ih1⟩ := spec_FitsPattern.mono_l k; unfold spec_FitsPattern.f
  repeat' first
    | (with_reducible exact ih0 _ _ _)
    | (with_reducible exact ih1 _ _ _)
    | (with_reducible exact spec_IsPattern.mono _ _)
    | (with_reducible exact spec_IsWord.mono _ _)
    | (with_reducible exact LeO.refl _)
    | (with_reducible exact LeO.none _)
    | (with_reducible refine LeO.ite ?_ ?_)
    | (with_reducible refine LeO.bind ?_ (fun _ => ?_))
    | exact ih0 _ _ _
    | exact ih1 _ _ _
    | exact spec_IsPattern.mono _ _
    | exact spec_IsWord.mono _ _
    | exact LeO.none _
    | refine LeO.ite ?_ ?_
    | refine LeO.bind ?_ (fun _ => ?_)
set_option maxHeartbeats 8000000 in
set_option maxRecDepth 100000 in
theorem spec_FitsPattern.calls (k : Nat) (a0 : ByteArray) (a1 : ByteArray) (r : Bool) (w : World) (h : spec_FitsPattern.f k a0 a1 = some r) :
   Calls Tryd.prog 44 #[.string a0, .string a1] w fun e w' => e = .returned (.bool r) ∧ Drawn0 w w' := by
  have H : ((spec_IsPattern.f k a0).bind fun t248 => (if t248 = true then ((spec_IsWord.f k a1).bind fun t249 => (if t249 = true then (spec_FitsPattern.j0 k a0 a1 ((a0.size : Int) != (a1.size : Int))) else (spec_FitsPattern.j0 k a0 a1 true))) else (spec_FitsPattern.j0 k a0 a1 true))) = some r := h; clear h; have HC3 := Aside0.mk H; clear H; go_enter Tryd.func44, Tryd.ntmps44
  go_upto_region 1 with (fail)
  repeat (go_quiet (fail); go_upto_region 1 with (fail))
  go_cut [20] (fun v20 wc => ∃ (kq : Nat) (x20_2 : Bool), v20 = .bool x20_2 ∧ Aside0 (spec_FitsPattern.j0 kq a0 a1 x20_2 = some r) ∧ Aside0 (kq ≤ k) ∧ Drawn0 w wc)
  case first =>
   have H := HC3.out; clear HC3; replace H := Option.bind_eq_some_iff.mp H; obtain ⟨t248, A40, H⟩ := H; replace H : (if t248 = true then ((spec_IsWord.f k a1).bind fun t249 => (if t249 = true then (spec_FitsPattern.j0 k a0 a1 ((a0.size : Int) != (a1.size : Int))) else (spec_FitsPattern.j0 k a0 a1 true))) else (spec_FitsPattern.j0 k a0 a1 true)) = some r := H; have A4 := Aside0.mk A40; clear A40; by_cases c5 : t248 = true
   ·subst c5; have H1 : ((spec_IsWord.f k a1).bind fun t249 => (if t249 = true then (spec_FitsPattern.j0 k a0 a1 ((a0.size : Int) != (a1.size : Int))) else (spec_FitsPattern.j0 k a0 a1 true))) = some r := by rw [if_pos rfl] at H; exact H
    clear H; have H := H1; clear H1; replace H := Option.bind_eq_some_iff.mp H; obtain ⟨t249, A60, H⟩ := H; replace H : (if t249 = true then (spec_FitsPattern.j0 k a0 a1 ((a0.size : Int) != (a1.size : Int))) else (spec_FitsPattern.j0 k a0 a1 true)) = some r := H; have A6 := Aside0.mk A60; clear A60; by_cases c7 : t249 = true
    ·subst c7; have H1 : (spec_FitsPattern.j0 k a0 a1 ((a0.size : Int) != (a1.size : Int))) = some r := by rw [if_pos rfl] at H; exact H
     clear H; have H := H1; clear H1; have H' := Aside0.mk H
     clear H; go_wp2_with (first | (go_at_call 59; (with_reducible refine (spec_IsPattern.calls k a0 true _ A4.out).mono ?_); rintro e w' ⟨rfl, ⟨nd, rfl⟩⟩; (try first | exact ⟨rfl, _, World.drewN_drewN _ _ _⟩ | exact ⟨rfl, _, Eq.trans (World.drewN_drewN _ _ _) (congrArg (World.drewN _) (Nat.add_assoc _ _ _))⟩)) | (go_at_call 60; (with_reducible refine (spec_IsWord.calls k a1 true _ A6.out).mono ?_); rintro e w' ⟨rfl, ⟨nd, rfl⟩⟩; (try first | exact ⟨rfl, _, World.drewN_drewN _ _ _⟩ | exact ⟨rfl, _, Eq.trans (World.drewN_drewN _ _ _) (congrArg (World.drewN _) (Nat.add_assoc _ _ _))⟩)))
     repeat (go_quiet (first | (go_at_call 59; (with_reducible refine (spec_IsPattern.calls k a0 true _ A4.out).mono ?_); rintro e w' ⟨rfl, ⟨nd, rfl⟩⟩; (try first | exact ⟨rfl, _, World.drewN_drewN _ _ _⟩ | exact ⟨rfl, _, Eq.trans (World.drewN_drewN _ _ _) (congrArg (World.drewN _) (Nat.add_assoc _ _ _))⟩)) | (go_at_call 60; (with_reducible refine (spec_IsWord.calls k a1 true _ A6.out).mono ?_); rintro e w' ⟨rfl, ⟨nd, rfl⟩⟩; (try first | exact ⟨rfl, _, World.drewN_drewN _ _ _⟩ | exact ⟨rfl, _, Eq.trans (World.drewN_drewN _ _ _) (congrArg (World.drewN _) (Nat.add_assoc _ _ _))⟩))); try go_wp2_with (first | (go_at_call 59; (with_reducible refine (spec_IsPattern.calls k a0 true _ A4.out).mono ?_); rintro e w' ⟨rfl, ⟨nd, rfl⟩⟩; (try first | exact ⟨rfl, _, World.drewN_drewN _ _ _⟩ | exact ⟨rfl, _, Eq.trans (World.drewN_drewN _ _ _) (congrArg (World.drewN _) (Nat.add_assoc _ _ _))⟩)) | (go_at_call 60; (with_reducible refine (spec_IsWord.calls k a1 true _ A6.out).mono ?_); rintro e w' ⟨rfl, ⟨nd, rfl⟩⟩; (try first | exact ⟨rfl, _, World.drewN_drewN _ _ _⟩ | exact ⟨rfl, _, Eq.trans (World.drewN_drewN _ _ _) (congrArg (World.drewN _) (Nat.add_assoc _ _ _))⟩))))
     go_meet
     case rel => exact ⟨_, (((a0.size : Int) != (a1.size : Int))), z9_2, H', ⟨by first | omega | exact Nat.le_refl _⟩, z9_1⟩
    ·replace c7 := Bool.eq_false_iff.mpr c7; subst c7; have H1 : (spec_FitsPattern.j0 k a0 a1 true) = some r := by rw [if_neg (show ¬ (false = true) by decide)] at H; exact H
     clear H; have H := H1; clear H1; have H' := Aside0.mk H
     clear H; go_wp2_with (first | (go_at_call 59; (with_reducible refine (spec_IsPattern.calls k a0 true _ A4.out).mono ?_); rintro e w' ⟨rfl, ⟨nd, rfl⟩⟩; (try first | exact ⟨rfl, _, World.drewN_drewN _ _ _⟩ | exact ⟨rfl, _, Eq.trans (World.drewN_drewN _ _ _) (congrArg (World.drewN _) (Nat.add_assoc _ _ _))⟩)) | (go_at_call 60; (with_reducible refine (spec_IsWord.calls k a1 false _ A6.out).mono ?_); rintro e w' ⟨rfl, ⟨nd, rfl⟩⟩; (try first | exact ⟨rfl, _, World.drewN_drewN _ _ _⟩ | exact ⟨rfl, _, Eq.trans (World.drewN_drewN _ _ _) (congrArg (World.drewN _) (Nat.add_assoc _ _ _))⟩)))
     repeat (go_quiet (first | (go_at_call 59; (with_reducible refine (spec_IsPattern.calls k a0 true _ A4.out).mono ?_); rintro e w' ⟨rfl, ⟨nd, rfl⟩⟩; (try first | exact ⟨rfl, _, World.drewN_drewN _ _ _⟩ | exact ⟨rfl, _, Eq.trans (World.drewN_drewN _ _ _) (congrArg (World.drewN _) (Nat.add_assoc _ _ _))⟩)) | (go_at_call 60; (with_reducible refine (spec_IsWord.calls k a1 false _ A6.out).mono ?_); rintro e w' ⟨rfl, ⟨nd, rfl⟩⟩; (try first | exact ⟨rfl, _, World.drewN_drewN _ _ _⟩ | exact ⟨rfl, _, Eq.trans (World.drewN_drewN _ _ _) (congrArg (World.drewN _) (Nat.add_assoc _ _ _))⟩))); try go_wp2_with (first | (go_at_call 59; (with_reducible refine (spec_IsPattern.calls k a0 true _ A4.out).mono ?_); rintro e w' ⟨rfl, ⟨nd, rfl⟩⟩; (try first | exact ⟨rfl, _, World.drewN_drewN _ _ _⟩ | exact ⟨rfl, _, Eq.trans (World.drewN_drewN _ _ _) (congrArg (World.drewN _) (Nat.add_assoc _ _ _))⟩)) | (go_at_call 60; (with_reducible refine (spec_IsWord.calls k a1 false _ A6.out).mono ?_); rintro e w' ⟨rfl, ⟨nd, rfl⟩⟩; (try first | exact ⟨rfl, _, World.drewN_drewN _ _ _⟩ | exact ⟨rfl, _, Eq.trans (World.drewN_drewN _ _ _) (congrArg (World.drewN _) (Nat.add_assoc _ _ _))⟩))))
     go_meet
     case rel => exact ⟨_, (true), z9_2, H', ⟨by first | omega | exact Nat.le_refl _⟩, z9_1⟩
   ·replace c5 := Bool.eq_false_iff.mpr c5; subst c5; have H1 : (spec_FitsPattern.j0 k a0 a1 true) = some r := by rw [if_neg (show ¬ (false = true) by decide)] at H; exact H
    clear H; have H := H1; clear H1; have H' := Aside0.mk H
    clear H; go_wp2_with (first | (go_at_call 59; (with_reducible refine (spec_IsPattern.calls k a0 false _ A4.out).mono ?_); rintro e w' ⟨rfl, ⟨nd, rfl⟩⟩; (try first | exact ⟨rfl, _, World.drewN_drewN _ _ _⟩ | exact ⟨rfl, _, Eq.trans (World.drewN_drewN _ _ _) (congrArg (World.drewN _) (Nat.add_assoc _ _ _))⟩)))
    repeat (go_quiet (first | (go_at_call 59; (with_reducible refine (spec_IsPattern.calls k a0 false _ A4.out).mono ?_); rintro e w' ⟨rfl, ⟨nd, rfl⟩⟩; (try first | exact ⟨rfl, _, World.drewN_drewN _ _ _⟩ | exact ⟨rfl, _, Eq.trans (World.drewN_drewN _ _ _) (congrArg (World.drewN _) (Nat.add_assoc _ _ _))⟩))); try go_wp2_with (first | (go_at_call 59; (with_reducible refine (spec_IsPattern.calls k a0 false _ A4.out).mono ?_); rintro e w' ⟨rfl, ⟨nd, rfl⟩⟩; (try first | exact ⟨rfl, _, World.drewN_drewN _ _ _⟩ | exact ⟨rfl, _, Eq.trans (World.drewN_drewN _ _ _) (congrArg (World.drewN _) (Nat.add_assoc _ _ _))⟩))))
    go_meet
    case rel => exact ⟨_, (true), z9_2, H', ⟨by first | omega | exact Nat.le_refl _⟩, z9_1⟩
  case rest =>
   clear HC3; try clear p2
   try clear c4
   try clear c5
   try clear c7
   obtain ⟨kq, x20_2, rfl, HA, HJ2, ⟨mc2, rfl⟩⟩ := hcut
   cases kq with
   | zero => exact absurd HA.out (by simp [spec_FitsPattern.j0])
   | succ kj2 =>
    have H := HA.out; clear HA; simp only [spec_FitsPattern.j0] at H; by_cases c8 : x20_2 = true
    ·subst c8; have H1 : (some false) = some r := by rw [if_pos rfl] at H; exact H
     clear H; have H := H1; clear H1; obtain rfl := Option.some.inj H; go_wp2
     repeat (go_quiet (fail); try go_wp2)
     go_ret
     exact ⟨z9_2, z9_1⟩
    ·replace c8 := Bool.eq_false_iff.mpr c8; subst c8; have H1 : (spec_FitsPattern.l0 kj2 a0 a1 0) = some r := by rw [if_neg (show ¬ (false = true) by decide)] at H; exact H
     clear H; have H := H1; clear H1; have H' := Aside0.mk H
     clear H; go_wp2
     repeat (go_quiet (fail); try go_wp2)
     go_loopg [5] kj2 (fun kq v5 w' => ∃ (x5_2 : Int), v5 = .int .i64 x5_2 ∧ Aside0 (spec_FitsPattern.l0 kq a0 a1 x5_2 = some r) ∧ Aside0 (kq ≤ kj2) ∧ Drawn0 w w')
     case atStart => exact ⟨(0), z9_2, H', ⟨Nat.le_refl _⟩, z9_1⟩
     case round =>
      clear H'; try clear c2
      try clear p2
      try clear c4
      try clear c5
      try clear c7
      try clear c8
      try clear p2
      obtain ⟨x5_2, rfl, HA, HK2, ⟨m2, rfl⟩⟩ := hrel
      cases gk with
      | zero => exact absurd HA.out (by simp [spec_FitsPattern.l0])
      | succ k2 =>
       have H := HA.out; clear HA; simp only [spec_FitsPattern.l0] at H; by_cases c9 : x5_2 < (a0.size : Int)
       ·rw [if_pos c9] at H
        have c9b0 : decide (x5_2 < (a0.size : Int)) = true := decide_eq_true c9; clear c9; by_cases c10 : 0 ≤ x5_2
        ·rw [if_pos c10] at H
         have c10b0 : decide (0 ≤ x5_2) = true := decide_eq_true c10; clear c10; by_cases c12 : (bt a0 x5_2) = 63
         ·rw [if_pos c12] at H
          have c12b0 : ((bt a0 x5_2) == 63) = true := beq_iff_eq.mpr c12; have c12b1 : ((bt a0 x5_2) != 63) = false := bne_eq_false_iff_eq.mpr c12; clear c12; have H' := Aside0.mk H
          clear H; have p11 : 0 ≤ (x5_2 : Int) := of_decide_eq_true z9_0; have q11 : x5_2 < (a0.size : Int) := of_decide_eq_true z9_0; have hx11 := bt_at a0 x5_2; replace p11 := eq_true p11; replace q11 := eq_true q11; go_wp2
          repeat (go_quiet (fail); try go_wp2)
          go_roundg k2
          case measure => have := HJ2.out; have := HK2.out; omega
          case rel => exact ⟨(wrap64 (x5_2 + 1)), z9_2, H', ⟨by have := HJ2.out; have := HK2.out; omega⟩, z9_1⟩
         ·rw [if_neg c12] at H
          have c12b0 : ((bt a0 x5_2) == 63) = false := beq_eq_false_iff_ne.mpr c12; have c12b1 : ((bt a0 x5_2) != 63) = true := bne_iff_ne.mpr c12; by_cases c14 : x5_2 < (a1.size : Int)
          ·rw [if_pos c14] at H
           have c14b0 : decide (x5_2 < (a1.size : Int)) = true := decide_eq_true c14; clear c14; by_cases c16 : (bt a0 x5_2) = (bt a1 x5_2)
           ·rw [if_pos c16] at H
            have c16b0 : ((bt a0 x5_2) == (bt a1 x5_2)) = true := beq_iff_eq.mpr c16; have c16b1 : ((bt a0 x5_2) != (bt a1 x5_2)) = false := bne_eq_false_iff_eq.mpr c16; clear c16; have H' := Aside0.mk H
            clear H; have p11 : 0 ≤ (x5_2 : Int) := of_decide_eq_true z9_0; have q11 : x5_2 < (a0.size : Int) := of_decide_eq_true z9_0; have hx11 := bt_at a0 x5_2; replace p11 := eq_true p11; replace q11 := eq_true q11; have p13 : 0 ≤ (x5_2 : Int) := of_decide_eq_true z9_0; have q13 : x5_2 < (a0.size : Int) := of_decide_eq_true z9_0; have hx13 := bt_at a0 x5_2; replace p13 := eq_true p13; replace q13 := eq_true q13; have p15 : 0 ≤ (x5_2 : Int) := of_decide_eq_true z9_0; have q15 : x5_2 < (a1.size : Int) := of_decide_eq_true z9_0; have hx15 := bt_at a1 x5_2; replace p15 := eq_true p15; replace q15 := eq_true q15; go_wp2
            repeat (go_quiet (fail); try go_wp2)
            go_roundg k2
            case measure => have := HJ2.out; have := HK2.out; omega
            case rel => exact ⟨(wrap64 (x5_2 + 1)), z9_2, H', ⟨by have := HJ2.out; have := HK2.out; omega⟩, z9_1⟩
           ·rw [if_neg c16] at H
            have c16b0 : ((bt a0 x5_2) == (bt a1 x5_2)) = false := beq_eq_false_iff_ne.mpr c16; have c16b1 : ((bt a0 x5_2) != (bt a1 x5_2)) = true := bne_iff_ne.mpr c16; obtain rfl := Option.some.inj H; have p11 : 0 ≤ (x5_2 : Int) := of_decide_eq_true z9_0; have q11 : x5_2 < (a0.size : Int) := of_decide_eq_true z9_0; have hx11 := bt_at a0 x5_2; replace p11 := eq_true p11; replace q11 := eq_true q11; have p13 : 0 ≤ (x5_2 : Int) := of_decide_eq_true z9_0; have q13 : x5_2 < (a0.size : Int) := of_decide_eq_true z9_0; have hx13 := bt_at a0 x5_2; replace p13 := eq_true p13; replace q13 := eq_true q13; have p15 : 0 ≤ (x5_2 : Int) := of_decide_eq_true z9_0; have q15 : x5_2 < (a1.size : Int) := of_decide_eq_true z9_0; have hx15 := bt_at a1 x5_2; replace p15 := eq_true p15; replace q15 := eq_true q15; go_wp2
            repeat (go_quiet (fail); try go_wp2)
            go_ret
            exact ⟨z9_2, z9_1⟩
          ·rw [if_neg c14] at H
           exact absurd H (by simp)
        ·rw [if_neg c10] at H
         exact absurd H (by simp)
       ·rw [if_neg c9] at H
        have c9b0 : decide (x5_2 < (a0.size : Int)) = false := decide_eq_false c9; clear c9; obtain rfl := Option.some.inj H; go_wp2
        repeat (go_quiet (fail); try go_wp2)
        go_ret
        exact ⟨z9_2, z9_1⟩

end Go.Proofs.YtodcckiphdnjeabDoor.QFnFills
