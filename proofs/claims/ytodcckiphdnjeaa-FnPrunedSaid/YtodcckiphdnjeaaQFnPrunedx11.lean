-- Written by a changed copy of the kit's printer (wip/mp.py of this repo), for this claim; Lean checks it.
import Derived.Test.YtodcckiphdnjeaaQFnPrunedx0
import Derived.Test.YtodcckiphdnjeaaQFnPrunedx1
import Derived.Test.YtodcckiphdnjeaaQFnPrunedx10
namespace Go.Proofs.Ytodcckiphdnjeaa.QFnPruned
open Go.RowKit Go.Proofs.YtodcckiphdnjeaaW.PrintWords Go.Proofs.YtodcckiphdnjeaaW.PrintLast Go.Proofs.YtodcckiphdnjeaaW.PrintMore
attribute [local go_sem] max2_int min2_int max_two min_two max_three min_three max_four min_four   -- for this text's walks alone
set_option linter.unusedVariables false
set_option maxHeartbeats 8000000
set_option maxRecDepth 100000
set_option linter.unusedSimpArgs false

attribute [local go_sem high] eqA65
theorem z11_0 {p : Prop} (h : p := by repeat (first | (with_reducible first | exact HB.out | apply below_alloc | apply pw_below_drewN | apply below_drew1 | refine below_set ?_ GE195.out | refine below_set ?_ GE196.out) | exact HB.out)) : p := h
theorem z11_2 {p : Prop} (h : p := by repeat (first | (with_reducible first | exact HB.out | apply below_alloc | apply pw_below_drewN | apply below_drew1 | refine below_set ?_ GE195.out) | exact HB.out)) : p := h
theorem z11_5 {p : Prop} (h : p := by (with_reducible repeat (first | refine blk_drewN ?_ _ | refine blk_drew ?_ | refine blk_alloc ?_ _)); exact BK195.out) : p := h
theorem z11_6 {p : Prop} (h : p := by (with_reducible repeat (first | refine blk_drewN ?_ _ | refine blk_drew ?_ | refine blk_alloc ?_ _)); exact BK196.out) : p := h
theorem z11_7 {p : Prop} (h : p := by (with_reducible repeat (first | apply Kd.R_alloc | apply Kd.R_drewN | apply Kd.R_drew)); exact HO_5.out) : p := h
/-! ### spec_FitsPattern: function 101 -/
mutual
def spec_FitsPattern.j0 : Nat → ByteArray → ByteArray → Bool → Option (Bool)
  | 0, _, _, _ => none
  | k + 1, x0, x1, x20 => if x20 = true then (some false) else (spec_FitsPattern.l0 k x0 x1 0)
def spec_FitsPattern.l0 : Nat → ByteArray → ByteArray → Int → Option (Bool)
  | 0, _, _, _ => none
  | k + 1, x0, x1, x5 => if x5 < (x0.size : Int) then (if 0 ≤ x5 then (if (bt x0 x5) = 63 then (spec_FitsPattern.l0 k x0 x1 (wrap64 (x5 + 1))) else (if x5 < (x1.size : Int) then (if (bt x0 x5) = (bt x1 x5) then (spec_FitsPattern.l0 k x0 x1 (wrap64 (x5 + 1))) else (some false)) else (none))) else (none)) else (some true)
end
def spec_FitsPattern.f (k : Nat) (a0 : ByteArray) (a1 : ByteArray) : Option (Bool) := (spec_IsPattern.f k a0).bind fun t184 => (if t184 = true then ((spec_IsWord.f k a1).bind fun t185 => (if t185 = true then (spec_FitsPattern.j0 k a0 a1 ((a0.size : Int) != (a1.size : Int))) else (spec_FitsPattern.j0 k a0 a1 true))) else (spec_FitsPattern.j0 k a0 a1 true))
theorem spec_FitsPattern.calls (k : Nat) (a0 : ByteArray) (a1 : ByteArray) (r : Bool) (w : World) (h : spec_FitsPattern.f k a0 a1 = some r) :
   Calls Try.prog 101 #[.string a0, .string a1] w fun e w' => e = .returned (.bool r) ∧ Drawn0 w w' := by
  have H : ((spec_IsPattern.f k a0).bind fun t184 => (if t184 = true then ((spec_IsWord.f k a1).bind fun t185 => (if t185 = true then (spec_FitsPattern.j0 k a0 a1 ((a0.size : Int) != (a1.size : Int))) else (spec_FitsPattern.j0 k a0 a1 true))) else (spec_FitsPattern.j0 k a0 a1 true))) = some r := h; clear h; have HC3 := Aside0.mk H; clear H; go_enter Try.func101, Try.ntmps101
  go_upto_region 1 with (fail)
  repeat (go_quiet (fail); go_upto_region 1 with (fail))
  go_cut [20] (fun v20 wc => ∃ (kq : Nat) (x20_2 : Bool), v20 = .bool x20_2 ∧ Aside0 (spec_FitsPattern.j0 kq a0 a1 x20_2 = some r) ∧ Aside0 (kq ≤ k) ∧ Drawn0 w wc)
  case first =>
   have H := HC3.out; clear HC3; replace H := Option.bind_eq_some_iff.mp H; obtain ⟨t184, A40, H⟩ := H; try dsimp only at H
   have A4 := Aside0.mk A40; clear A40; by_cases c5 : t184 = true
   ·subst c5; rw [if_pos rfl] at H
    replace H := Option.bind_eq_some_iff.mp H; obtain ⟨t185, A60, H⟩ := H; try dsimp only at H
    have A6 := Aside0.mk A60; clear A60; by_cases c7 : t185 = true
    ·subst c7; rw [if_pos rfl] at H
     have H' := Aside0.mk H
     clear H; go_wp2_with (first | (go_at_call 119; (with_reducible refine (spec_IsPattern.calls k a0 true _ A4.out).mono ?_); rintro e w' ⟨rfl, ⟨nd, rfl⟩⟩; (try first | exact ⟨rfl, _, World.drewN_drewN _ _ _⟩ | exact ⟨rfl, _, Eq.trans (World.drewN_drewN _ _ _) (congrArg (World.drewN _) (Nat.add_assoc _ _ _))⟩)) | (go_at_call 83; (with_reducible refine (spec_IsWord.calls k a1 true _ A6.out).mono ?_); rintro e w' ⟨rfl, ⟨nd, rfl⟩⟩; (try first | exact ⟨rfl, _, World.drewN_drewN _ _ _⟩ | exact ⟨rfl, _, Eq.trans (World.drewN_drewN _ _ _) (congrArg (World.drewN _) (Nat.add_assoc _ _ _))⟩)))
     repeat (go_quiet (first | (go_at_call 119; (with_reducible refine (spec_IsPattern.calls k a0 true _ A4.out).mono ?_); rintro e w' ⟨rfl, ⟨nd, rfl⟩⟩; (try first | exact ⟨rfl, _, World.drewN_drewN _ _ _⟩ | exact ⟨rfl, _, Eq.trans (World.drewN_drewN _ _ _) (congrArg (World.drewN _) (Nat.add_assoc _ _ _))⟩)) | (go_at_call 83; (with_reducible refine (spec_IsWord.calls k a1 true _ A6.out).mono ?_); rintro e w' ⟨rfl, ⟨nd, rfl⟩⟩; (try first | exact ⟨rfl, _, World.drewN_drewN _ _ _⟩ | exact ⟨rfl, _, Eq.trans (World.drewN_drewN _ _ _) (congrArg (World.drewN _) (Nat.add_assoc _ _ _))⟩))); try go_wp2_with (first | (go_at_call 119; (with_reducible refine (spec_IsPattern.calls k a0 true _ A4.out).mono ?_); rintro e w' ⟨rfl, ⟨nd, rfl⟩⟩; (try first | exact ⟨rfl, _, World.drewN_drewN _ _ _⟩ | exact ⟨rfl, _, Eq.trans (World.drewN_drewN _ _ _) (congrArg (World.drewN _) (Nat.add_assoc _ _ _))⟩)) | (go_at_call 83; (with_reducible refine (spec_IsWord.calls k a1 true _ A6.out).mono ?_); rintro e w' ⟨rfl, ⟨nd, rfl⟩⟩; (try first | exact ⟨rfl, _, World.drewN_drewN _ _ _⟩ | exact ⟨rfl, _, Eq.trans (World.drewN_drewN _ _ _) (congrArg (World.drewN _) (Nat.add_assoc _ _ _))⟩))))
     go_meet
     case rel => exact ⟨_, (((a0.size : Int) != (a1.size : Int))), z_g2, H', ⟨by first | omega | exact Nat.le_refl _⟩, z_g3⟩
    ·replace c7 := Bool.eq_false_iff.mpr c7; subst c7; rw [if_neg (show ¬ (false = true) by decide)] at H
     have H' := Aside0.mk H
     clear H; go_wp2_with (first | (go_at_call 119; (with_reducible refine (spec_IsPattern.calls k a0 true _ A4.out).mono ?_); rintro e w' ⟨rfl, ⟨nd, rfl⟩⟩; (try first | exact ⟨rfl, _, World.drewN_drewN _ _ _⟩ | exact ⟨rfl, _, Eq.trans (World.drewN_drewN _ _ _) (congrArg (World.drewN _) (Nat.add_assoc _ _ _))⟩)) | (go_at_call 83; (with_reducible refine (spec_IsWord.calls k a1 false _ A6.out).mono ?_); rintro e w' ⟨rfl, ⟨nd, rfl⟩⟩; (try first | exact ⟨rfl, _, World.drewN_drewN _ _ _⟩ | exact ⟨rfl, _, Eq.trans (World.drewN_drewN _ _ _) (congrArg (World.drewN _) (Nat.add_assoc _ _ _))⟩)))
     repeat (go_quiet (first | (go_at_call 119; (with_reducible refine (spec_IsPattern.calls k a0 true _ A4.out).mono ?_); rintro e w' ⟨rfl, ⟨nd, rfl⟩⟩; (try first | exact ⟨rfl, _, World.drewN_drewN _ _ _⟩ | exact ⟨rfl, _, Eq.trans (World.drewN_drewN _ _ _) (congrArg (World.drewN _) (Nat.add_assoc _ _ _))⟩)) | (go_at_call 83; (with_reducible refine (spec_IsWord.calls k a1 false _ A6.out).mono ?_); rintro e w' ⟨rfl, ⟨nd, rfl⟩⟩; (try first | exact ⟨rfl, _, World.drewN_drewN _ _ _⟩ | exact ⟨rfl, _, Eq.trans (World.drewN_drewN _ _ _) (congrArg (World.drewN _) (Nat.add_assoc _ _ _))⟩))); try go_wp2_with (first | (go_at_call 119; (with_reducible refine (spec_IsPattern.calls k a0 true _ A4.out).mono ?_); rintro e w' ⟨rfl, ⟨nd, rfl⟩⟩; (try first | exact ⟨rfl, _, World.drewN_drewN _ _ _⟩ | exact ⟨rfl, _, Eq.trans (World.drewN_drewN _ _ _) (congrArg (World.drewN _) (Nat.add_assoc _ _ _))⟩)) | (go_at_call 83; (with_reducible refine (spec_IsWord.calls k a1 false _ A6.out).mono ?_); rintro e w' ⟨rfl, ⟨nd, rfl⟩⟩; (try first | exact ⟨rfl, _, World.drewN_drewN _ _ _⟩ | exact ⟨rfl, _, Eq.trans (World.drewN_drewN _ _ _) (congrArg (World.drewN _) (Nat.add_assoc _ _ _))⟩))))
     go_meet
     case rel => exact ⟨_, (true), z_g2, H', ⟨by first | omega | exact Nat.le_refl _⟩, z_g3⟩
   ·replace c5 := Bool.eq_false_iff.mpr c5; subst c5; rw [if_neg (show ¬ (false = true) by decide)] at H
    have H' := Aside0.mk H
    clear H; go_wp2_with (first | (go_at_call 119; (with_reducible refine (spec_IsPattern.calls k a0 false _ A4.out).mono ?_); rintro e w' ⟨rfl, ⟨nd, rfl⟩⟩; (try first | exact ⟨rfl, _, World.drewN_drewN _ _ _⟩ | exact ⟨rfl, _, Eq.trans (World.drewN_drewN _ _ _) (congrArg (World.drewN _) (Nat.add_assoc _ _ _))⟩)))
    repeat (go_quiet (first | (go_at_call 119; (with_reducible refine (spec_IsPattern.calls k a0 false _ A4.out).mono ?_); rintro e w' ⟨rfl, ⟨nd, rfl⟩⟩; (try first | exact ⟨rfl, _, World.drewN_drewN _ _ _⟩ | exact ⟨rfl, _, Eq.trans (World.drewN_drewN _ _ _) (congrArg (World.drewN _) (Nat.add_assoc _ _ _))⟩))); try go_wp2_with (first | (go_at_call 119; (with_reducible refine (spec_IsPattern.calls k a0 false _ A4.out).mono ?_); rintro e w' ⟨rfl, ⟨nd, rfl⟩⟩; (try first | exact ⟨rfl, _, World.drewN_drewN _ _ _⟩ | exact ⟨rfl, _, Eq.trans (World.drewN_drewN _ _ _) (congrArg (World.drewN _) (Nat.add_assoc _ _ _))⟩))))
    go_meet
    case rel => exact ⟨_, (true), z_g2, H', ⟨by first | omega | exact Nat.le_refl _⟩, z_g3⟩
  case rest =>
   clear HC3; try clear c1
   try clear p2
   try clear c5
   try clear c7
   obtain ⟨kq, x20_2, rfl, HA, HJ2, ⟨mc2, rfl⟩⟩ := hcut
   cases kq with
   | zero => exact absurd HA.out (by simp [spec_FitsPattern.j0])
   | succ kj2 =>
    have H := HA.out; clear HA; simp only [spec_FitsPattern.j0] at H; by_cases c8 : x20_2 = true
    ·subst c8; rw [if_pos rfl] at H
     obtain rfl := Option.some.inj H; go_wp2
     repeat (go_quiet (fail); try go_wp2)
     go_ret
     exact ⟨z_g2, z_g3⟩
    ·replace c8 := Bool.eq_false_iff.mpr c8; subst c8; rw [if_neg (show ¬ (false = true) by decide)] at H
     have H' := Aside0.mk H
     clear H; go_wp2
     repeat (go_quiet (fail); try go_wp2)
     go_loopg [5] kj2 (fun kq v5 w' => ∃ (x5_2 : Int), v5 = .int .i64 x5_2 ∧ Aside0 (spec_FitsPattern.l0 kq a0 a1 x5_2 = some r) ∧ Aside0 (kq ≤ kj2) ∧ Drawn0 w w')
     case atStart => exact ⟨(0), z_g2, H', ⟨Nat.le_refl _⟩, z_g3⟩
     case round =>
      clear H'; try clear c1
      try clear c2
      try clear p2
      try clear c5
      try clear c7
      try clear c8
      try clear p2
      obtain ⟨x5_2, rfl, HA, HK2, ⟨m2, rfl⟩⟩ := hrel
      cases gk with
      | zero => exact absurd HA.out (by simp [spec_FitsPattern.l0])
      | succ k2 =>
       have H := HA.out; clear HA; simp only [spec_FitsPattern.l0] at H; by_cases c9 : x5_2 < (a0.size : Int)
       ·rw [if_pos c9] at H
        have c9b0 := decide_eq_true c9; clear c9; by_cases c10 : 0 ≤ x5_2
        ·rw [if_pos c10] at H
         have c10b0 := decide_eq_true c10; clear c10; by_cases c12 : (bt a0 x5_2) = 63
         ·rw [if_pos c12] at H
          have c12b0 : ((bt a0 x5_2) == 63) = true := beq_iff_eq.mpr c12; have c12b1 : ((bt a0 x5_2) != 63) = false := bne_eq_false_iff_eq.mpr c12; clear c12; have H' := Aside0.mk H
          clear H; have p11 : 0 ≤ (x5_2 : Int) := of_decide_eq_true z_g1; have q11 : x5_2 < (a0.size : Int) := of_decide_eq_true z_g1; have hx11 := bt_at a0 x5_2; replace p11 := eq_true p11; replace q11 := eq_true q11; go_wp2
          repeat (go_quiet (fail); try go_wp2)
          go_roundg k2
          case measure => have := HJ2.out; have := HK2.out; omega
          case rel => exact ⟨(wrap64 (x5_2 + 1)), z_g2, H', ⟨by have := HJ2.out; have := HK2.out; omega⟩, z_g3⟩
         ·rw [if_neg c12] at H
          have c12b0 : ((bt a0 x5_2) == 63) = false := beq_eq_false_iff_ne.mpr c12; have c12b1 : ((bt a0 x5_2) != 63) = true := bne_iff_ne.mpr c12; by_cases c14 : x5_2 < (a1.size : Int)
          ·rw [if_pos c14] at H
           have c14b0 := decide_eq_true c14; clear c14; by_cases c16 : (bt a0 x5_2) = (bt a1 x5_2)
           ·rw [if_pos c16] at H
            have c16b0 : ((bt a0 x5_2) == (bt a1 x5_2)) = true := beq_iff_eq.mpr c16; have c16b1 : ((bt a0 x5_2) != (bt a1 x5_2)) = false := bne_eq_false_iff_eq.mpr c16; clear c16; have H' := Aside0.mk H
            clear H; have p11 : 0 ≤ (x5_2 : Int) := of_decide_eq_true z_g1; have q11 : x5_2 < (a0.size : Int) := of_decide_eq_true z_g1; have hx11 := bt_at a0 x5_2; replace p11 := eq_true p11; replace q11 := eq_true q11; have p13 : 0 ≤ (x5_2 : Int) := of_decide_eq_true z_g1; have q13 : x5_2 < (a0.size : Int) := of_decide_eq_true z_g1; have hx13 := bt_at a0 x5_2; replace p13 := eq_true p13; replace q13 := eq_true q13; have p15 : 0 ≤ (x5_2 : Int) := of_decide_eq_true z_g1; have q15 : x5_2 < (a1.size : Int) := of_decide_eq_true z_g1; have hx15 := bt_at a1 x5_2; replace p15 := eq_true p15; replace q15 := eq_true q15; go_wp2
            repeat (go_quiet (fail); try go_wp2)
            go_roundg k2
            case measure => have := HJ2.out; have := HK2.out; omega
            case rel => exact ⟨(wrap64 (x5_2 + 1)), z_g2, H', ⟨by have := HJ2.out; have := HK2.out; omega⟩, z_g3⟩
           ·rw [if_neg c16] at H
            have c16b0 : ((bt a0 x5_2) == (bt a1 x5_2)) = false := beq_eq_false_iff_ne.mpr c16; have c16b1 : ((bt a0 x5_2) != (bt a1 x5_2)) = true := bne_iff_ne.mpr c16; obtain rfl := Option.some.inj H; have p11 : 0 ≤ (x5_2 : Int) := of_decide_eq_true z_g1; have q11 : x5_2 < (a0.size : Int) := of_decide_eq_true z_g1; have hx11 := bt_at a0 x5_2; replace p11 := eq_true p11; replace q11 := eq_true q11; have p13 : 0 ≤ (x5_2 : Int) := of_decide_eq_true z_g1; have q13 : x5_2 < (a0.size : Int) := of_decide_eq_true z_g1; have hx13 := bt_at a0 x5_2; replace p13 := eq_true p13; replace q13 := eq_true q13; have p15 : 0 ≤ (x5_2 : Int) := of_decide_eq_true z_g1; have q15 : x5_2 < (a1.size : Int) := of_decide_eq_true z_g1; have hx15 := bt_at a1 x5_2; replace p15 := eq_true p15; replace q15 := eq_true q15; go_wp2
            repeat (go_quiet (fail); try go_wp2)
            go_ret
            exact ⟨z_g2, z_g3⟩
          ·rw [if_neg c14] at H
           exact absurd H (by simp)
        ·rw [if_neg c10] at H
         exact absurd H (by simp)
       ·rw [if_neg c9] at H
        have c9b0 := decide_eq_false c9; clear c9; obtain rfl := Option.some.inj H; go_wp2
        repeat (go_quiet (fail); try go_wp2)
        go_ret
        exact ⟨z_g2, z_g3⟩

/-! ### spec_WordsFitting: function 65 -/
def spec_WordsFitting.l0 : Nat → List ByteArray → ByteArray → List ByteArray → Int → Option (List ByteArray)
  | 0, _, _, _, _ => none
  | k + 1, x0, x1, x5, x6 => if x6 < (x0.length : Int) then (if 0 ≤ x6 then ((spec_FitsPattern.f k x1 (rdOf ByteArray.empty x0 x6)).bind fun t190 => (if t190 = true then (if x5.length < 8796093022208 then (spec_WordsFitting.l0 k x0 x1 (x5 ++ [rdOf ByteArray.empty x0 x6]) (wrap64 (x6 + 1))) else (none)) else (spec_WordsFitting.l0 k x0 x1 x5 (wrap64 (x6 + 1))))) else (none)) else (some x5)
def spec_WordsFitting.f (k : Nat) (l0 : List ByteArray) (a1 : ByteArray) : Option (List ByteArray) := spec_WordsFitting.l0 k l0 a1 (([] : List ByteArray)) 0
theorem spec_WordsFitting.calls (k : Nat) (A0 : Option Addr) (c0 : Nat) (l0 : List ByteArray) (a1 : ByteArray) (r : List ByteArray) (w : World) (hr0 : Kd.C Kd.string w A0 l0.length l0) (hc0 : l0.length ≤ c0) (h : spec_WordsFitting.f k l0 a1 = some r) :
   Calls Try.prog 65 #[.slice A0 l0.length c0, .string a1] w fun e w' => ∃ v0_ : Value, e = .returned (v0_) ∧ Kd.R Kd.string 9 w' w.heap.size (fun _ => True) v0_ r ∧ Below w.heap.size w w' := by
  have HR0 := Aside0.mk hr0; have HC0 := Aside0.mk hc0; clear hr0 hc0; have HB := Aside0.mk (Below.refl w.heap.size w); have H : (spec_WordsFitting.l0 k l0 a1 (([] : List ByteArray)) 0) = some r := h; clear h; obtain ⟨y186, hy186⟩ : ∃ y_ : List ByteArray, y_ = (([] : List ByteArray)) := ⟨_, rfl⟩; replace H : (spec_WordsFitting.l0 k l0 a1 y186 0) = some r := by first | (rw [hy186]; with_reducible exact H) | (have H2_ := (Option.bind_some _ _).symm.trans H; rw [hy186]; with_reducible exact H2_) | (have H2_ := (Option.bind_some _ _).symm.trans H; with_reducible exact H2_) | with_reducible exact H | (rw [hy186]; exact H) | exact H
  have Ny186 := Aside0.mk hy186; clear hy186; have H' := Aside0.mk H
  clear H; go_enter Try.func65, Try.ntmps65
  go_wp2_with (first | ((with_reducible refine gate_dst (N := 7) rfl ?_); refine Kd.R_lit Kd.string _ 9 ?hg (N := 7) ?hd (xs := ([] : List ByteArray)) (inner := []) (ok := fun _ => True) (okp := fun _ => True) ?hr ?hp (fun _ hk => hk) trivial (Below.refl _ _) (Nat.le_refl _) (by simp) ?_; (case hd => rfl); (case hg => rfl); (case hr => first | (go_simp; done) | (go_simp; rfl)); (case hp => exact (Reps.none _ _)); intro v187 w3 ho4 hb hg_ hnew_; clear hg_ hnew_; (first | rw [← Ny186.out] at ho4 | (simp only [Int.reduceToNat] at ho4; rw [← Ny186.out] at ho4)); have HO188 := Aside0.mk (Kd.R_lower ho4 (below_size z_g4)); replace HB := Aside0.mk (below_step z_g4 hb); clear hb ho4))
  go_loopg [5, 6] k (fun kq v5 v6 w' => ∃ (x5_1 : List ByteArray) (x6_1 : Int), v6 = .int .i64 x6_1 ∧ Aside0 (spec_WordsFitting.l0 kq l0 a1 x5_1 x6_1 = some r) ∧ Aside0 (kq ≤ k) ∧ Aside0 (Kd.R Kd.string 9 w' w.heap.size (fun _ => True) v5 x5_1) ∧ Aside0 (Below w.heap.size w w'))
  case atStart => exact ⟨(y186), (0), z_g2, H', ⟨Nat.le_refl _⟩, ⟨by (with_reducible repeat (first | apply Kd.R_alloc | apply Kd.R_drewN | apply Kd.R_drew)); exact HO188.out⟩, ⟨z_g4⟩⟩
  case round =>
   clear H'; try clear p2
   obtain ⟨x5_1, x6_1, rfl, HA, HK1, HO_5, HB⟩ := hrel
   cases gk with
   | zero => exact absurd HA.out (by simp [spec_WordsFitting.l0])
   | succ k1 =>
    have H := HA.out; clear HA; simp only [spec_WordsFitting.l0] at H; by_cases c5 : x6_1 < (l0.length : Int)
    ·rw [if_pos c5] at H
     have c5b0 := decide_eq_true c5; clear c5; by_cases c6 : 0 ≤ x6_1
     ·rw [if_pos c6] at H
      have c6b0 := decide_eq_true c6; clear c6; replace H := Option.bind_eq_some_iff.mp H; obtain ⟨t190, A70, H⟩ := H; try dsimp only at H
      have A7 := Aside0.mk A70; clear A70; by_cases c8 : t190 = true
      ·subst c8; rw [if_pos rfl] at H
       by_cases c9 : x5_1.length < 8796093022208
       ·rw [if_pos c9] at H
        have LMc9 := Aside0.mk c9; clear c9; obtain ⟨y192, hy192⟩ : ∃ y_ : List ByteArray, y_ = (x5_1 ++ [rdOf ByteArray.empty l0 x6_1]) := ⟨_, rfl⟩; replace H : (spec_WordsFitting.l0 k1 l0 a1 y192 (wrap64 (x6_1 + 1))) = some r := by first | (rw [hy192]; with_reducible exact H) | (have H2_ := (Option.bind_some _ _).symm.trans H; rw [hy192]; with_reducible exact H2_) | (have H2_ := (Option.bind_some _ _).symm.trans H; with_reducible exact H2_) | with_reducible exact H | (rw [hy192]; exact H) | exact H
        have Ny192 := Aside0.mk hy192; clear hy192; have H' := Aside0.mk H
        clear H; have p189 : 0 ≤ (x6_1 : Int) := of_decide_eq_true z_g1; have q189 : x6_1 < (l0.length : Int) := of_decide_eq_true z_g1; obtain ⟨ad189, e189, hx189_0⟩ := Kd.at_string HR0.out x6_1 p189 q189
        cases e189; try replace hx189_0 := (HB.out.cell (World.block_lt_of_cell? w _ hx189_0)).trans hx189_0
        replace p189 := eq_true p189; replace q189 := eq_true q189; go_wp2_with (first | ((with_reducible refine gate_callee (f := 101) rfl ?_); refine goesL_ (some 19) rfl rfl Try.func101 (by kernel_rfl) rfl #[.string a1, .string (rdOf ByteArray.empty l0 x6_1)] rfl (by (try simp only [List.map_toArray, List.map_cons, List.map_nil]); first | done | rfl | (simp only [List.length_drop, List.length_take]; rfl)) ?_; (with_reducible refine (spec_FitsPattern.calls k1 a1 (rdOf ByteArray.empty l0 x6_1) true _ A7.out).mono ?_); rintro e w' ⟨rfl, ⟨nd, rfl⟩⟩; refine ⟨_, rfl, ?_⟩; have p191 : 0 ≤ (x6_1 : Int) := of_decide_eq_true z_g1; have q191 : x6_1 < (l0.length : Int) := of_decide_eq_true z_g1; obtain ⟨ad191, e191, hx191_0⟩ := Kd.at_string HR0.out x6_1 p191 q191; obtain rfl : ad189 = ad191 := (by injection e191); replace hx191_0 := (HB.out.cell (World.block_lt_of_cell? w _ hx191_0)).trans hx191_0; replace p191 := eq_true p191; replace q191 := eq_true q191) | ((with_reducible refine gate_builtin (b := .append) (xs := #[.tmp 20, .tmp 25]) rfl ?_); at_builtin; refine Kd.R_append Kd.string (w0 := w) w.heap.size rfl (.tmp 20) (.tmp 25) 24 9 (.string ⟨#[]⟩) 16 rfl Try.underlying24 info9 rfl (by decide) (by omega) u5 x5_1 (rdOf ByteArray.empty l0 x6_1) [.string (rdOf ByteArray.empty l0 x6_1)] (fun _ => True) (fun _ => False) rfl rfl ?aP (fun _ hk => hk.elim) ?aF ?aO ?aB ?aS ?aL ?_; (case aP => exact rfl); (case aB => exact z_g4); (case aF => exact (fun _ _ => trivial)); (case aO => exact (kd_g8 HO_5.out)); (case aS => exact (below_size z_g4)); (case aL => have := LMc9.out; omega); intro v193 w10 ho hb hg hat; rw [← Ny192.out] at ho; have n0_ := Aside0.mk (hb); have n1_ := Aside0.mk (ho); clear HB; clear HO_5; have HB := n0_; have HO194 := n1_; clear n0_ n1_; clear ho hb hg hat))
        go_roundg k1
        case measure => have := HK1.out; omega
        case rel => exact ⟨(y192), (wrap64 (x6_1 + 1)), z_g2, H', ⟨by have := HK1.out; omega⟩, ⟨by (with_reducible repeat (first | apply Kd.R_alloc | apply Kd.R_drewN | apply Kd.R_drew)); exact HO194.out⟩, ⟨z_g4⟩⟩
       ·rw [if_neg c9] at H
        exact absurd H (by simp)
      ·replace c8 := Bool.eq_false_iff.mpr c8; subst c8; rw [if_neg (show ¬ (false = true) by decide)] at H
       have H' := Aside0.mk H
       clear H; have p189 : 0 ≤ (x6_1 : Int) := of_decide_eq_true z_g1; have q189 : x6_1 < (l0.length : Int) := of_decide_eq_true z_g1; obtain ⟨ad189, e189, hx189_0⟩ := Kd.at_string HR0.out x6_1 p189 q189
       cases e189; try replace hx189_0 := (HB.out.cell (World.block_lt_of_cell? w _ hx189_0)).trans hx189_0
       replace p189 := eq_true p189; replace q189 := eq_true q189; go_wp2_with (first | ((with_reducible refine gate_callee (f := 101) rfl ?_); refine goesL_ (some 19) rfl rfl Try.func101 (by kernel_rfl) rfl #[.string a1, .string (rdOf ByteArray.empty l0 x6_1)] rfl (by (try simp only [List.map_toArray, List.map_cons, List.map_nil]); first | done | rfl | (simp only [List.length_drop, List.length_take]; rfl)) ?_; (with_reducible refine (spec_FitsPattern.calls k1 a1 (rdOf ByteArray.empty l0 x6_1) false _ A7.out).mono ?_); rintro e w' ⟨rfl, ⟨nd, rfl⟩⟩; refine ⟨_, rfl, ?_⟩))
       go_roundg k1
       case measure => have := HK1.out; omega
       case rel => exact ⟨(x5_1), (wrap64 (x6_1 + 1)), z_g2, H', ⟨by have := HK1.out; omega⟩, ⟨z11_7⟩, ⟨z_g4⟩⟩
     ·rw [if_neg c6] at H
      exact absurd H (by simp)
    ·rw [if_neg c5] at H
     have c5b0 := decide_eq_false c5; clear c5; obtain rfl := Option.some.inj H; go_wp2
     go_ret
     exact ⟨_, by first | rfl | (simp [errW_none, errW_some] <;> rfl) | (simp [*, errW_none, errW_some] <;> rfl), z11_7, z_g4⟩

/-! ### spec_CellsOf: function 46 -/
mutual
def spec_CellsOf.l0 : Nat → List Int → List (S65) → Int → Int → Int → ByteArray → Int → Bool → Int → Int → Option (List Int)
  | 0, _, _, _, _, _, _, _, _, _, _ => none
  | k + 1, x5, x6, x7, x196000, x196001, x196002, x197000, x197001, x197002, x197003 => if x7 < (x6.length : Int) then (if 0 ≤ x7 then (if (!(((rd_T65 x6 x7).f0) == x197000) || (!(((rd_T65 x6 x7).f1) == x197001) || (!(((rd_T65 x6 x7).f2) == x197002) || (!(((rd_T65 x6 x7).f3) == x197003))))) = true then (spec_CellsOf.l0 k x5 x6 (wrap64 (x7 + 1)) x196000 x196001 x196002 x197000 x197001 x197002 x197003) else (spec_CellsOf.l1 k x5 x6 x7 0 x196000 x196001 x196002 x197000 x197001 x197002 x197003)) else (none)) else (some x5)
def spec_CellsOf.l1 : Nat → List Int → List (S65) → Int → Int → Int → Int → ByteArray → Int → Bool → Int → Int → Option (List Int)
  | 0, _, _, _, _, _, _, _, _, _, _, _ => none
  | k + 1, x5, x6, x7, x8, x196000, x196001, x196002, x197000, x197001, x197002, x197003 => if x8 < x197003 then (if x197001 = true then (if x5.length < 17592186044416 then (spec_CellsOf.l1 k (x5 ++ [wrap64 (x197002 + (wrap64 (x8 * x196001)))]) x6 x7 (wrap64 (x8 + 1)) x196000 x196001 x196002 x197000 x197001 x197002 x197003) else (none)) else (if x5.length < 17592186044416 then (spec_CellsOf.l1 k (x5 ++ [wrap64 (x197002 + x8)]) x6 x7 (wrap64 (x8 + 1)) x196000 x196001 x196002 x197000 x197001 x197002 x197003) else (none))) else (spec_CellsOf.l0 k x5 x6 (wrap64 (x7 + 1)) x196000 x196001 x196002 x197000 x197001 x197002 x197003)
end
def spec_CellsOf.f (k : Nat) (a0_0 : Int) (a0_1 : Int) (a0_2 : ByteArray) (a1_0 : Int) (a1_1 : Bool) (a1_2 : Int) (a1_3 : Int) : Option (List Int) := (spec_SlotsOf.f k a0_0 a0_1 a0_2).bind fun t200 => (spec_CellsOf.l0 k (([] : List Int)) t200 0 a0_0 a0_1 a0_2 a1_0 a1_1 a1_2 a1_3)
theorem spec_CellsOf.calls (k : Nat) (a0_0 : Int) (a0_1 : Int) (a0_2 : ByteArray) (a1_0 : Int) (a1_1 : Bool) (a1_2 : Int) (a1_3 : Int) (r : List Int) (w : World) (h : spec_CellsOf.f k a0_0 a0_1 a0_2 a1_0 a1_1 a1_2 a1_3 = some r) :
   Calls Try.prog 46 #[.agg #[.int .i64 a0_0, .int .i64 a0_1, .string a0_2], .agg #[.int .i64 a1_0, .bool a1_1, .int .i64 a1_2, .int .i64 a1_3]] w fun e w' => ∃ v0_ : Value, e = .returned (v0_) ∧ Kd.R (Kd.int .i64) 3 w' w.heap.size (fun _ => True) v0_ r ∧ Below w.heap.size w w' := by
  have hu28 := Try.underlying28; have hu65 := Try.underlying65; have HB := Aside0.mk (Below.refl w.heap.size w); have H : ((spec_SlotsOf.f k a0_0 a0_1 a0_2).bind fun t200 => (spec_CellsOf.l0 k (([] : List Int)) t200 0 a0_0 a0_1 a0_2 a1_0 a1_1 a1_2 a1_3)) = some r := h; clear h; obtain ⟨y197, hy197⟩ : ∃ y_ : List Int, y_ = (([] : List Int)) := ⟨_, rfl⟩; replace H : ((spec_SlotsOf.f k a0_0 a0_1 a0_2).bind fun t200 => (spec_CellsOf.l0 k y197 t200 0 a0_0 a0_1 a0_2 a1_0 a1_1 a1_2 a1_3)) = some r := by first | (rw [hy197]; with_reducible exact H) | (have H2_ := (Option.bind_some _ _).symm.trans H; rw [hy197]; with_reducible exact H2_) | (have H2_ := (Option.bind_some _ _).symm.trans H; with_reducible exact H2_) | with_reducible exact H | (rw [hy197]; exact H) | exact H
  have Ny197 := Aside0.mk hy197; clear hy197; replace H := Option.bind_eq_some_iff.mp H; obtain ⟨t200, A30, H⟩ := H; try dsimp only at H
  have A3 := Aside0.mk A30; clear A30; have H' := Aside0.mk H
  clear H; go_enter Try.func46, Try.ntmps46
  go_wp2_with (first | ((with_reducible refine gate_dst (N := 2) rfl ?_); refine box_event ?hg (N := 2) ?hd (cs := #[.int .i64 a0_0, .int .i64 a0_1, .string a0_2]) (t := 28) ?hr ?_; (case hd => rfl); (case hg => rfl); (case hr => first | (go_simp; done) | (go_simp; rfl)); intro gb195 hg w4 hbox hb; have BK195 := Aside0.mk (hbox); have GW195 := Aside0.mk ((by rw [hg]; exact (below_size z_g4) : w.heap.size ≤ gb195)); have GE195 := Aside0.mk ((by rw [hg]; exact (below_size z_g4) : w.heap.size ≤ gb195)); replace HB := Aside0.mk (below_step z_g4 hb); clear hb hbox hg) | ((with_reducible refine gate_dst (N := 3) rfl ?_); refine box_event ?hg (N := 3) ?hd (cs := #[.int .i64 a1_0, .bool a1_1, .int .i64 a1_2, .int .i64 a1_3]) (t := 65) ?hr ?_; (case hd => rfl); (case hg => rfl); (case hr => first | (go_simp; done) | (go_simp; rfl)); intro gb196 hg w5 hbox hb; have BK196 := Aside0.mk (hbox); have GW196 := Aside0.mk ((by rw [hg]; exact (below_size z11_2) : w.heap.size ≤ gb196)); have GE196 := Aside0.mk ((by rw [hg]; exact (below_size z11_2) : w.heap.size ≤ gb196)); replace HB := Aside0.mk (below_step z11_2 hb); have NB195_196 := Aside0.mk ((by rw [hg]; exact Nat.ne_of_lt (blk_lt (g := gb195) (o := .cells #[.int .i64 a0_0, .int .i64 a0_1, .string a0_2] 28 (0, 0)) (bd_g7 BK195.out)) : gb195 ≠ gb196)); have NB196_195 := Aside0.mk ((by rw [hg]; exact Nat.ne_of_gt (blk_lt (g := gb195) (o := .cells #[.int .i64 a0_0, .int .i64 a0_1, .string a0_2] 28 (0, 0)) (bd_g7 BK195.out)) : gb196 ≠ gb195)); replace BK195 := Aside0.mk (blk_below (g := gb195) (o := .cells #[.int .i64 a0_0, .int .i64 a0_1, .string a0_2] 28 (0, 0)) (bd_g7 BK195.out) hb); clear hb hbox hg) | ((with_reducible refine gate_dst (N := 9) rfl ?_); refine Kd.R_lit (Kd.int .i64) _ 3 ?hg (N := 9) ?hd (xs := ([] : List Int)) (inner := []) (ok := fun _ => True) (okp := fun _ => True) ?hr ?hp (fun _ hk => hk) trivial (Below.refl _ _) (Nat.le_refl _) (by simp) ?_; (case hd => rfl); (case hg => rfl); (case hr => first | (go_simp; done) | (go_simp; rfl)); (case hp => exact (Reps.none _ _)); intro v198 w6 ho7 hb hg_ hnew_; clear hg_ hnew_; (first | rw [← Ny197.out] at ho7 | (simp only [Int.reduceToNat] at ho7; rw [← Ny197.out] at ho7)); have HO199 := Aside0.mk (Kd.R_lower ho7 (below_size z11_0)); replace BK195 := Aside0.mk (blk_below (g := gb195) (o := .cells #[.int .i64 a0_0, .int .i64 a0_1, .string a0_2] 28 (0, 0)) (bd_g7 BK195.out) hb); replace BK196 := Aside0.mk (blk_below (g := gb196) (o := .cells #[.int .i64 a1_0, .bool a1_1, .int .i64 a1_2, .int .i64 a1_3] 65 (0, 0)) (bd_g7 BK196.out) hb); replace HB := Aside0.mk (below_step z11_0 hb); clear hb ho7; have hnb8 := NB195_196.out; have hnc8 := NB196_195.out; obtain ⟨hcz9_0, hcz9_1, hcz9_2, hfz9_0, hfz9_1, hfz9_2⟩ := bc3_g0 BK195.out) | (go_at_call 45; (with_reducible refine (spec_SlotsOf.calls k a0_0 a0_1 a0_2 t200 _ A3.out).mono ?_); rintro e w10 ⟨v201, rfl, ho0, hb⟩; replace HO199 := Aside0.mk (Kd.R_below (kd_g8 HO199.out) hb); have HO202 := Aside0.mk (Kd.R_lower (Kd.R_newB ho0 (g := gb196) (o := .cells #[.int .i64 a1_0, .bool a1_1, .int .i64 a1_2, .int .i64 a1_3] 65 (0, 0)) (bd_g7 BK196.out)) (below_size z11_0)); replace BK195 := Aside0.mk (blk_below (g := gb195) (o := .cells #[.int .i64 a0_0, .int .i64 a0_1, .string a0_2] 28 (0, 0)) (bd_g7 BK195.out) hb); replace BK196 := Aside0.mk (blk_below (g := gb196) (o := .cells #[.int .i64 a1_0, .bool a1_1, .int .i64 a1_2, .int .i64 a1_3] 65 (0, 0)) (bd_g7 BK196.out) hb); replace HB := Aside0.mk (below_step z11_0 hb); (try clear hb); (try clear ho0)))
  repeat (go_quiet (first | ((with_reducible refine gate_dst (N := 2) rfl ?_); refine box_event ?hg (N := 2) ?hd (cs := #[.int .i64 a0_0, .int .i64 a0_1, .string a0_2]) (t := 28) ?hr ?_; (case hd => rfl); (case hg => rfl); (case hr => first | (go_simp; done) | (go_simp; rfl)); intro gb195 hg w4 hbox hb; have BK195 := Aside0.mk (hbox); have GW195 := Aside0.mk ((by rw [hg]; exact (below_size z_g4) : w.heap.size ≤ gb195)); have GE195 := Aside0.mk ((by rw [hg]; exact (below_size z_g4) : w.heap.size ≤ gb195)); replace HB := Aside0.mk (below_step z_g4 hb); clear hb hbox hg) | ((with_reducible refine gate_dst (N := 3) rfl ?_); refine box_event ?hg (N := 3) ?hd (cs := #[.int .i64 a1_0, .bool a1_1, .int .i64 a1_2, .int .i64 a1_3]) (t := 65) ?hr ?_; (case hd => rfl); (case hg => rfl); (case hr => first | (go_simp; done) | (go_simp; rfl)); intro gb196 hg w5 hbox hb; have BK196 := Aside0.mk (hbox); have GW196 := Aside0.mk ((by rw [hg]; exact (below_size z11_2) : w.heap.size ≤ gb196)); have GE196 := Aside0.mk ((by rw [hg]; exact (below_size z11_2) : w.heap.size ≤ gb196)); replace HB := Aside0.mk (below_step z11_2 hb); have NB195_196 := Aside0.mk ((by rw [hg]; exact Nat.ne_of_lt (blk_lt (g := gb195) (o := .cells #[.int .i64 a0_0, .int .i64 a0_1, .string a0_2] 28 (0, 0)) (bd_g7 BK195.out)) : gb195 ≠ gb196)); have NB196_195 := Aside0.mk ((by rw [hg]; exact Nat.ne_of_gt (blk_lt (g := gb195) (o := .cells #[.int .i64 a0_0, .int .i64 a0_1, .string a0_2] 28 (0, 0)) (bd_g7 BK195.out)) : gb196 ≠ gb195)); replace BK195 := Aside0.mk (blk_below (g := gb195) (o := .cells #[.int .i64 a0_0, .int .i64 a0_1, .string a0_2] 28 (0, 0)) (bd_g7 BK195.out) hb); clear hb hbox hg) | ((with_reducible refine gate_dst (N := 9) rfl ?_); refine Kd.R_lit (Kd.int .i64) _ 3 ?hg (N := 9) ?hd (xs := ([] : List Int)) (inner := []) (ok := fun _ => True) (okp := fun _ => True) ?hr ?hp (fun _ hk => hk) trivial (Below.refl _ _) (Nat.le_refl _) (by simp) ?_; (case hd => rfl); (case hg => rfl); (case hr => first | (go_simp; done) | (go_simp; rfl)); (case hp => exact (Reps.none _ _)); intro v198 w6 ho7 hb hg_ hnew_; clear hg_ hnew_; (first | rw [← Ny197.out] at ho7 | (simp only [Int.reduceToNat] at ho7; rw [← Ny197.out] at ho7)); have HO199 := Aside0.mk (Kd.R_lower ho7 (below_size z11_0)); replace BK195 := Aside0.mk (blk_below (g := gb195) (o := .cells #[.int .i64 a0_0, .int .i64 a0_1, .string a0_2] 28 (0, 0)) (bd_g7 BK195.out) hb); replace BK196 := Aside0.mk (blk_below (g := gb196) (o := .cells #[.int .i64 a1_0, .bool a1_1, .int .i64 a1_2, .int .i64 a1_3] 65 (0, 0)) (bd_g7 BK196.out) hb); replace HB := Aside0.mk (below_step z11_0 hb); clear hb ho7; have hnb8 := NB195_196.out; have hnc8 := NB196_195.out; obtain ⟨hcz9_0, hcz9_1, hcz9_2, hfz9_0, hfz9_1, hfz9_2⟩ := bc3_g0 BK195.out) | (go_at_call 45; (with_reducible refine (spec_SlotsOf.calls k a0_0 a0_1 a0_2 t200 _ A3.out).mono ?_); rintro e w10 ⟨v201, rfl, ho0, hb⟩; replace HO199 := Aside0.mk (Kd.R_below (kd_g8 HO199.out) hb); have HO202 := Aside0.mk (Kd.R_lower (Kd.R_newB ho0 (g := gb196) (o := .cells #[.int .i64 a1_0, .bool a1_1, .int .i64 a1_2, .int .i64 a1_3] 65 (0, 0)) (bd_g7 BK196.out)) (below_size z11_0)); replace BK195 := Aside0.mk (blk_below (g := gb195) (o := .cells #[.int .i64 a0_0, .int .i64 a0_1, .string a0_2] 28 (0, 0)) (bd_g7 BK195.out) hb); replace BK196 := Aside0.mk (blk_below (g := gb196) (o := .cells #[.int .i64 a1_0, .bool a1_1, .int .i64 a1_2, .int .i64 a1_3] 65 (0, 0)) (bd_g7 BK196.out) hb); replace HB := Aside0.mk (below_step z11_0 hb); (try clear hb); (try clear ho0))); try go_wp2_with (first | ((with_reducible refine gate_dst (N := 2) rfl ?_); refine box_event ?hg (N := 2) ?hd (cs := #[.int .i64 a0_0, .int .i64 a0_1, .string a0_2]) (t := 28) ?hr ?_; (case hd => rfl); (case hg => rfl); (case hr => first | (go_simp; done) | (go_simp; rfl)); intro gb195 hg w4 hbox hb; have BK195 := Aside0.mk (hbox); have GW195 := Aside0.mk ((by rw [hg]; exact (below_size z_g4) : w.heap.size ≤ gb195)); have GE195 := Aside0.mk ((by rw [hg]; exact (below_size z_g4) : w.heap.size ≤ gb195)); replace HB := Aside0.mk (below_step z_g4 hb); clear hb hbox hg) | ((with_reducible refine gate_dst (N := 3) rfl ?_); refine box_event ?hg (N := 3) ?hd (cs := #[.int .i64 a1_0, .bool a1_1, .int .i64 a1_2, .int .i64 a1_3]) (t := 65) ?hr ?_; (case hd => rfl); (case hg => rfl); (case hr => first | (go_simp; done) | (go_simp; rfl)); intro gb196 hg w5 hbox hb; have BK196 := Aside0.mk (hbox); have GW196 := Aside0.mk ((by rw [hg]; exact (below_size z11_2) : w.heap.size ≤ gb196)); have GE196 := Aside0.mk ((by rw [hg]; exact (below_size z11_2) : w.heap.size ≤ gb196)); replace HB := Aside0.mk (below_step z11_2 hb); have NB195_196 := Aside0.mk ((by rw [hg]; exact Nat.ne_of_lt (blk_lt (g := gb195) (o := .cells #[.int .i64 a0_0, .int .i64 a0_1, .string a0_2] 28 (0, 0)) (bd_g7 BK195.out)) : gb195 ≠ gb196)); have NB196_195 := Aside0.mk ((by rw [hg]; exact Nat.ne_of_gt (blk_lt (g := gb195) (o := .cells #[.int .i64 a0_0, .int .i64 a0_1, .string a0_2] 28 (0, 0)) (bd_g7 BK195.out)) : gb196 ≠ gb195)); replace BK195 := Aside0.mk (blk_below (g := gb195) (o := .cells #[.int .i64 a0_0, .int .i64 a0_1, .string a0_2] 28 (0, 0)) (bd_g7 BK195.out) hb); clear hb hbox hg) | ((with_reducible refine gate_dst (N := 9) rfl ?_); refine Kd.R_lit (Kd.int .i64) _ 3 ?hg (N := 9) ?hd (xs := ([] : List Int)) (inner := []) (ok := fun _ => True) (okp := fun _ => True) ?hr ?hp (fun _ hk => hk) trivial (Below.refl _ _) (Nat.le_refl _) (by simp) ?_; (case hd => rfl); (case hg => rfl); (case hr => first | (go_simp; done) | (go_simp; rfl)); (case hp => exact (Reps.none _ _)); intro v198 w6 ho7 hb hg_ hnew_; clear hg_ hnew_; (first | rw [← Ny197.out] at ho7 | (simp only [Int.reduceToNat] at ho7; rw [← Ny197.out] at ho7)); have HO199 := Aside0.mk (Kd.R_lower ho7 (below_size z11_0)); replace BK195 := Aside0.mk (blk_below (g := gb195) (o := .cells #[.int .i64 a0_0, .int .i64 a0_1, .string a0_2] 28 (0, 0)) (bd_g7 BK195.out) hb); replace BK196 := Aside0.mk (blk_below (g := gb196) (o := .cells #[.int .i64 a1_0, .bool a1_1, .int .i64 a1_2, .int .i64 a1_3] 65 (0, 0)) (bd_g7 BK196.out) hb); replace HB := Aside0.mk (below_step z11_0 hb); clear hb ho7; have hnb8 := NB195_196.out; have hnc8 := NB196_195.out; obtain ⟨hcz9_0, hcz9_1, hcz9_2, hfz9_0, hfz9_1, hfz9_2⟩ := bc3_g0 BK195.out) | (go_at_call 45; (with_reducible refine (spec_SlotsOf.calls k a0_0 a0_1 a0_2 t200 _ A3.out).mono ?_); rintro e w10 ⟨v201, rfl, ho0, hb⟩; replace HO199 := Aside0.mk (Kd.R_below (kd_g8 HO199.out) hb); have HO202 := Aside0.mk (Kd.R_lower (Kd.R_newB ho0 (g := gb196) (o := .cells #[.int .i64 a1_0, .bool a1_1, .int .i64 a1_2, .int .i64 a1_3] 65 (0, 0)) (bd_g7 BK196.out)) (below_size z11_0)); replace BK195 := Aside0.mk (blk_below (g := gb195) (o := .cells #[.int .i64 a0_0, .int .i64 a0_1, .string a0_2] 28 (0, 0)) (bd_g7 BK195.out) hb); replace BK196 := Aside0.mk (blk_below (g := gb196) (o := .cells #[.int .i64 a1_0, .bool a1_1, .int .i64 a1_2, .int .i64 a1_3] 65 (0, 0)) (bd_g7 BK196.out) hb); replace HB := Aside0.mk (below_step z11_0 hb); (try clear hb); (try clear ho0))))
  go_loopg [5, 7] k (fun kq v5 v7 w' => ∃ (x5_1 : List Int) (x7_1 : Int), v7 = .int .i64 x7_1 ∧ Aside0 (spec_CellsOf.l0 kq x5_1 t200 x7_1 a0_0 a0_1 a0_2 a1_0 a1_1 a1_2 a1_3 = some r) ∧ Aside0 (kq ≤ k) ∧ Aside0 (Kd.R (Kd.int .i64) 3 w' w.heap.size (fun _ => True) v5 x5_1) ∧ Aside0 (Kd.R k65 65 w' w.heap.size (fun k_ => k_ ≠ gb196) v201 t200) ∧ Aside0 (w'.heap[gb195]? = some (.cells #[.int .i64 a0_0, .int .i64 a0_1, .string a0_2] 28 (0, 0))) ∧ Aside0 (w'.heap[gb196]? = some (.cells #[.int .i64 a1_0, .bool a1_1, .int .i64 a1_2, .int .i64 a1_3] 65 (0, 0))) ∧ Aside0 (Below w.heap.size w w'))
  case atStart => exact ⟨(y197), (0), z_g2, H', ⟨Nat.le_refl _⟩, ⟨by (with_reducible repeat (first | apply Kd.R_alloc | apply Kd.R_drewN | apply Kd.R_drew)); exact HO199.out⟩, ⟨by (with_reducible repeat (first | apply Kd.R_alloc | apply Kd.R_drewN | apply Kd.R_drew)); exact Kd.R_mono HO202.out (fun _ hk => hk.2)⟩, ⟨z11_5⟩, ⟨z11_6⟩, ⟨z11_0⟩⟩
  case round =>
   clear H'; try clear p2
   try clear c4
   try clear c8
   try clear hcz9_0 hcz9_1 hcz9_2 hfz9_0 hfz9_1 hfz9_2
   obtain ⟨x5_1, x7_1, rfl, HA, HK1, HO_5, HO_6, BK195, BK196, HB⟩ := hrel
   cases gk with
   | zero => exact absurd HA.out (by simp [spec_CellsOf.l0])
   | succ k1 =>
    have H := HA.out; clear HA; simp only [spec_CellsOf.l0] at H; by_cases c11 : x7_1 < (t200.length : Int)
    ·rw [if_pos c11] at H
     have c11b0 := decide_eq_true c11; clear c11; by_cases c12 : 0 ≤ x7_1
     ·rw [if_pos c12] at H
      have c12b0 := decide_eq_true c12; clear c12; by_cases c13 : (!(((rd_T65 t200 x7_1).f0) == a1_0) || (!(((rd_T65 t200 x7_1).f1) == a1_1) || (!(((rd_T65 t200 x7_1).f2) == a1_2) || (!(((rd_T65 t200 x7_1).f3) == a1_3))))) = true
      ·rw [if_pos c13] at H
       have c13b0 : (!(((rd_T65 t200 x7_1).f0) == a1_0) || (!(((rd_T65 t200 x7_1).f1) == a1_1) || (!(((rd_T65 t200 x7_1).f2) == a1_2) || (!(((rd_T65 t200 x7_1).f3) == a1_3))))) = true := c13; clear c13; have H' := Aside0.mk H
       clear H; obtain ⟨Ao14, co14, eo14⟩ := Kd.R_slice HO_6.out; subst eo14; have p203 : 0 ≤ (x7_1 : Int) := of_decide_eq_true z_g1; have q203 : x7_1 < (t200.length : Int) := of_decide_eq_true z_g1; obtain ⟨ad203, e203, hx203_0, hx203_1, hx203_2, hx203_3⟩ := at_T65 (Kd.R_reads' HO_6.out).2.2 x7_1 p203 q203
       cases e203; replace p203 := eq_true p203; replace q203 := eq_true q203; have hnb15 := NB196_195.out; have hnc15 := NB195_196.out; obtain ⟨hcz16_0, hcz16_1, hcz16_2, hcz16_3, hfz16_0, hfz16_1, hfz16_2, hfz16_3⟩ := bc4_g11 BK196.out; go_wp2
       repeat (go_quiet (fail); try go_wp2)
       go_roundg k1
       case measure => have := HK1.out; omega
       case rel => exact ⟨(x5_1), (wrap64 (x7_1 + 1)), z_g2, H', ⟨by have := HK1.out; omega⟩, ⟨z11_7⟩, ⟨by (with_reducible repeat (first | apply Kd.R_alloc | apply Kd.R_drewN | apply Kd.R_drew)); exact HO_6.out⟩, ⟨z11_5⟩, ⟨z11_6⟩, ⟨z11_0⟩⟩
      ·rw [if_neg c13] at H
       have c13b0 : (!(((rd_T65 t200 x7_1).f0) == a1_0) || (!(((rd_T65 t200 x7_1).f1) == a1_1) || (!(((rd_T65 t200 x7_1).f2) == a1_2) || (!(((rd_T65 t200 x7_1).f3) == a1_3))))) = false := by simpa using c13
       clear c13; have H' := Aside0.mk H
       clear H; obtain ⟨Ao17, co17, eo17⟩ := Kd.R_slice HO_6.out; subst eo17; have p203 : 0 ≤ (x7_1 : Int) := of_decide_eq_true z_g1; have q203 : x7_1 < (t200.length : Int) := of_decide_eq_true z_g1; obtain ⟨ad203, e203, hx203_0, hx203_1, hx203_2, hx203_3⟩ := at_T65 (Kd.R_reads' HO_6.out).2.2 x7_1 p203 q203
       cases e203; replace p203 := eq_true p203; replace q203 := eq_true q203; have hnb18 := NB196_195.out; have hnc18 := NB195_196.out; obtain ⟨hcz19_0, hcz19_1, hcz19_2, hcz19_3, hfz19_0, hfz19_1, hfz19_2, hfz19_3⟩ := bc4_g11 BK196.out; go_wp2
       repeat (go_quiet (fail); try go_wp2)
       go_loopg [5, 8] k1 (fun kq v5 v8 w' => ∃ (x5_2 : List Int) (x8_2 : Int), v8 = .int .i64 x8_2 ∧ Aside0 (spec_CellsOf.l1 kq x5_2 t200 x7_1 x8_2 a0_0 a0_1 a0_2 a1_0 a1_1 a1_2 a1_3 = some r) ∧ Aside0 (kq ≤ k1) ∧ Aside0 (Kd.R (Kd.int .i64) 3 w' w.heap.size (fun _ => True) v5 x5_2) ∧ Aside0 (Kd.R k65 65 w' w.heap.size (fun k_ => k_ ≠ gb196) (.slice (some ad203) t200.length co17) t200) ∧ Aside0 (w'.heap[gb195]? = some (.cells #[.int .i64 a0_0, .int .i64 a0_1, .string a0_2] 28 (0, 0))) ∧ Aside0 (w'.heap[gb196]? = some (.cells #[.int .i64 a1_0, .bool a1_1, .int .i64 a1_2, .int .i64 a1_3] 65 (0, 0))) ∧ Aside0 (Below w.heap.size w w'))
       case atStart => exact ⟨(x5_1), (0), z_g2, H', ⟨Nat.le_refl _⟩, ⟨z11_7⟩, ⟨by (with_reducible repeat (first | apply Kd.R_alloc | apply Kd.R_drewN | apply Kd.R_drew)); exact HO_6.out⟩, ⟨z11_5⟩, ⟨z11_6⟩, ⟨z11_0⟩⟩
       case round =>
        clear H'; try clear c1
        try clear p2
        try clear q2
        try clear hx2
        try clear c4
        try clear p6
        try clear c8
        try clear c11
        try clear c11b0
        try clear c12
        try clear c12b0
        try clear c13
        try clear c13b0
        try clear c15
        try clear c18
        try clear hcz16_0 hcz16_1 hcz16_2 hcz16_3
        try clear hcz19_0 hcz19_1 hcz19_2 hcz19_3
        try clear hcz9_0 hcz9_1 hcz9_2
        try clear hfz16_0 hfz16_1 hfz16_2 hfz16_3
        try clear hfz19_0 hfz19_1 hfz19_2 hfz19_3
        try clear hfz9_0 hfz9_1 hfz9_2
        try clear hx203_0
        try clear hx203_1
        try clear hx203_2
        try clear hx203_3
        try clear p2
        try clear p203
        try clear q203
        obtain ⟨x5_2, x8_2, rfl, HA, HK2, HO_5, HO_6, BK195, BK196, HB⟩ := hrel
        cases gk with
        | zero => exact absurd HA.out (by simp [spec_CellsOf.l1])
        | succ k2 =>
         have H := HA.out; clear HA; simp only [spec_CellsOf.l1] at H; by_cases c20 : x8_2 < a1_3
         ·rw [if_pos c20] at H
          have c20b0 := decide_eq_true c20; clear c20; by_cases c21 : a1_1 = true
          ·subst c21; rw [if_pos rfl] at H
           by_cases c22 : x5_2.length < 17592186044416
           ·rw [if_pos c22] at H
            have LMc22 := Aside0.mk c22; clear c22; obtain ⟨y204, hy204⟩ : ∃ y_ : List Int, y_ = (x5_2 ++ [wrap64 (a1_2 + (wrap64 (x8_2 * a0_1)))]) := ⟨_, rfl⟩; replace H : (spec_CellsOf.l1 k2 y204 t200 x7_1 (wrap64 (x8_2 + 1)) a0_0 a0_1 a0_2 a1_0 true a1_2 a1_3) = some r := by first | (rw [hy204]; with_reducible exact H) | (have H2_ := (Option.bind_some _ _).symm.trans H; rw [hy204]; with_reducible exact H2_) | (have H2_ := (Option.bind_some _ _).symm.trans H; with_reducible exact H2_) | with_reducible exact H | (rw [hy204]; exact H) | exact H
            have Ny204 := Aside0.mk hy204; clear hy204; have H' := Aside0.mk H
            clear H; have hnb23 := NB196_195.out; have hnc23 := NB195_196.out; obtain ⟨hcz24_0, hcz24_1, hcz24_2, hcz24_3, hfz24_0, hfz24_1, hfz24_2, hfz24_3⟩ := bc4_g11 BK196.out; obtain ⟨hcz25_0, hcz25_1, hcz25_2, hfz25_0, hfz25_1, hfz25_2⟩ := bc3_g0 BK195.out; go_wp2_with (first | ((with_reducible refine gate_builtin (b := .append) (xs := #[.tmp 32, .tmp 40]) rfl ?_); at_builtin; refine Kd.R_append (Kd.int .i64) (w0 := w) w.heap.size rfl (.tmp 32) (.tmp 40) 62 3 (.int .i64 0) 8 rfl Try.underlying62 info3 rfl (by decide) (by omega) u5 x5_2 (wrap64 (a1_2 + (wrap64 (x8_2 * a0_1)))) [.int .i64 (wrap64 (a1_2 + (wrap64 (x8_2 * a0_1))))] (fun _ => True) (fun _ => False) rfl rfl ?aP (fun _ hk => hk.elim) ?aF ?aO ?aB ?aS ?aL ?_; (case aP => exact rfl); (case aB => exact z11_0); (case aF => exact (fun _ _ => trivial)); (case aO => exact (kd_g8 HO_5.out)); (case aS => exact (below_size z11_0)); (case aL => have := LMc22.out; omega); intro v205 w26 ho hb hg hat; rw [← Ny204.out] at ho; have n0_ := Aside0.mk (Kd.R_over' (kd_g8 HO_6.out) (Kd.R_typed (kd_g8 HO_5.out)) (by decide) hg); have n1_ := Aside0.mk (blk_grown (g := gb195) (o := .cells #[.int .i64 a0_0, .int .i64 a0_1, .string a0_2] 28 (0, 0)) (bd_g7 BK195.out) hg (Kd.R_ne HO_5.out BK195.out (by decide))); have n2_ := Aside0.mk (blk_grown (g := gb196) (o := .cells #[.int .i64 a1_0, .bool true, .int .i64 a1_2, .int .i64 a1_3] 65 (0, 0)) (bd_g7 BK196.out) hg (Kd.R_ne HO_5.out BK196.out (by decide))); have n3_ := Aside0.mk (hb); have n4_ := Aside0.mk (ho); clear HO_6; clear BK195; clear BK196; clear HB; clear HO_5; have HO_6 := n0_; have BK195 := n1_; have BK196 := n2_; have HB := n3_; have HO206 := n4_; clear n0_ n1_ n2_ n3_ n4_; clear ho hb hg hat))
            repeat (go_quiet (first | ((with_reducible refine gate_builtin (b := .append) (xs := #[.tmp 32, .tmp 40]) rfl ?_); at_builtin; refine Kd.R_append (Kd.int .i64) (w0 := w) w.heap.size rfl (.tmp 32) (.tmp 40) 62 3 (.int .i64 0) 8 rfl Try.underlying62 info3 rfl (by decide) (by omega) u5 x5_2 (wrap64 (a1_2 + (wrap64 (x8_2 * a0_1)))) [.int .i64 (wrap64 (a1_2 + (wrap64 (x8_2 * a0_1))))] (fun _ => True) (fun _ => False) rfl rfl ?aP (fun _ hk => hk.elim) ?aF ?aO ?aB ?aS ?aL ?_; (case aP => exact rfl); (case aB => exact z11_0); (case aF => exact (fun _ _ => trivial)); (case aO => exact (kd_g8 HO_5.out)); (case aS => exact (below_size z11_0)); (case aL => have := LMc22.out; omega); intro v205 w26 ho hb hg hat; rw [← Ny204.out] at ho; have n0_ := Aside0.mk (Kd.R_over' (kd_g8 HO_6.out) (Kd.R_typed (kd_g8 HO_5.out)) (by decide) hg); have n1_ := Aside0.mk (blk_grown (g := gb195) (o := .cells #[.int .i64 a0_0, .int .i64 a0_1, .string a0_2] 28 (0, 0)) (bd_g7 BK195.out) hg (Kd.R_ne HO_5.out BK195.out (by decide))); have n2_ := Aside0.mk (blk_grown (g := gb196) (o := .cells #[.int .i64 a1_0, .bool true, .int .i64 a1_2, .int .i64 a1_3] 65 (0, 0)) (bd_g7 BK196.out) hg (Kd.R_ne HO_5.out BK196.out (by decide))); have n3_ := Aside0.mk (hb); have n4_ := Aside0.mk (ho); clear HO_6; clear BK195; clear BK196; clear HB; clear HO_5; have HO_6 := n0_; have BK195 := n1_; have BK196 := n2_; have HB := n3_; have HO206 := n4_; clear n0_ n1_ n2_ n3_ n4_; clear ho hb hg hat)); try go_wp2_with (first | ((with_reducible refine gate_builtin (b := .append) (xs := #[.tmp 32, .tmp 40]) rfl ?_); at_builtin; refine Kd.R_append (Kd.int .i64) (w0 := w) w.heap.size rfl (.tmp 32) (.tmp 40) 62 3 (.int .i64 0) 8 rfl Try.underlying62 info3 rfl (by decide) (by omega) u5 x5_2 (wrap64 (a1_2 + (wrap64 (x8_2 * a0_1)))) [.int .i64 (wrap64 (a1_2 + (wrap64 (x8_2 * a0_1))))] (fun _ => True) (fun _ => False) rfl rfl ?aP (fun _ hk => hk.elim) ?aF ?aO ?aB ?aS ?aL ?_; (case aP => exact rfl); (case aB => exact z11_0); (case aF => exact (fun _ _ => trivial)); (case aO => exact (kd_g8 HO_5.out)); (case aS => exact (below_size z11_0)); (case aL => have := LMc22.out; omega); intro v205 w26 ho hb hg hat; rw [← Ny204.out] at ho; have n0_ := Aside0.mk (Kd.R_over' (kd_g8 HO_6.out) (Kd.R_typed (kd_g8 HO_5.out)) (by decide) hg); have n1_ := Aside0.mk (blk_grown (g := gb195) (o := .cells #[.int .i64 a0_0, .int .i64 a0_1, .string a0_2] 28 (0, 0)) (bd_g7 BK195.out) hg (Kd.R_ne HO_5.out BK195.out (by decide))); have n2_ := Aside0.mk (blk_grown (g := gb196) (o := .cells #[.int .i64 a1_0, .bool true, .int .i64 a1_2, .int .i64 a1_3] 65 (0, 0)) (bd_g7 BK196.out) hg (Kd.R_ne HO_5.out BK196.out (by decide))); have n3_ := Aside0.mk (hb); have n4_ := Aside0.mk (ho); clear HO_6; clear BK195; clear BK196; clear HB; clear HO_5; have HO_6 := n0_; have BK195 := n1_; have BK196 := n2_; have HB := n3_; have HO206 := n4_; clear n0_ n1_ n2_ n3_ n4_; clear ho hb hg hat)))
            go_roundg k2
            case measure => have := HK1.out; have := HK2.out; omega
            case rel => exact ⟨(y204), (wrap64 (x8_2 + 1)), z_g2, H', ⟨by have := HK1.out; have := HK2.out; omega⟩, ⟨by (with_reducible repeat (first | apply Kd.R_alloc | apply Kd.R_drewN | apply Kd.R_drew)); exact HO206.out⟩, ⟨by (with_reducible repeat (first | apply Kd.R_alloc | apply Kd.R_drewN | apply Kd.R_drew)); exact HO_6.out⟩, ⟨z11_5⟩, ⟨z11_6⟩, ⟨z11_0⟩⟩
           ·rw [if_neg c22] at H
            exact absurd H (by simp)
          ·replace c21 := Bool.eq_false_iff.mpr c21; subst c21; rw [if_neg (show ¬ (false = true) by decide)] at H
           by_cases c27 : x5_2.length < 17592186044416
           ·rw [if_pos c27] at H
            have LMc27 := Aside0.mk c27; clear c27; obtain ⟨y207, hy207⟩ : ∃ y_ : List Int, y_ = (x5_2 ++ [wrap64 (a1_2 + x8_2)]) := ⟨_, rfl⟩; replace H : (spec_CellsOf.l1 k2 y207 t200 x7_1 (wrap64 (x8_2 + 1)) a0_0 a0_1 a0_2 a1_0 false a1_2 a1_3) = some r := by first | (rw [hy207]; with_reducible exact H) | (have H2_ := (Option.bind_some _ _).symm.trans H; rw [hy207]; with_reducible exact H2_) | (have H2_ := (Option.bind_some _ _).symm.trans H; with_reducible exact H2_) | with_reducible exact H | (rw [hy207]; exact H) | exact H
            have Ny207 := Aside0.mk hy207; clear hy207; have H' := Aside0.mk H
            clear H; have hnb28 := NB196_195.out; have hnc28 := NB195_196.out; obtain ⟨hcz29_0, hcz29_1, hcz29_2, hcz29_3, hfz29_0, hfz29_1, hfz29_2, hfz29_3⟩ := bc4_g11 BK196.out; go_wp2_with (first | ((with_reducible refine gate_builtin (b := .append) (xs := #[.tmp 42, .tmp 47]) rfl ?_); at_builtin; refine Kd.R_append (Kd.int .i64) (w0 := w) w.heap.size rfl (.tmp 42) (.tmp 47) 62 3 (.int .i64 0) 8 rfl Try.underlying62 info3 rfl (by decide) (by omega) u5 x5_2 (wrap64 (a1_2 + x8_2)) [.int .i64 (wrap64 (a1_2 + x8_2))] (fun _ => True) (fun _ => False) rfl rfl ?aP (fun _ hk => hk.elim) ?aF ?aO ?aB ?aS ?aL ?_; (case aP => exact rfl); (case aB => exact z11_0); (case aF => exact (fun _ _ => trivial)); (case aO => exact (kd_g8 HO_5.out)); (case aS => exact (below_size z11_0)); (case aL => have := LMc27.out; omega); intro v208 w30 ho hb hg hat; rw [← Ny207.out] at ho; have n0_ := Aside0.mk (Kd.R_over' (kd_g8 HO_6.out) (Kd.R_typed (kd_g8 HO_5.out)) (by decide) hg); have n1_ := Aside0.mk (blk_grown (g := gb195) (o := .cells #[.int .i64 a0_0, .int .i64 a0_1, .string a0_2] 28 (0, 0)) (bd_g7 BK195.out) hg (Kd.R_ne HO_5.out BK195.out (by decide))); have n2_ := Aside0.mk (blk_grown (g := gb196) (o := .cells #[.int .i64 a1_0, .bool false, .int .i64 a1_2, .int .i64 a1_3] 65 (0, 0)) (bd_g7 BK196.out) hg (Kd.R_ne HO_5.out BK196.out (by decide))); have n3_ := Aside0.mk (hb); have n4_ := Aside0.mk (ho); clear HO_6; clear BK195; clear BK196; clear HB; clear HO_5; have HO_6 := n0_; have BK195 := n1_; have BK196 := n2_; have HB := n3_; have HO209 := n4_; clear n0_ n1_ n2_ n3_ n4_; clear ho hb hg hat))
            repeat (go_quiet (first | ((with_reducible refine gate_builtin (b := .append) (xs := #[.tmp 42, .tmp 47]) rfl ?_); at_builtin; refine Kd.R_append (Kd.int .i64) (w0 := w) w.heap.size rfl (.tmp 42) (.tmp 47) 62 3 (.int .i64 0) 8 rfl Try.underlying62 info3 rfl (by decide) (by omega) u5 x5_2 (wrap64 (a1_2 + x8_2)) [.int .i64 (wrap64 (a1_2 + x8_2))] (fun _ => True) (fun _ => False) rfl rfl ?aP (fun _ hk => hk.elim) ?aF ?aO ?aB ?aS ?aL ?_; (case aP => exact rfl); (case aB => exact z11_0); (case aF => exact (fun _ _ => trivial)); (case aO => exact (kd_g8 HO_5.out)); (case aS => exact (below_size z11_0)); (case aL => have := LMc27.out; omega); intro v208 w30 ho hb hg hat; rw [← Ny207.out] at ho; have n0_ := Aside0.mk (Kd.R_over' (kd_g8 HO_6.out) (Kd.R_typed (kd_g8 HO_5.out)) (by decide) hg); have n1_ := Aside0.mk (blk_grown (g := gb195) (o := .cells #[.int .i64 a0_0, .int .i64 a0_1, .string a0_2] 28 (0, 0)) (bd_g7 BK195.out) hg (Kd.R_ne HO_5.out BK195.out (by decide))); have n2_ := Aside0.mk (blk_grown (g := gb196) (o := .cells #[.int .i64 a1_0, .bool false, .int .i64 a1_2, .int .i64 a1_3] 65 (0, 0)) (bd_g7 BK196.out) hg (Kd.R_ne HO_5.out BK196.out (by decide))); have n3_ := Aside0.mk (hb); have n4_ := Aside0.mk (ho); clear HO_6; clear BK195; clear BK196; clear HB; clear HO_5; have HO_6 := n0_; have BK195 := n1_; have BK196 := n2_; have HB := n3_; have HO209 := n4_; clear n0_ n1_ n2_ n3_ n4_; clear ho hb hg hat)); try go_wp2_with (first | ((with_reducible refine gate_builtin (b := .append) (xs := #[.tmp 42, .tmp 47]) rfl ?_); at_builtin; refine Kd.R_append (Kd.int .i64) (w0 := w) w.heap.size rfl (.tmp 42) (.tmp 47) 62 3 (.int .i64 0) 8 rfl Try.underlying62 info3 rfl (by decide) (by omega) u5 x5_2 (wrap64 (a1_2 + x8_2)) [.int .i64 (wrap64 (a1_2 + x8_2))] (fun _ => True) (fun _ => False) rfl rfl ?aP (fun _ hk => hk.elim) ?aF ?aO ?aB ?aS ?aL ?_; (case aP => exact rfl); (case aB => exact z11_0); (case aF => exact (fun _ _ => trivial)); (case aO => exact (kd_g8 HO_5.out)); (case aS => exact (below_size z11_0)); (case aL => have := LMc27.out; omega); intro v208 w30 ho hb hg hat; rw [← Ny207.out] at ho; have n0_ := Aside0.mk (Kd.R_over' (kd_g8 HO_6.out) (Kd.R_typed (kd_g8 HO_5.out)) (by decide) hg); have n1_ := Aside0.mk (blk_grown (g := gb195) (o := .cells #[.int .i64 a0_0, .int .i64 a0_1, .string a0_2] 28 (0, 0)) (bd_g7 BK195.out) hg (Kd.R_ne HO_5.out BK195.out (by decide))); have n2_ := Aside0.mk (blk_grown (g := gb196) (o := .cells #[.int .i64 a1_0, .bool false, .int .i64 a1_2, .int .i64 a1_3] 65 (0, 0)) (bd_g7 BK196.out) hg (Kd.R_ne HO_5.out BK196.out (by decide))); have n3_ := Aside0.mk (hb); have n4_ := Aside0.mk (ho); clear HO_6; clear BK195; clear BK196; clear HB; clear HO_5; have HO_6 := n0_; have BK195 := n1_; have BK196 := n2_; have HB := n3_; have HO209 := n4_; clear n0_ n1_ n2_ n3_ n4_; clear ho hb hg hat)))
            go_roundg k2
            case measure => have := HK1.out; have := HK2.out; omega
            case rel => exact ⟨(y207), (wrap64 (x8_2 + 1)), z_g2, H', ⟨by have := HK1.out; have := HK2.out; omega⟩, ⟨by (with_reducible repeat (first | apply Kd.R_alloc | apply Kd.R_drewN | apply Kd.R_drew)); exact HO209.out⟩, ⟨by (with_reducible repeat (first | apply Kd.R_alloc | apply Kd.R_drewN | apply Kd.R_drew)); exact HO_6.out⟩, ⟨z11_5⟩, ⟨z11_6⟩, ⟨z11_0⟩⟩
           ·rw [if_neg c27] at H
            exact absurd H (by simp)
         ·rw [if_neg c20] at H
          have c20b0 := decide_eq_false c20; clear c20; have H' := Aside0.mk H
          clear H; have hnb31 := NB196_195.out; have hnc31 := NB195_196.out; obtain ⟨hcz32_0, hcz32_1, hcz32_2, hcz32_3, hfz32_0, hfz32_1, hfz32_2, hfz32_3⟩ := bc4_g11 BK196.out; go_wp2
          repeat (go_quiet (fail); try go_wp2)
          go_roundg k2
          case measure => have := HK1.out; have := HK2.out; omega
          case rel => exact ⟨(x5_2), (wrap64 (x7_1 + 1)), z_g2, H', ⟨by have := HK1.out; have := HK2.out; omega⟩, ⟨z11_7⟩, ⟨by (with_reducible repeat (first | apply Kd.R_alloc | apply Kd.R_drewN | apply Kd.R_drew)); exact HO_6.out⟩, ⟨z11_5⟩, ⟨z11_6⟩, ⟨z11_0⟩⟩
     ·rw [if_neg c12] at H
      exact absurd H (by simp)
    ·rw [if_neg c11] at H
     have c11b0 := decide_eq_false c11; clear c11; obtain rfl := Option.some.inj H; obtain ⟨Ao33, co33, eo33⟩ := Kd.R_slice HO_6.out; subst eo33; go_wp2
     repeat (go_quiet (fail); try go_wp2)
     go_ret
     exact ⟨_, by first | rfl | (simp [errW_none, errW_some] <;> rfl) | (simp [*, errW_none, errW_some] <;> rfl), z11_7, z11_0⟩

end Go.Proofs.Ytodcckiphdnjeaa.QFnPruned
