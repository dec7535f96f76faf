-- Written by a changed copy of the kit's printer (wip/mp.py of this repo), for this claim; Lean checks it.
import Derived.Test.YtodcckiphdnjeabQFnPlaysx0
import Derived.Test.YtodcckiphdnjeabQFnPlaysx3
namespace Go.Proofs.Ytodcckiphdnjeab.QFnPlays
open Go.RowKit Go.Proofs.YtodcckiphdnjeabW.PrintWords Go.Proofs.YtodcckiphdnjeabW.PrintLast Go.Proofs.YtodcckiphdnjeabW.PrintMore
attribute [local go_sem] max2_int min2_int max_two min_two max_three min_three max_four min_four   -- for this text's walks alone
set_option linter.unusedVariables false
set_option linter.unusedSimpArgs false

theorem z5_0 {p : Prop} (h : p := by repeat (first | exact Drawn0.refl _ | apply Drawn0.step)) : p := h
theorem z5_1 {p : Prop} (h : p := by first | rfl | (simp; done) | (simp [*]; done)) : p := h
theorem z5_2 {p : Prop} (h : p := by (try simp only [List.map_toArray, List.map_cons, List.map_nil]); first | done | rfl | (simp only [List.length_drop, List.length_take]; rfl)) : p := h
/-! ### spec_Backwards: function 127 -/
def spec_Backwards.l0 : Nat → ByteArray → ByteArray → Int → Option (ByteArray)
  | 0, _, _, _ => none
  | k + 1, x0, x3, x4 => if x4 < (x0.size : Int) then (if (x0.size : Int) ≤ 100 then (if 0 ≤ x4 then (if x4 ≤ (wrap64 (x4 + 1)) then (if (wrap64 (x4 + 1)) ≤ (x0.size : Int) then (if (x0.extract (x4 : Int).toNat ((wrap64 (x4 + 1)) : Int).toNat).size + x3.size ≤ 9223372036854775807 then (spec_Backwards.l0 k x0 ((x0.extract (x4 : Int).toNat ((wrap64 (x4 + 1)) : Int).toNat) ++ x3) (wrap64 (x4 + 1))) else (none)) else (none)) else (none)) else (none)) else (some x3)) else (some x3)
def spec_Backwards.f (k : Nat) (a0 : ByteArray) : Option (ByteArray) := spec_Backwards.l0 k a0 (⟨#[]⟩ : ByteArray) 0
theorem spec_Backwards.mono_l : ∀ k, (∀ y0 y1 y2, LeO (spec_Backwards.l0 k y0 y1 y2) (spec_Backwards.l0 (k + 1) y0 y1 y2))
  | 0 => fun _ _ _ r h => by simp [spec_Backwards.l0] at h
  | k + 1 => by
   have ih0 := spec_Backwards.mono_l k
   ·intro y0 y1 y2
    unfold spec_Backwards.l0
    repeat' first
    | (with_reducible exact ih0 _ _ _)
    | (with_reducible exact LeO.refl _)
    | (with_reducible exact LeO.none _)
    | (with_reducible refine LeO.ite ?_ ?_)
    | (with_reducible refine LeO.bind ?_ (fun _ => ?_))
    | exact ih0 _ _ _
    | exact LeO.none _
    | refine LeO.ite ?_ ?_
    | refine LeO.bind ?_ (fun _ => ?_)
theorem spec_Backwards.mono : ∀ a0 k, LeO (spec_Backwards.f k a0) (spec_Backwards.f (k + 1) a0) := by
  intro a0 k
  have ih0 := spec_Backwards.mono_l k
  unfold spec_Backwards.f
  repeat' first
    | (with_reducible exact ih0 _ _ _)
    | (with_reducible exact LeO.refl _)
    | (with_reducible exact LeO.none _)
    | (with_reducible refine LeO.ite ?_ ?_)
    | (with_reducible refine LeO.bind ?_ (fun _ => ?_))
    | exact ih0 _ _ _
    | exact LeO.none _
    | refine LeO.ite ?_ ?_
    | refine LeO.bind ?_ (fun _ => ?_)
set_option maxHeartbeats 8000000 in
set_option maxRecDepth 100000 in
theorem spec_Backwards.calls (k : Nat) (a0 : ByteArray) (r : ByteArray) (w : World) (h : spec_Backwards.f k a0 = some r) :
   Calls Try.prog 127 #[.string a0] w fun e w' => e = .returned (.string r) ∧ Drawn0 w w' := by
  have H : (spec_Backwards.l0 k a0 (⟨#[]⟩ : ByteArray) 0) = some r := h
  clear h
  have H' := Aside0.mk H
  clear H
  go_enter Try.func127, Try.ntmps127
  go_wp2
  go_loopg [3, 4] k (fun kq v3 v4 w' => ∃ (x3_1 : ByteArray) (x4_1 : Int), v3 = .string x3_1 ∧ v4 = .int .i64 x4_1 ∧ Aside0 (spec_Backwards.l0 kq a0 x3_1 x4_1 = some r) ∧ Aside0 (kq ≤ k) ∧ Drawn0 w w')
  case atStart => exact ⟨((⟨#[]⟩ : ByteArray)), (0), z5_1, z5_1, H', ⟨Nat.le_refl _⟩, z5_0⟩
  case round =>
   clear H'
   try clear c1
   obtain ⟨x3_1, x4_1, rfl, rfl, HA, HK1, ⟨m1, rfl⟩⟩ := hrel
   cases gk with
   | zero => exact absurd HA.out (by simp [spec_Backwards.l0])
   | succ k1 =>
    have H := HA.out
    clear HA
    simp only [spec_Backwards.l0] at H
    by_cases c2 : x4_1 < (a0.size : Int)
    ·rw [if_pos c2] at H
     have c2b0 : decide (x4_1 < (a0.size : Int)) = true := decide_eq_true c2
     clear c2
     by_cases c3 : (a0.size : Int) ≤ 100
     ·rw [if_pos c3] at H
      have c3b0 : decide ((a0.size : Int) ≤ 100) = true := decide_eq_true c3
      have c3b1 : decide (a0.size ≤ 100) = true := decide_eq_true (by omega)
      clear c3
      by_cases c4 : 0 ≤ x4_1
      ·rw [if_pos c4] at H
       have c4b0 := eq_true c4
       have c4b1 : decide (0 ≤ x4_1) = true := decide_eq_true c4
       clear c4
       by_cases c5 : x4_1 ≤ (wrap64 (x4_1 + 1))
       ·rw [if_pos c5] at H
        have c5b0 := eq_true c5
        have c5b1 : decide (x4_1 ≤ (wrap64 (x4_1 + 1))) = true := decide_eq_true c5
        by_cases c6 : (wrap64 (x4_1 + 1)) ≤ (a0.size : Int)
        ·rw [if_pos c6] at H
         have c6b0 := eq_true c6
         have c6b1 : decide ((wrap64 (x4_1 + 1)) ≤ (a0.size : Int)) = true := decide_eq_true c6
         by_cases c7 : (a0.extract (x4_1 : Int).toNat ((wrap64 (x4_1 + 1)) : Int).toNat).size + x3_1.size ≤ 9223372036854775807
         ·rw [if_pos c7] at H
          have c7b0 := eq_true c7
          have c7b1 : decide ((a0.extract (x4_1 : Int).toNat ((wrap64 (x4_1 + 1)) : Int).toNat).size + x3_1.size ≤ 9223372036854775807) = true := decide_eq_true c7
          try have c7b2 : (9223372036854775807 < (a0.extract (x4_1 : Int).toNat ((wrap64 (x4_1 + 1)) : Int).toNat).size + x3_1.size) = False := eq_false (Nat.not_lt.2 c7)
          try have c7b3 : (9223372036854775807 < ((wrap64 (x4_1 + 1)).toNat - x4_1.toNat) + x3_1.size) = False := eq_false (by have q0_ : (wrap64 (x4_1 + 1) : Int) ≤ (a0.size : Int) := of_decide_eq_true (by first | (with_reducible assumption) | assumption); have h_ := c7; simp only [ByteArray.size_append, ByteArray.size_extract] at h_; omega)
          have H' := Aside0.mk H
          clear H
          go_wp2
          go_roundg k1
          case measure => have := HK1.out; omega
          case rel => exact ⟨((a0.extract (x4_1 : Int).toNat ((wrap64 (x4_1 + 1)) : Int).toNat) ++ x3_1), (wrap64 (x4_1 + 1)), z5_1, z5_1, H', ⟨by have := HK1.out; omega⟩, z5_0⟩
         ·rw [if_neg c7] at H
          exact absurd H (by simp)
        ·rw [if_neg c6] at H
         exact absurd H (by simp)
       ·rw [if_neg c5] at H
        exact absurd H (by simp)
      ·rw [if_neg c4] at H
       exact absurd H (by simp)
     ·rw [if_neg c3] at H
      have c3b0 : decide ((a0.size : Int) ≤ 100) = false := decide_eq_false c3
      have c3b1 : decide (a0.size ≤ 100) = false := decide_eq_false (by omega)
      clear c3
      obtain rfl := Option.some.inj H
      go_wp2
      go_ret
      exact ⟨z5_1, z5_0⟩
    ·rw [if_neg c2] at H
     have c2b0 : decide (x4_1 < (a0.size : Int)) = false := decide_eq_false c2
     clear c2
     obtain rfl := Option.some.inj H
     go_wp2
     go_ret
     exact ⟨z5_1, z5_0⟩

/-! ### spec_SortLetters: function 147 -/
mutual
def spec_SortLetters.l0 : Nat → ByteArray → ByteArray → Int → Option (ByteArray)
  | 0, _, _, _ => none
  | k + 1, x0, x3, x4 => if x4 ≤ 122 then ((spec_IsWord.f k x0).bind fun t231 => (spec_SortLetters.j1 k x0 x3 x4 t231)) else (spec_SortLetters.j1 k x0 x3 x4 false)
def spec_SortLetters.j1 : Nat → ByteArray → ByteArray → Int → Bool → Option (ByteArray)
  | 0, _, _, _, _ => none
  | k + 1, x0, x3, x4, x11 => if x11 = true then (spec_SortLetters.l1 k x0 x3 x4 0) else (some x3)
def spec_SortLetters.l1 : Nat → ByteArray → ByteArray → Int → Int → Option (ByteArray)
  | 0, _, _, _, _ => none
  | k + 1, x0, x3, x4, x5 => if x5 < (x0.size : Int) then (if 0 ≤ x5 then (if (wrap32 (bt x0 x5)) = x4 then (if x5 ≤ (wrap64 (x5 + 1)) then (if (wrap64 (x5 + 1)) ≤ (x0.size : Int) then (if x3.size + (x0.extract (x5 : Int).toNat ((wrap64 (x5 + 1)) : Int).toNat).size ≤ 9223372036854775807 then (spec_SortLetters.l1 k x0 (x3 ++ (x0.extract (x5 : Int).toNat ((wrap64 (x5 + 1)) : Int).toNat)) x4 (wrap64 (x5 + 1))) else (none)) else (none)) else (none)) else (spec_SortLetters.l1 k x0 x3 x4 (wrap64 (x5 + 1)))) else (none)) else (spec_SortLetters.l0 k x0 x3 (wrap32 (x4 + 1)))
end
def spec_SortLetters.f (k : Nat) (a0 : ByteArray) : Option (ByteArray) := spec_SortLetters.l0 k a0 (⟨#[]⟩ : ByteArray) 97
theorem spec_SortLetters.mono_l : ∀ k, (∀ y0 y1 y2, LeO (spec_SortLetters.l0 k y0 y1 y2) (spec_SortLetters.l0 (k + 1) y0 y1 y2)) ∧ (∀ y0 y1 y2 y3, LeO (spec_SortLetters.j1 k y0 y1 y2 y3) (spec_SortLetters.j1 (k + 1) y0 y1 y2 y3)) ∧ (∀ y0 y1 y2 y3, LeO (spec_SortLetters.l1 k y0 y1 y2 y3) (spec_SortLetters.l1 (k + 1) y0 y1 y2 y3))
  | 0 => ⟨fun _ _ _ r h => by simp [spec_SortLetters.l0] at h, fun _ _ _ _ r h => by simp [spec_SortLetters.j1] at h, fun _ _ _ _ r h => by simp [spec_SortLetters.l1] at h⟩
  | k + 1 => by
   obtain ⟨ih0, ih1, ih2⟩ := spec_SortLetters.mono_l k
   refine ⟨?_, ?_, ?_⟩
   ·intro y0 y1 y2
    unfold spec_SortLetters.l0
    repeat' first
    | (with_reducible exact ih0 _ _ _)
    | (with_reducible exact ih1 _ _ _ _)
    | (with_reducible exact ih2 _ _ _ _)
    | (with_reducible exact spec_IsWord.mono _ _)
    | (with_reducible exact LeO.refl _)
    | (with_reducible exact LeO.none _)
    | (with_reducible refine LeO.ite ?_ ?_)
    | (with_reducible refine LeO.bind ?_ (fun _ => ?_))
    | exact ih0 _ _ _
    | exact ih1 _ _ _ _
    | exact ih2 _ _ _ _
    | exact spec_IsWord.mono _ _
    | exact LeO.none _
    | refine LeO.ite ?_ ?_
    | refine LeO.bind ?_ (fun _ => ?_)
   ·intro y0 y1 y2 y3
    unfold spec_SortLetters.j1
    repeat' first
    | (with_reducible exact ih0 _ _ _)
    | (with_reducible exact ih1 _ _ _ _)
    | (with_reducible exact ih2 _ _ _ _)
    | (with_reducible exact spec_IsWord.mono _ _)
    | (with_reducible exact LeO.refl _)
    | (with_reducible exact LeO.none _)
    | (with_reducible refine LeO.ite ?_ ?_)
    | (with_reducible refine LeO.bind ?_ (fun _ => ?_))
    | exact ih0 _ _ _
    | exact ih1 _ _ _ _
    | exact ih2 _ _ _ _
    | exact spec_IsWord.mono _ _
    | exact LeO.none _
    | refine LeO.ite ?_ ?_
    | refine LeO.bind ?_ (fun _ => ?_)
   ·intro y0 y1 y2 y3
    unfold spec_SortLetters.l1
    repeat' first
    | (with_reducible exact ih0 _ _ _)
    | (with_reducible exact ih1 _ _ _ _)
    | (with_reducible exact ih2 _ _ _ _)
    | (with_reducible exact spec_IsWord.mono _ _)
    | (with_reducible exact LeO.refl _)
    | (with_reducible exact LeO.none _)
    | (with_reducible refine LeO.ite ?_ ?_)
    | (with_reducible refine LeO.bind ?_ (fun _ => ?_))
    | exact ih0 _ _ _
    | exact ih1 _ _ _ _
    | exact ih2 _ _ _ _
    | exact spec_IsWord.mono _ _
    | exact LeO.none _
    | refine LeO.ite ?_ ?_
    | refine LeO.bind ?_ (fun _ => ?_)
theorem spec_SortLetters.mono : ∀ a0 k, LeO (spec_SortLetters.f k a0) (spec_SortLetters.f (k + 1) a0) := by
  intro a0 k
  obtain ⟨ih0, ih1, ih2⟩ := spec_SortLetters.mono_l k
  unfold spec_SortLetters.f
  repeat' first
    | (with_reducible exact ih0 _ _ _)
    | (with_reducible exact ih1 _ _ _ _)
    | (with_reducible exact ih2 _ _ _ _)
    | (with_reducible exact spec_IsWord.mono _ _)
    | (with_reducible exact LeO.refl _)
    | (with_reducible exact LeO.none _)
    | (with_reducible refine LeO.ite ?_ ?_)
    | (with_reducible refine LeO.bind ?_ (fun _ => ?_))
    | exact ih0 _ _ _
    | exact ih1 _ _ _ _
    | exact ih2 _ _ _ _
    | exact spec_IsWord.mono _ _
    | exact LeO.none _
    | refine LeO.ite ?_ ?_
    | refine LeO.bind ?_ (fun _ => ?_)
set_option maxHeartbeats 8000000 in
set_option maxRecDepth 100000 in
theorem spec_SortLetters.calls (k : Nat) (a0 : ByteArray) (r : ByteArray) (w : World) (h : spec_SortLetters.f k a0 = some r) :
   Calls Try.prog 147 #[.string a0] w fun e w' => e = .returned (.string r) ∧ Drawn0 w w' := by
  have H : (spec_SortLetters.l0 k a0 (⟨#[]⟩ : ByteArray) 97) = some r := h
  clear h
  have H' := Aside0.mk H
  clear H
  go_enter Try.func147, Try.ntmps147
  go_wp2
  go_loopg [3, 4] k (fun kq v3 v4 w' => ∃ (x3_1 : ByteArray) (x4_1 : Int), v3 = .string x3_1 ∧ v4 = .int .i32 x4_1 ∧ Aside0 (spec_SortLetters.l0 kq a0 x3_1 x4_1 = some r) ∧ Aside0 (kq ≤ k) ∧ Drawn0 w w')
  case atStart => exact ⟨((⟨#[]⟩ : ByteArray)), (97), z5_1, z5_1, H', ⟨Nat.le_refl _⟩, z5_0⟩
  case round =>
   clear H'
   try clear c1
   obtain ⟨x3_1, x4_1, rfl, rfl, HA, HK1, ⟨m1, rfl⟩⟩ := hrel
   cases gk with
   | zero => exact absurd HA.out (by simp [spec_SortLetters.l0])
   | succ k1 =>
    have H := HA.out
    clear HA
    simp only [spec_SortLetters.l0] at H
    have HC2 := Aside0.mk H
    clear H
    go_upto_region 3 with (fail)
    go_cut [11] (fun v11 wc => ∃ (kq : Nat) (x11_1 : Bool), v11 = .bool x11_1 ∧ Aside0 (spec_SortLetters.j1 kq a0 x3_1 x4_1 x11_1 = some r) ∧ Aside0 (kq ≤ k1) ∧ Drawn0 w wc)
    case first =>
     have H := HC2.out
     clear HC2
     by_cases c3 : x4_1 ≤ 122
     ·rw [if_pos c3] at H
      have c3b0 : decide (x4_1 ≤ 122) = true := decide_eq_true c3
      clear c3
      (first | rw [c3b0] | (simp only [i64_w, i32_w]; rw [c3b0]) | skip)
      replace H := Option.bind_eq_some_iff.mp H
      obtain ⟨t231, A40, H⟩ := H
      replace H : (spec_SortLetters.j1 k1 a0 x3_1 x4_1 t231) = some r := H
      have A4 := Aside0.mk A40
      clear A40
      have H' := Aside0.mk H
      clear H
      go_wp2_with (first | (go_at_call 24; (with_reducible refine (spec_IsWord.calls k1 a0 t231 _ A4.out).mono ?_); rintro e w' ⟨rfl, ⟨nd, rfl⟩⟩))
      go_meet
      case rel => exact ⟨_, (t231), z5_1, H', ⟨by have := HK1.out; first | omega | exact Nat.le_refl _⟩, z5_0⟩
     ·rw [if_neg c3] at H
      have c3b0 : decide (x4_1 ≤ 122) = false := decide_eq_false c3
      clear c3
      (first | rw [c3b0] | (simp only [i64_w, i32_w]; rw [c3b0]) | skip)
      have H' := Aside0.mk H
      clear H
      go_wp2
      go_meet
      case rel => exact ⟨_, (false), z5_1, H', ⟨by have := HK1.out; first | omega | exact Nat.le_refl _⟩, z5_0⟩
    case rest =>
     clear HC2
     try clear c1
     try clear p2
     try clear c3
     try clear c3b0
     obtain ⟨kq, x11_1, rfl, HA, HJ1, ⟨mc1, rfl⟩⟩ := hcut
     cases kq with
     | zero => exact absurd HA.out (by simp [spec_SortLetters.j1])
     | succ kj1 =>
      have H := HA.out
      clear HA
      simp only [spec_SortLetters.j1] at H
      by_cases c5 : x11_1 = true
      ·subst c5
       have H1 : (spec_SortLetters.l1 kj1 a0 x3_1 x4_1 0) = some r := by rw [if_pos rfl] at H; exact H
       clear H
       have H := H1
       clear H1
       have H' := Aside0.mk H
       clear H
       go_wp2
       go_loopg [3, 5] kj1 (fun kq v3 v5 w' => ∃ (x3_3 : ByteArray) (x5_3 : Int), v3 = .string x3_3 ∧ v5 = .int .i64 x5_3 ∧ Aside0 (spec_SortLetters.l1 kq a0 x3_3 x4_1 x5_3 = some r) ∧ Aside0 (kq ≤ kj1) ∧ Drawn0 w w')
       case atStart => exact ⟨(x3_1), (0), z5_1, z5_1, H', ⟨Nat.le_refl _⟩, z5_0⟩
       case round =>
        clear H'
        try clear c1
        try clear p2
        try clear c3
        try clear c3b0
        try clear c5
        try clear p2
        obtain ⟨x3_3, x5_3, rfl, rfl, HA, HK3, ⟨m3, rfl⟩⟩ := hrel
        cases gk with
        | zero => exact absurd HA.out (by simp [spec_SortLetters.l1])
        | succ k3 =>
         have H := HA.out
         clear HA
         simp only [spec_SortLetters.l1] at H
         by_cases c6 : x5_3 < (a0.size : Int)
         ·rw [if_pos c6] at H
          have c6b0 : decide (x5_3 < (a0.size : Int)) = true := decide_eq_true c6
          clear c6
          by_cases c7 : 0 ≤ x5_3
          ·rw [if_pos c7] at H
           have c7b0 : decide (0 ≤ x5_3) = true := decide_eq_true c7
           clear c7
           by_cases c9 : (wrap32 (bt a0 x5_3)) = x4_1
           ·rw [if_pos c9] at H
            have c9b0 : ((wrap32 (bt a0 x5_3)) == x4_1) = true := beq_iff_eq.mpr c9
            have c9b1 : ((wrap32 (bt a0 x5_3)) != x4_1) = false := bne_eq_false_iff_eq.mpr c9
            clear c9
            have c10b0 := eq_true (of_decide_eq_true (by first | (with_reducible assumption) | assumption) : 0 ≤ x5_3)
            by_cases c11 : x5_3 ≤ (wrap64 (x5_3 + 1))
            ·rw [if_pos c11] at H
             have c11b0 := eq_true c11
             have c11b1 : decide (x5_3 ≤ (wrap64 (x5_3 + 1))) = true := decide_eq_true c11
             by_cases c12 : (wrap64 (x5_3 + 1)) ≤ (a0.size : Int)
             ·rw [if_pos c12] at H
              have c12b0 := eq_true c12
              have c12b1 : decide ((wrap64 (x5_3 + 1)) ≤ (a0.size : Int)) = true := decide_eq_true c12
              by_cases c13 : x3_3.size + (a0.extract (x5_3 : Int).toNat ((wrap64 (x5_3 + 1)) : Int).toNat).size ≤ 9223372036854775807
              ·rw [if_pos c13] at H
               have c13b0 := eq_true c13
               have c13b1 : decide (x3_3.size + (a0.extract (x5_3 : Int).toNat ((wrap64 (x5_3 + 1)) : Int).toNat).size ≤ 9223372036854775807) = true := decide_eq_true c13
               try have c13b2 : (9223372036854775807 < x3_3.size + (a0.extract (x5_3 : Int).toNat ((wrap64 (x5_3 + 1)) : Int).toNat).size) = False := eq_false (Nat.not_lt.2 c13)
               try have c13b3 : (9223372036854775807 < x3_3.size + ((wrap64 (x5_3 + 1)).toNat - x5_3.toNat)) = False := eq_false (by have q0_ : (wrap64 (x5_3 + 1) : Int) ≤ (a0.size : Int) := of_decide_eq_true (by first | (with_reducible assumption) | assumption); have h_ := c13; simp only [ByteArray.size_append, ByteArray.size_extract] at h_; omega)
               have H' := Aside0.mk H
               clear H
               have p8 : 0 ≤ (x5_3 : Int) := of_decide_eq_true (by first | (with_reducible assumption) | assumption)
               have q8 : x5_3 < (a0.size : Int) := of_decide_eq_true (by first | (with_reducible assumption) | assumption)
               have hx8 := bt_at a0 x5_3
               replace p8 := eq_true p8
               replace q8 := eq_true q8
               go_wp2
               go_roundg k3
               case measure => have := HK1.out; have := HJ1.out; have := HK3.out; omega
               case rel => exact ⟨(x3_3 ++ (a0.extract (x5_3 : Int).toNat ((wrap64 (x5_3 + 1)) : Int).toNat)), (wrap64 (x5_3 + 1)), z5_1, z5_1, H', ⟨by have := HK1.out; have := HJ1.out; have := HK3.out; omega⟩, z5_0⟩
              ·rw [if_neg c13] at H
               exact absurd H (by simp)
             ·rw [if_neg c12] at H
              exact absurd H (by simp)
            ·rw [if_neg c11] at H
             exact absurd H (by simp)
           ·rw [if_neg c9] at H
            have c9b0 : ((wrap32 (bt a0 x5_3)) == x4_1) = false := beq_eq_false_iff_ne.mpr c9
            have c9b1 : ((wrap32 (bt a0 x5_3)) != x4_1) = true := bne_iff_ne.mpr c9
            have H' := Aside0.mk H
            clear H
            have p8 : 0 ≤ (x5_3 : Int) := of_decide_eq_true (by first | (with_reducible assumption) | assumption)
            have q8 : x5_3 < (a0.size : Int) := of_decide_eq_true (by first | (with_reducible assumption) | assumption)
            have hx8 := bt_at a0 x5_3
            replace p8 := eq_true p8
            replace q8 := eq_true q8
            go_wp2
            go_roundg k3
            case measure => have := HK1.out; have := HJ1.out; have := HK3.out; omega
            case rel => exact ⟨(x3_3), (wrap64 (x5_3 + 1)), z5_1, z5_1, H', ⟨by have := HK1.out; have := HJ1.out; have := HK3.out; omega⟩, z5_0⟩
          ·rw [if_neg c7] at H
           exact absurd H (by simp)
         ·rw [if_neg c6] at H
          have c6b0 : decide (x5_3 < (a0.size : Int)) = false := decide_eq_false c6
          clear c6
          have H' := Aside0.mk H
          clear H
          go_wp2
          go_roundg k3
          case measure => have := HK1.out; have := HJ1.out; have := HK3.out; omega
          case rel => exact ⟨(x3_3), (wrap32 (x4_1 + 1)), z5_1, z5_1, H', ⟨by have := HK1.out; have := HJ1.out; have := HK3.out; omega⟩, z5_0⟩
      ·replace c5 := Bool.eq_false_iff.mpr c5
       subst c5
       have H1 : (some x3_1) = some r := by rw [if_neg (show ¬ (false = true) by decide)] at H; exact H
       clear H
       have H := H1
       clear H1
       obtain rfl := Option.some.inj H
       go_wp2
       go_ret
       exact ⟨z5_1, z5_0⟩

/-! ### spec_IsRearranged: function 128 -/
def spec_IsRearranged.f (k : Nat) (a0 : ByteArray) (a1 : ByteArray) : Option (Bool) := (spec_IsWord.f k a0).bind fun t232 => (if t232 = true then ((spec_IsWord.f k a1).bind fun t233 => (if t233 = true then (if a0.toList = a1.toList then (some false) else ((spec_SortLetters.f k a0).bind fun t234 => ((spec_SortLetters.f k a1).bind fun t235 => (some (t234.toList == t235.toList))))) else (some false))) else (some false))
theorem spec_IsRearranged.mono : ∀ a0 a1 k, LeO (spec_IsRearranged.f k a0 a1) (spec_IsRearranged.f (k + 1) a0 a1) := by
  intro a0 a1 k
  unfold spec_IsRearranged.f
  repeat' first
    | (with_reducible exact spec_IsWord.mono _ _)
    | (with_reducible exact spec_SortLetters.mono _ _)
    | (with_reducible exact LeO.refl _)
    | (with_reducible exact LeO.none _)
    | (with_reducible refine LeO.ite ?_ ?_)
    | (with_reducible refine LeO.bind ?_ (fun _ => ?_))
    | exact spec_IsWord.mono _ _
    | exact spec_SortLetters.mono _ _
    | exact LeO.none _
    | refine LeO.ite ?_ ?_
    | refine LeO.bind ?_ (fun _ => ?_)
set_option maxHeartbeats 8000000 in
set_option maxRecDepth 100000 in
theorem spec_IsRearranged.calls (k : Nat) (a0 : ByteArray) (a1 : ByteArray) (r : Bool) (w : World) (h : spec_IsRearranged.f k a0 a1 = some r) :
   Calls Try.prog 128 #[.string a0, .string a1] w fun e w' => e = .returned (.bool r) ∧ Drawn0 w w' := by
  have H : ((spec_IsWord.f k a0).bind fun t232 => (if t232 = true then ((spec_IsWord.f k a1).bind fun t233 => (if t233 = true then (if a0.toList = a1.toList then (some false) else ((spec_SortLetters.f k a0).bind fun t234 => ((spec_SortLetters.f k a1).bind fun t235 => (some (t234.toList == t235.toList))))) else (some false))) else (some false))) = some r := h
  clear h
  replace H := Option.bind_eq_some_iff.mp H
  obtain ⟨t232, A30, H⟩ := H
  replace H : (if t232 = true then ((spec_IsWord.f k a1).bind fun t233 => (if t233 = true then (if a0.toList = a1.toList then (some false) else ((spec_SortLetters.f k a0).bind fun t234 => ((spec_SortLetters.f k a1).bind fun t235 => (some (t234.toList == t235.toList))))) else (some false))) else (some false)) = some r := H
  have A3 := Aside0.mk A30
  clear A30
  by_cases c4 : t232 = true
  ·subst c4
   have H1 : ((spec_IsWord.f k a1).bind fun t233 => (if t233 = true then (if a0.toList = a1.toList then (some false) else ((spec_SortLetters.f k a0).bind fun t234 => ((spec_SortLetters.f k a1).bind fun t235 => (some (t234.toList == t235.toList))))) else (some false))) = some r := by rw [if_pos rfl] at H; exact H
   clear H
   have H := H1
   clear H1
   replace H := Option.bind_eq_some_iff.mp H
   obtain ⟨t233, A50, H⟩ := H
   replace H : (if t233 = true then (if a0.toList = a1.toList then (some false) else ((spec_SortLetters.f k a0).bind fun t234 => ((spec_SortLetters.f k a1).bind fun t235 => (some (t234.toList == t235.toList))))) else (some false)) = some r := H
   have A5 := Aside0.mk A50
   clear A50
   by_cases c6 : t233 = true
   ·subst c6
    have H1 : (if a0.toList = a1.toList then (some false) else ((spec_SortLetters.f k a0).bind fun t234 => ((spec_SortLetters.f k a1).bind fun t235 => (some (t234.toList == t235.toList))))) = some r := by rw [if_pos rfl] at H; exact H
    clear H
    have H := H1
    clear H1
    by_cases c7 : a0.toList = a1.toList
    ·rw [if_pos c7] at H
     have c7b0 : (a0.toList == a1.toList) = true := beq_iff_eq.mpr c7
     have c7b1 : (a0.toList != a1.toList) = false := bne_eq_false_iff_eq.mpr c7
     clear c7
     obtain rfl := Option.some.inj H
     go_enter Try.func128, Try.ntmps128
     go_wp2_with (first | ((with_reducible refine gate_callee (f := 24) rfl ?_); refine goesL_ (some 6) rfl rfl Try.func24 (by kernel_rfl) rfl #[.string a0] rfl z5_2 ?_; (with_reducible refine (spec_IsWord.calls k a0 true _ A3.out).mono ?_); rintro e w' ⟨rfl, ⟨nd, rfl⟩⟩; refine ⟨_, rfl, ?_⟩) | (go_at_call 24; (with_reducible refine (spec_IsWord.calls k a1 true _ A5.out).mono ?_); rintro e w' ⟨rfl, ⟨nd, rfl⟩⟩))
     go_ret
     exact ⟨z5_1, z5_0⟩
    ·rw [if_neg c7] at H
     have c7b0 : (a0.toList == a1.toList) = false := beq_eq_false_iff_ne.mpr c7
     have c7b1 : (a0.toList != a1.toList) = true := bne_iff_ne.mpr c7
     replace H := Option.bind_eq_some_iff.mp H
     obtain ⟨t234, A80, H⟩ := H
     replace H : ((spec_SortLetters.f k a1).bind fun t235 => (some (t234.toList == t235.toList))) = some r := H
     have A8 := Aside0.mk A80
     clear A80
     replace H := Option.bind_eq_some_iff.mp H
     obtain ⟨t235, A90, H⟩ := H
     replace H : (some (t234.toList == t235.toList)) = some r := H
     have A9 := Aside0.mk A90
     clear A90
     obtain rfl := Option.some.inj H
     go_enter Try.func128, Try.ntmps128
     go_wp2_with (first | ((with_reducible refine gate_callee (f := 24) rfl ?_); refine goesL_ (some 6) rfl rfl Try.func24 (by kernel_rfl) rfl #[.string a0] rfl z5_2 ?_; (with_reducible refine (spec_IsWord.calls k a0 true _ A3.out).mono ?_); rintro e w' ⟨rfl, ⟨nd, rfl⟩⟩; refine ⟨_, rfl, ?_⟩) | (go_at_call 24; (with_reducible refine (spec_IsWord.calls k a1 true _ A5.out).mono ?_); rintro e w' ⟨rfl, ⟨nd, rfl⟩⟩) | (go_at_call 147; (with_reducible refine (spec_SortLetters.calls k a0 t234 _ A8.out).mono ?_); rintro e w' ⟨rfl, ⟨nd, rfl⟩⟩) | (go_at_call 147; (with_reducible refine (spec_SortLetters.calls k a1 t235 _ A9.out).mono ?_); rintro e w' ⟨rfl, ⟨nd, rfl⟩⟩))
     go_ret
     exact ⟨z5_1, z5_0⟩
   ·replace c6 := Bool.eq_false_iff.mpr c6
    subst c6
    have H1 : (some false) = some r := by rw [if_neg (show ¬ (false = true) by decide)] at H; exact H
    clear H
    have H := H1
    clear H1
    obtain rfl := Option.some.inj H
    go_enter Try.func128, Try.ntmps128
    go_wp2_with (first | ((with_reducible refine gate_callee (f := 24) rfl ?_); refine goesL_ (some 6) rfl rfl Try.func24 (by kernel_rfl) rfl #[.string a0] rfl z5_2 ?_; (with_reducible refine (spec_IsWord.calls k a0 true _ A3.out).mono ?_); rintro e w' ⟨rfl, ⟨nd, rfl⟩⟩; refine ⟨_, rfl, ?_⟩) | (go_at_call 24; (with_reducible refine (spec_IsWord.calls k a1 false _ A5.out).mono ?_); rintro e w' ⟨rfl, ⟨nd, rfl⟩⟩))
    go_ret
    exact ⟨z5_1, z5_0⟩
  ·replace c4 := Bool.eq_false_iff.mpr c4
   subst c4
   have H1 : (some false) = some r := by rw [if_neg (show ¬ (false = true) by decide)] at H; exact H
   clear H
   have H := H1
   clear H1
   obtain rfl := Option.some.inj H
   go_enter Try.func128, Try.ntmps128
   go_wp2_with (first | ((with_reducible refine gate_callee (f := 24) rfl ?_); refine goesL_ (some 6) rfl rfl Try.func24 (by kernel_rfl) rfl #[.string a0] rfl z5_2 ?_; (with_reducible refine (spec_IsWord.calls k a0 false _ A3.out).mono ?_); rintro e w' ⟨rfl, ⟨nd, rfl⟩⟩; refine ⟨_, rfl, ?_⟩))
   go_ret
   exact ⟨z5_1, z5_0⟩

/-! ### spec_HeadOf: function 131 -/
def spec_HeadOf.f (k : Nat) (a0 : ByteArray) : Option (ByteArray) := (spec_IsWord.f k a0).bind fun t236 => (if t236 = true then (if 0 ≤ 1 then (if 1 ≤ (a0.size : Int) then (some (a0.extract 0 1)) else (none)) else (none)) else (some (⟨#[]⟩ : ByteArray)))
theorem spec_HeadOf.mono : ∀ a0 k, LeO (spec_HeadOf.f k a0) (spec_HeadOf.f (k + 1) a0) := by
  intro a0 k
  unfold spec_HeadOf.f
  repeat' first
    | (with_reducible exact spec_IsWord.mono _ _)
    | (with_reducible exact LeO.refl _)
    | (with_reducible exact LeO.none _)
    | (with_reducible refine LeO.ite ?_ ?_)
    | (with_reducible refine LeO.bind ?_ (fun _ => ?_))
    | exact spec_IsWord.mono _ _
    | exact LeO.none _
    | refine LeO.ite ?_ ?_
    | refine LeO.bind ?_ (fun _ => ?_)
set_option maxHeartbeats 8000000 in
set_option maxRecDepth 100000 in
theorem spec_HeadOf.calls (k : Nat) (a0 : ByteArray) (r : ByteArray) (w : World) (h : spec_HeadOf.f k a0 = some r) :
   Calls Try.prog 131 #[.string a0] w fun e w' => e = .returned (.string r) ∧ Drawn0 w w' := by
  have H : ((spec_IsWord.f k a0).bind fun t236 => (if t236 = true then (if 0 ≤ 1 then (if 1 ≤ (a0.size : Int) then (some (a0.extract 0 1)) else (none)) else (none)) else (some (⟨#[]⟩ : ByteArray)))) = some r := h
  clear h
  replace H := Option.bind_eq_some_iff.mp H
  obtain ⟨t236, A20, H⟩ := H
  replace H : (if t236 = true then (if 0 ≤ 1 then (if 1 ≤ (a0.size : Int) then (some (a0.extract 0 1)) else (none)) else (none)) else (some (⟨#[]⟩ : ByteArray))) = some r := H
  have A2 := Aside0.mk A20
  clear A20
  by_cases c3 : t236 = true
  ·subst c3
   have H1 : (if 0 ≤ 1 then (if 1 ≤ (a0.size : Int) then (some (a0.extract 0 1)) else (none)) else (none)) = some r := by rw [if_pos rfl] at H; exact H
   clear H
   have H := H1
   clear H1
   by_cases c4 : 0 ≤ 1
   ·rw [if_pos c4] at H
    have c4b0 := eq_true c4
    have c4b1 : decide (0 ≤ 1) = true := decide_eq_true c4
    clear c4
    by_cases c5 : 1 ≤ (a0.size : Int)
    ·rw [if_pos c5] at H
     have c5b0 := eq_true c5
     have c5b1 : decide (1 ≤ (a0.size : Int)) = true := decide_eq_true c5
     clear c5
     obtain rfl := Option.some.inj H
     go_enter Try.func131, Try.ntmps131
     go_wp2_with (first | ((with_reducible refine gate_callee (f := 24) rfl ?_); refine goesL_ (some 4) rfl rfl Try.func24 (by kernel_rfl) rfl #[.string a0] rfl z5_2 ?_; (with_reducible refine (spec_IsWord.calls k a0 true _ A2.out).mono ?_); rintro e w' ⟨rfl, ⟨nd, rfl⟩⟩; refine ⟨_, rfl, ?_⟩))
     go_ret
     exact ⟨z5_1, z5_0⟩
    ·rw [if_neg c5] at H
     exact absurd H (by simp)
   ·rw [if_neg c4] at H
    exact absurd H (by simp)
  ·replace c3 := Bool.eq_false_iff.mpr c3
   subst c3
   have H1 : (some (⟨#[]⟩ : ByteArray)) = some r := by rw [if_neg (show ¬ (false = true) by decide)] at H; exact H
   clear H
   have H := H1
   clear H1
   obtain rfl := Option.some.inj H
   go_enter Try.func131, Try.ntmps131
   go_wp2_with (first | ((with_reducible refine gate_callee (f := 24) rfl ?_); refine goesL_ (some 4) rfl rfl Try.func24 (by kernel_rfl) rfl #[.string a0] rfl z5_2 ?_; (with_reducible refine (spec_IsWord.calls k a0 false _ A2.out).mono ?_); rintro e w' ⟨rfl, ⟨nd, rfl⟩⟩; refine ⟨_, rfl, ?_⟩))
   go_ret
   exact ⟨z5_1, z5_0⟩

/-! ### spec_WithoutHead: function 132 -/
def spec_WithoutHead.f (k : Nat) (a0 : ByteArray) : Option (ByteArray) := (spec_IsWord.f k a0).bind fun t237 => (if t237 = true then (if 1 ≤ (a0.size : Int) then (some (a0.extract 1 a0.size)) else (none)) else (some (⟨#[]⟩ : ByteArray)))
theorem spec_WithoutHead.mono : ∀ a0 k, LeO (spec_WithoutHead.f k a0) (spec_WithoutHead.f (k + 1) a0) := by
  intro a0 k
  unfold spec_WithoutHead.f
  repeat' first
    | (with_reducible exact spec_IsWord.mono _ _)
    | (with_reducible exact LeO.refl _)
    | (with_reducible exact LeO.none _)
    | (with_reducible refine LeO.ite ?_ ?_)
    | (with_reducible refine LeO.bind ?_ (fun _ => ?_))
    | exact spec_IsWord.mono _ _
    | exact LeO.none _
    | refine LeO.ite ?_ ?_
    | refine LeO.bind ?_ (fun _ => ?_)
set_option maxHeartbeats 8000000 in
set_option maxRecDepth 100000 in
theorem spec_WithoutHead.calls (k : Nat) (a0 : ByteArray) (r : ByteArray) (w : World) (h : spec_WithoutHead.f k a0 = some r) :
   Calls Try.prog 132 #[.string a0] w fun e w' => e = .returned (.string r) ∧ Drawn0 w w' := by
  have H : ((spec_IsWord.f k a0).bind fun t237 => (if t237 = true then (if 1 ≤ (a0.size : Int) then (some (a0.extract 1 a0.size)) else (none)) else (some (⟨#[]⟩ : ByteArray)))) = some r := h
  clear h
  replace H := Option.bind_eq_some_iff.mp H
  obtain ⟨t237, A20, H⟩ := H
  replace H : (if t237 = true then (if 1 ≤ (a0.size : Int) then (some (a0.extract 1 a0.size)) else (none)) else (some (⟨#[]⟩ : ByteArray))) = some r := H
  have A2 := Aside0.mk A20
  clear A20
  by_cases c3 : t237 = true
  ·subst c3
   have H1 : (if 1 ≤ (a0.size : Int) then (some (a0.extract 1 a0.size)) else (none)) = some r := by rw [if_pos rfl] at H; exact H
   clear H
   have H := H1
   clear H1
   by_cases c4 : 1 ≤ (a0.size : Int)
   ·rw [if_pos c4] at H
    have c4b0 := eq_true c4
    have c4b1 : decide (1 ≤ (a0.size : Int)) = true := decide_eq_true c4
    clear c4
    obtain rfl := Option.some.inj H
    go_enter Try.func132, Try.ntmps132
    go_wp2_with (first | ((with_reducible refine gate_callee (f := 24) rfl ?_); refine goesL_ (some 4) rfl rfl Try.func24 (by kernel_rfl) rfl #[.string a0] rfl z5_2 ?_; (with_reducible refine (spec_IsWord.calls k a0 true _ A2.out).mono ?_); rintro e w' ⟨rfl, ⟨nd, rfl⟩⟩; refine ⟨_, rfl, ?_⟩))
    go_ret
    exact ⟨z5_1, z5_0⟩
   ·rw [if_neg c4] at H
    exact absurd H (by simp)
  ·replace c3 := Bool.eq_false_iff.mpr c3
   subst c3
   have H1 : (some (⟨#[]⟩ : ByteArray)) = some r := by rw [if_neg (show ¬ (false = true) by decide)] at H; exact H
   clear H
   have H := H1
   clear H1
   obtain rfl := Option.some.inj H
   go_enter Try.func132, Try.ntmps132
   go_wp2_with (first | ((with_reducible refine gate_callee (f := 24) rfl ?_); refine goesL_ (some 4) rfl rfl Try.func24 (by kernel_rfl) rfl #[.string a0] rfl z5_2 ?_; (with_reducible refine (spec_IsWord.calls k a0 false _ A2.out).mono ?_); rintro e w' ⟨rfl, ⟨nd, rfl⟩⟩; refine ⟨_, rfl, ?_⟩))
   go_ret
   exact ⟨z5_1, z5_0⟩

/-! ### spec_WithoutTail: function 133 -/
def spec_WithoutTail.f (k : Nat) (a0 : ByteArray) : Option (ByteArray) := (spec_IsWord.f k a0).bind fun t238 => (if t238 = true then (if 0 ≤ (wrap64 ((a0.size : Int) - 1)) then (if (wrap64 ((a0.size : Int) - 1)) ≤ (a0.size : Int) then (some (a0.extract 0 ((wrap64 ((a0.size : Int) - 1)) : Int).toNat)) else (none)) else (none)) else (some (⟨#[]⟩ : ByteArray)))
theorem spec_WithoutTail.mono : ∀ a0 k, LeO (spec_WithoutTail.f k a0) (spec_WithoutTail.f (k + 1) a0) := by
  intro a0 k
  unfold spec_WithoutTail.f
  repeat' first
    | (with_reducible exact spec_IsWord.mono _ _)
    | (with_reducible exact LeO.refl _)
    | (with_reducible exact LeO.none _)
    | (with_reducible refine LeO.ite ?_ ?_)
    | (with_reducible refine LeO.bind ?_ (fun _ => ?_))
    | exact spec_IsWord.mono _ _
    | exact LeO.none _
    | refine LeO.ite ?_ ?_
    | refine LeO.bind ?_ (fun _ => ?_)
set_option maxHeartbeats 8000000 in
set_option maxRecDepth 100000 in
theorem spec_WithoutTail.calls (k : Nat) (a0 : ByteArray) (r : ByteArray) (w : World) (h : spec_WithoutTail.f k a0 = some r) :
   Calls Try.prog 133 #[.string a0] w fun e w' => e = .returned (.string r) ∧ Drawn0 w w' := by
  have H : ((spec_IsWord.f k a0).bind fun t238 => (if t238 = true then (if 0 ≤ (wrap64 ((a0.size : Int) - 1)) then (if (wrap64 ((a0.size : Int) - 1)) ≤ (a0.size : Int) then (some (a0.extract 0 ((wrap64 ((a0.size : Int) - 1)) : Int).toNat)) else (none)) else (none)) else (some (⟨#[]⟩ : ByteArray)))) = some r := h
  clear h
  replace H := Option.bind_eq_some_iff.mp H
  obtain ⟨t238, A20, H⟩ := H
  replace H : (if t238 = true then (if 0 ≤ (wrap64 ((a0.size : Int) - 1)) then (if (wrap64 ((a0.size : Int) - 1)) ≤ (a0.size : Int) then (some (a0.extract 0 ((wrap64 ((a0.size : Int) - 1)) : Int).toNat)) else (none)) else (none)) else (some (⟨#[]⟩ : ByteArray))) = some r := H
  have A2 := Aside0.mk A20
  clear A20
  by_cases c3 : t238 = true
  ·subst c3
   have H1 : (if 0 ≤ (wrap64 ((a0.size : Int) - 1)) then (if (wrap64 ((a0.size : Int) - 1)) ≤ (a0.size : Int) then (some (a0.extract 0 ((wrap64 ((a0.size : Int) - 1)) : Int).toNat)) else (none)) else (none)) = some r := by rw [if_pos rfl] at H; exact H
   clear H
   have H := H1
   clear H1
   obtain ⟨ji4, hji4⟩ : ∃ j_ : Int, (wrap64 ((a0.size : Int) - 1)) = j_ := ⟨_, rfl⟩
   replace H : (if 0 ≤ (ji4) then (if (ji4) ≤ (a0.size : Int) then (some (a0.extract 0 ((ji4) : Int).toNat)) else (none)) else (none)) = some r := by first | (rw [hji4] at H; exact H) | (simp only [hji4] at H ⊢; exact H)
   (try rw [hji4] at A2)
   have hji4w : (IntKind.i64.wrap ((a0.size : Int) - 1)) = ji4 := (i64_w _).trans hji4
   by_cases c5 : 0 ≤ (ji4)
   ·rw [if_pos c5] at H
    have c5b0 := eq_true c5
    have c5b1 : decide (0 ≤ (ji4)) = true := decide_eq_true c5
    clear c5
    by_cases c6 : (ji4) ≤ (a0.size : Int)
    ·rw [if_pos c6] at H
     have c6b0 := eq_true c6
     have c6b1 : decide ((ji4) ≤ (a0.size : Int)) = true := decide_eq_true c6
     clear c6
     obtain rfl := Option.some.inj H
     go_enter Try.func133, Try.ntmps133
     go_wp2_with (first | ((with_reducible refine gate_callee (f := 24) rfl ?_); refine goesL_ (some 4) rfl rfl Try.func24 (by kernel_rfl) rfl #[.string a0] rfl z5_2 ?_; (with_reducible refine (spec_IsWord.calls k a0 true _ A2.out).mono ?_); rintro e w' ⟨rfl, ⟨nd, rfl⟩⟩; refine ⟨_, rfl, ?_⟩))
     go_ret
     exact ⟨by first | rfl | (simp; done) | (simp only [← hji4] <;> (first | rfl | simp)) | (simp [*]; done), z5_0⟩
    ·rw [if_neg c6] at H
     exact absurd H (by simp)
   ·rw [if_neg c5] at H
    exact absurd H (by simp)
  ·replace c3 := Bool.eq_false_iff.mpr c3
   subst c3
   have H1 : (some (⟨#[]⟩ : ByteArray)) = some r := by rw [if_neg (show ¬ (false = true) by decide)] at H; exact H
   clear H
   have H := H1
   clear H1
   obtain rfl := Option.some.inj H
   go_enter Try.func133, Try.ntmps133
   go_wp2_with (first | ((with_reducible refine gate_callee (f := 24) rfl ?_); refine goesL_ (some 4) rfl rfl Try.func24 (by kernel_rfl) rfl #[.string a0] rfl z5_2 ?_; (with_reducible refine (spec_IsWord.calls k a0 false _ A2.out).mono ?_); rintro e w' ⟨rfl, ⟨nd, rfl⟩⟩; refine ⟨_, rfl, ?_⟩))
   go_ret
   exact ⟨z5_1, z5_0⟩

/-! ### spec_IsInside: function 134 -/
mutual
def spec_IsInside.j0 : Nat → ByteArray → ByteArray → Bool → Option (Bool)
  | 0, _, _, _ => none
  | k + 1, x0, x1, x13 => if x13 = true then (some false) else (spec_IsInside.l0 k x0 x1 1)
def spec_IsInside.l0 : Nat → ByteArray → ByteArray → Int → Option (Bool)
  | 0, _, _, _ => none
  | k + 1, x0, x1, x5 => if (wrap64 (x5 + (x0.size : Int))) < (x1.size : Int) then (if 0 ≤ x5 then (if x5 ≤ (wrap64 (x5 + (x0.size : Int))) then (if (wrap64 (x5 + (x0.size : Int))) ≤ (x1.size : Int) then (if (x1.extract (x5 : Int).toNat ((wrap64 (x5 + (x0.size : Int))) : Int).toNat).toList = x0.toList then (some true) else (spec_IsInside.l0 k x0 x1 (wrap64 (x5 + 1)))) else (none)) else (none)) else (none)) else (some false)
end
def spec_IsInside.f (k : Nat) (a0 : ByteArray) (a1 : ByteArray) : Option (Bool) := (spec_IsWord.f k a0).bind fun t239 => (if t239 = true then ((spec_IsWord.f k a1).bind fun t240 => (spec_IsInside.j0 k a0 a1 (!t240))) else (spec_IsInside.j0 k a0 a1 true))
theorem spec_IsInside.mono_l : ∀ k, (∀ y0 y1 y2, LeO (spec_IsInside.j0 k y0 y1 y2) (spec_IsInside.j0 (k + 1) y0 y1 y2)) ∧ (∀ y0 y1 y2, LeO (spec_IsInside.l0 k y0 y1 y2) (spec_IsInside.l0 (k + 1) y0 y1 y2))
  | 0 => ⟨fun _ _ _ r h => by simp [spec_IsInside.j0] at h, fun _ _ _ r h => by simp [spec_IsInside.l0] at h⟩
  | k + 1 => by
   obtain ⟨ih0, ih1⟩ := spec_IsInside.mono_l k
   refine ⟨?_, ?_⟩
   ·intro y0 y1 y2
    unfold spec_IsInside.j0
    repeat' first
    | (with_reducible exact ih0 _ _ _)
    | (with_reducible exact ih1 _ _ _)
    | (with_reducible exact spec_IsWord.mono _ _)
    | (with_reducible exact LeO.refl _)
    | (with_reducible exact LeO.none _)
    | (with_reducible refine LeO.ite ?_ ?_)
    | (with_reducible refine LeO.bind ?_ (fun _ => ?_))
    | exact ih0 _ _ _
    | exact ih1 _ _ _
    | exact spec_IsWord.mono _ _
    | exact LeO.none _
    | refine LeO.ite ?_ ?_
    | refine LeO.bind ?_ (fun _ => ?_)
   ·intro y0 y1 y2
    unfold spec_IsInside.l0
    repeat' first
    | (with_reducible exact ih0 _ _ _)
    | (with_reducible exact ih1 _ _ _)
    | (with_reducible exact spec_IsWord.mono _ _)
    | (with_reducible exact LeO.refl _)
    | (with_reducible exact LeO.none _)
    | (with_reducible refine LeO.ite ?_ ?_)
    | (with_reducible refine LeO.bind ?_ (fun _ => ?_))
    | exact ih0 _ _ _
    | exact ih1 _ _ _
    | exact spec_IsWord.mono _ _
    | exact LeO.none _
    | refine LeO.ite ?_ ?_
    | refine LeO.bind ?_ (fun _ => ?_)
theorem spec_IsInside.mono : ∀ a0 a1 k, LeO (spec_IsInside.f k a0 a1) (spec_IsInside.f (k + 1) a0 a1) := by
  intro a0 a1 k
  obtain ⟨ih0, ih1⟩ := spec_IsInside.mono_l k
  unfold spec_IsInside.f
  repeat' first
    | (with_reducible exact ih0 _ _ _)
    | (with_reducible exact ih1 _ _ _)
    | (with_reducible exact spec_IsWord.mono _ _)
    | (with_reducible exact LeO.refl _)
    | (with_reducible exact LeO.none _)
    | (with_reducible refine LeO.ite ?_ ?_)
    | (with_reducible refine LeO.bind ?_ (fun _ => ?_))
    | exact ih0 _ _ _
    | exact ih1 _ _ _
    | exact spec_IsWord.mono _ _
    | exact LeO.none _
    | refine LeO.ite ?_ ?_
    | refine LeO.bind ?_ (fun _ => ?_)
set_option maxHeartbeats 8000000 in
set_option maxRecDepth 100000 in
theorem spec_IsInside.calls (k : Nat) (a0 : ByteArray) (a1 : ByteArray) (r : Bool) (w : World) (h : spec_IsInside.f k a0 a1 = some r) :
   Calls Try.prog 134 #[.string a0, .string a1] w fun e w' => e = .returned (.bool r) ∧ Drawn0 w w' := by
  have H : ((spec_IsWord.f k a0).bind fun t239 => (if t239 = true then ((spec_IsWord.f k a1).bind fun t240 => (spec_IsInside.j0 k a0 a1 (!t240))) else (spec_IsInside.j0 k a0 a1 true))) = some r := h
  clear h
  have HC3 := Aside0.mk H
  clear H
  go_enter Try.func134, Try.ntmps134
  go_upto_region 1 with (fail)
  go_cut [13] (fun v13 wc => ∃ (kq : Nat) (x13_2 : Bool), v13 = .bool x13_2 ∧ Aside0 (spec_IsInside.j0 kq a0 a1 x13_2 = some r) ∧ Aside0 (kq ≤ k) ∧ Drawn0 w wc)
  case first =>
   have H := HC3.out
   clear HC3
   replace H := Option.bind_eq_some_iff.mp H
   obtain ⟨t239, A40, H⟩ := H
   replace H : (if t239 = true then ((spec_IsWord.f k a1).bind fun t240 => (spec_IsInside.j0 k a0 a1 (!t240))) else (spec_IsInside.j0 k a0 a1 true)) = some r := H
   have A4 := Aside0.mk A40
   clear A40
   by_cases c5 : t239 = true
   ·subst c5
    have H1 : ((spec_IsWord.f k a1).bind fun t240 => (spec_IsInside.j0 k a0 a1 (!t240))) = some r := by rw [if_pos rfl] at H; exact H
    clear H
    have H := H1
    clear H1
    replace H := Option.bind_eq_some_iff.mp H
    obtain ⟨t240, A60, H⟩ := H
    replace H : (spec_IsInside.j0 k a0 a1 (!t240)) = some r := H
    have A6 := Aside0.mk A60
    clear A60
    have H' := Aside0.mk H
    clear H
    go_wp2_with (first | ((with_reducible refine gate_callee (f := 24) rfl ?_); refine goesL_ (some 7) rfl rfl Try.func24 (by kernel_rfl) rfl #[.string a0] rfl z5_2 ?_; (with_reducible refine (spec_IsWord.calls k a0 true _ A4.out).mono ?_); rintro e w' ⟨rfl, ⟨nd, rfl⟩⟩; refine ⟨_, rfl, ?_⟩) | (go_at_call 24; (with_reducible refine (spec_IsWord.calls k a1 t240 _ A6.out).mono ?_); rintro e w' ⟨rfl, ⟨nd, rfl⟩⟩))
    go_meet
    case rel => exact ⟨_, (!t240), z5_1, H', ⟨by first | omega | exact Nat.le_refl _⟩, z5_0⟩
   ·replace c5 := Bool.eq_false_iff.mpr c5
    subst c5
    have H1 : (spec_IsInside.j0 k a0 a1 true) = some r := by rw [if_neg (show ¬ (false = true) by decide)] at H; exact H
    clear H
    have H := H1
    clear H1
    have H' := Aside0.mk H
    clear H
    go_wp2_with (first | ((with_reducible refine gate_callee (f := 24) rfl ?_); refine goesL_ (some 7) rfl rfl Try.func24 (by kernel_rfl) rfl #[.string a0] rfl z5_2 ?_; (with_reducible refine (spec_IsWord.calls k a0 false _ A4.out).mono ?_); rintro e w' ⟨rfl, ⟨nd, rfl⟩⟩; refine ⟨_, rfl, ?_⟩))
    go_meet
    case rel => exact ⟨_, (true), z5_1, H', ⟨by first | omega | exact Nat.le_refl _⟩, z5_0⟩
  case rest =>
   clear HC3
   try clear c1
   try clear c2
   try clear p2
   try clear c5
   obtain ⟨kq, x13_2, rfl, HA, HJ2, ⟨mc2, rfl⟩⟩ := hcut
   cases kq with
   | zero => exact absurd HA.out (by simp [spec_IsInside.j0])
   | succ kj2 =>
    have H := HA.out
    clear HA
    simp only [spec_IsInside.j0] at H
    by_cases c7 : x13_2 = true
    ·subst c7
     have H1 : (some false) = some r := by rw [if_pos rfl] at H; exact H
     clear H
     have H := H1
     clear H1
     obtain rfl := Option.some.inj H
     go_wp2
     go_ret
     exact ⟨z5_1, z5_0⟩
    ·replace c7 := Bool.eq_false_iff.mpr c7
     subst c7
     have H1 : (spec_IsInside.l0 kj2 a0 a1 1) = some r := by rw [if_neg (show ¬ (false = true) by decide)] at H; exact H
     clear H
     have H := H1
     clear H1
     have H' := Aside0.mk H
     clear H
     go_wp2
     go_loopg [5] kj2 (fun kq v5 w' => ∃ (x5_2 : Int), v5 = .int .i64 x5_2 ∧ Aside0 (spec_IsInside.l0 kq a0 a1 x5_2 = some r) ∧ Aside0 (kq ≤ kj2) ∧ Drawn0 w w')
     case atStart => exact ⟨(1), z5_1, H', ⟨Nat.le_refl _⟩, z5_0⟩
     case round =>
      clear H'
      try clear c1
      try clear c2
      try clear p2
      try clear c5
      try clear c7
      try clear p2
      obtain ⟨x5_2, rfl, HA, HK2, ⟨m2, rfl⟩⟩ := hrel
      cases gk with
      | zero => exact absurd HA.out (by simp [spec_IsInside.l0])
      | succ k2 =>
       have H := HA.out
       clear HA
       simp only [spec_IsInside.l0] at H
       by_cases c8 : (wrap64 (x5_2 + (a0.size : Int))) < (a1.size : Int)
       ·rw [if_pos c8] at H
        have c8b0 : decide ((wrap64 (x5_2 + (a0.size : Int))) < (a1.size : Int)) = true := decide_eq_true c8
        clear c8
        by_cases c9 : 0 ≤ x5_2
        ·rw [if_pos c9] at H
         have c9b0 := eq_true c9
         have c9b1 : decide (0 ≤ x5_2) = true := decide_eq_true c9
         clear c9
         by_cases c10 : x5_2 ≤ (wrap64 (x5_2 + (a0.size : Int)))
         ·rw [if_pos c10] at H
          have c10b0 := eq_true c10
          have c10b1 : decide (x5_2 ≤ (wrap64 (x5_2 + (a0.size : Int)))) = true := decide_eq_true c10
          by_cases c11 : (wrap64 (x5_2 + (a0.size : Int))) ≤ (a1.size : Int)
          ·rw [if_pos c11] at H
           have c11b0 := eq_true c11
           have c11b1 : decide ((wrap64 (x5_2 + (a0.size : Int))) ≤ (a1.size : Int)) = true := decide_eq_true c11
           by_cases c12 : (a1.extract (x5_2 : Int).toNat ((wrap64 (x5_2 + (a0.size : Int))) : Int).toNat).toList = a0.toList
           ·rw [if_pos c12] at H
            have c12b0 : ((a1.extract (x5_2 : Int).toNat ((wrap64 (x5_2 + (a0.size : Int))) : Int).toNat).toList == a0.toList) = true := beq_iff_eq.mpr c12
            have c12b1 : ((a1.extract (x5_2 : Int).toNat ((wrap64 (x5_2 + (a0.size : Int))) : Int).toNat).toList != a0.toList) = false := bne_eq_false_iff_eq.mpr c12
            clear c12
            obtain rfl := Option.some.inj H
            go_wp2
            go_ret
            exact ⟨z5_1, z5_0⟩
           ·rw [if_neg c12] at H
            have c12b0 : ((a1.extract (x5_2 : Int).toNat ((wrap64 (x5_2 + (a0.size : Int))) : Int).toNat).toList == a0.toList) = false := beq_eq_false_iff_ne.mpr c12
            have c12b1 : ((a1.extract (x5_2 : Int).toNat ((wrap64 (x5_2 + (a0.size : Int))) : Int).toNat).toList != a0.toList) = true := bne_iff_ne.mpr c12
            have H' := Aside0.mk H
            clear H
            go_wp2
            go_roundg k2
            case measure => have := HJ2.out; have := HK2.out; omega
            case rel => exact ⟨(wrap64 (x5_2 + 1)), z5_1, H', ⟨by have := HJ2.out; have := HK2.out; omega⟩, z5_0⟩
          ·rw [if_neg c11] at H
           exact absurd H (by simp)
         ·rw [if_neg c10] at H
          exact absurd H (by simp)
        ·rw [if_neg c9] at H
         exact absurd H (by simp)
       ·rw [if_neg c8] at H
        have c8b0 : decide ((wrap64 (x5_2 + (a0.size : Int))) < (a1.size : Int)) = false := decide_eq_false c8
        clear c8
        obtain rfl := Option.some.inj H
        go_wp2
        go_ret
        exact ⟨z5_1, z5_0⟩

end Go.Proofs.Ytodcckiphdnjeab.QFnPlays
