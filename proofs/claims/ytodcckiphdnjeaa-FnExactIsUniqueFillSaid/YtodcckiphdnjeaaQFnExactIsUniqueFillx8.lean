-- Written by a changed copy of the kit's printer (wip/mp.py of this repo), for this claim; Lean checks it.
import Derived.Test.YtodcckiphdnjeaaQFnExactIsUniqueFillx0
import Derived.Test.YtodcckiphdnjeaaQFnExactIsUniqueFillx7
namespace Go.Proofs.Ytodcckiphdnjeaa.QFnExactIsUniqueFill
open Go.RowKit Go.Proofs.YtodcckiphdnjeaaW.PrintWords Go.Proofs.YtodcckiphdnjeaaW.PrintLast Go.Proofs.YtodcckiphdnjeaaW.PrintMore
attribute [local go_sem] max2_int min2_int max_two min_two max_three min_three max_four min_four   -- for this text's walks alone
set_option linter.unusedVariables false
set_option linter.unusedSimpArgs false

/-! ### spec_l13Open: function 85 -/
mutual
def spec_l13Open.l0 : Nat → List (List Int) → ByteArray → List ByteArray → Int → Option (Bool)
  | 0, _, _, _, _ => none
  | k + 1, x0, x1, x2, x3 => if x3 < (x0.length : Int) then (spec_l13Open.l1 k x0 x1 x2 x3 (⟨#[]⟩ : ByteArray) 0) else (some true)
def spec_l13Open.l1 : Nat → List (List Int) → ByteArray → List ByteArray → Int → ByteArray → Int → Option (Bool)
  | 0, _, _, _, _, _, _ => none
  | k + 1, x0, x1, x2, x3, x9, x10 => if 0 ≤ x3 then (if x3 < (x0.length : Int) then (if x10 < ((rd_L4 x0 x3).length : Int) then (if 0 ≤ x10 then (if 0 ≤ (rd (rd_L4 x0 x3) x10) then (if (rd (rd_L4 x0 x3) x10) ≤ (wrap64 ((rd (rd_L4 x0 x3) x10) + 1)) then (if (wrap64 ((rd (rd_L4 x0 x3) x10) + 1)) ≤ (x1.size : Int) then (if x9.size + (x1.extract ((rd (rd_L4 x0 x3) x10) : Int).toNat ((wrap64 ((rd (rd_L4 x0 x3) x10) + 1)) : Int).toNat).size ≤ 9223372036854775807 then (spec_l13Open.l1 k x0 x1 x2 x3 (x9 ++ (x1.extract ((rd (rd_L4 x0 x3) x10) : Int).toNat ((wrap64 ((rd (rd_L4 x0 x3) x10) + 1)) : Int).toNat)) (wrap64 (x10 + 1))) else (none)) else (none)) else (none)) else (none)) else (none)) else (spec_l13Open.l2 k x0 x1 x2 x3 x9 false 0)) else (none)) else (none)
def spec_l13Open.l2 : Nat → List (List Int) → ByteArray → List ByteArray → Int → ByteArray → Bool → Int → Option (Bool)
  | 0, _, _, _, _, _, _, _ => none
  | k + 1, x0, x1, x2, x3, x9, x11, x12 => if x12 < (x2.length : Int) then (if x11 = true then (spec_l13Open.l0 k x0 x1 x2 (wrap64 (x3 + 1))) else (if 0 ≤ x12 then ((spec_FitsPattern.f k x9 (rdOf ByteArray.empty x2 x12)).bind fun t171 => (spec_l13Open.l2 k x0 x1 x2 x3 x9 t171 (wrap64 (x12 + 1)))) else (none))) else (if x11 = true then (spec_l13Open.l0 k x0 x1 x2 (wrap64 (x3 + 1))) else (some false))
end
def spec_l13Open.f (k : Nat) (l0 : List (List Int)) (a1 : ByteArray) (l2 : List ByteArray) (a3 : Int) : Option (Bool) := spec_l13Open.l0 k l0 a1 l2 a3
theorem spec_l13Open.mono_l : ∀ k, (∀ y0 y1 y2 y3, LeO (spec_l13Open.l0 k y0 y1 y2 y3) (spec_l13Open.l0 (k + 1) y0 y1 y2 y3)) ∧ (∀ y0 y1 y2 y3 y4 y5, LeO (spec_l13Open.l1 k y0 y1 y2 y3 y4 y5) (spec_l13Open.l1 (k + 1) y0 y1 y2 y3 y4 y5)) ∧ (∀ y0 y1 y2 y3 y4 y5 y6, LeO (spec_l13Open.l2 k y0 y1 y2 y3 y4 y5 y6) (spec_l13Open.l2 (k + 1) y0 y1 y2 y3 y4 y5 y6))
  | 0 => ⟨fun _ _ _ _ r h => by simp [spec_l13Open.l0] at h, fun _ _ _ _ _ _ r h => by simp [spec_l13Open.l1] at h, fun _ _ _ _ _ _ _ r h => by simp [spec_l13Open.l2] at h⟩
  | k + 1 => by
   obtain ⟨ih0, ih1, ih2⟩ := spec_l13Open.mono_l k
   refine ⟨?_, ?_, ?_⟩
   ·intro y0 y1 y2 y3
    unfold spec_l13Open.l0
    repeat' first
    | (with_reducible exact ih0 _ _ _ _)
    | (with_reducible exact ih1 _ _ _ _ _ _)
    | (with_reducible exact ih2 _ _ _ _ _ _ _)
    | (with_reducible exact spec_FitsPattern.mono _ _ _)
    | (with_reducible exact LeO.refl _)
    | (with_reducible exact LeO.none _)
    | (with_reducible refine LeO.ite ?_ ?_)
    | (with_reducible refine LeO.bind ?_ (fun _ => ?_))
    | exact ih0 _ _ _ _
    | exact ih1 _ _ _ _ _ _
    | exact ih2 _ _ _ _ _ _ _
    | exact spec_FitsPattern.mono _ _ _
    | exact LeO.none _
    | refine LeO.ite ?_ ?_
    | refine LeO.bind ?_ (fun _ => ?_)
   ·intro y0 y1 y2 y3 y4 y5
    unfold spec_l13Open.l1
    repeat' first
    | (with_reducible exact ih0 _ _ _ _)
    | (with_reducible exact ih1 _ _ _ _ _ _)
    | (with_reducible exact ih2 _ _ _ _ _ _ _)
    | (with_reducible exact spec_FitsPattern.mono _ _ _)
    | (with_reducible exact LeO.refl _)
    | (with_reducible exact LeO.none _)
    | (with_reducible refine LeO.ite ?_ ?_)
    | (with_reducible refine LeO.bind ?_ (fun _ => ?_))
    | exact ih0 _ _ _ _
    | exact ih1 _ _ _ _ _ _
    | exact ih2 _ _ _ _ _ _ _
    | exact spec_FitsPattern.mono _ _ _
    | exact LeO.none _
    | refine LeO.ite ?_ ?_
    | refine LeO.bind ?_ (fun _ => ?_)
   ·intro y0 y1 y2 y3 y4 y5 y6
    unfold spec_l13Open.l2
    repeat' first
    | (with_reducible exact ih0 _ _ _ _)
    | (with_reducible exact ih1 _ _ _ _ _ _)
    | (with_reducible exact ih2 _ _ _ _ _ _ _)
    | (with_reducible exact spec_FitsPattern.mono _ _ _)
    | (with_reducible exact LeO.refl _)
    | (with_reducible exact LeO.none _)
    | (with_reducible refine LeO.ite ?_ ?_)
    | (with_reducible refine LeO.bind ?_ (fun _ => ?_))
    | exact ih0 _ _ _ _
    | exact ih1 _ _ _ _ _ _
    | exact ih2 _ _ _ _ _ _ _
    | exact spec_FitsPattern.mono _ _ _
    | exact LeO.none _
    | refine LeO.ite ?_ ?_
    | refine LeO.bind ?_ (fun _ => ?_)
theorem spec_l13Open.mono : ∀ a0 a1 a2 a3 k, LeO (spec_l13Open.f k a0 a1 a2 a3) (spec_l13Open.f (k + 1) a0 a1 a2 a3) := by
  intro a0 a1 a2 a3 k
  obtain ⟨ih0, ih1, ih2⟩ := spec_l13Open.mono_l k
  unfold spec_l13Open.f
  repeat' first
    | (with_reducible exact ih0 _ _ _ _)
    | (with_reducible exact ih1 _ _ _ _ _ _)
    | (with_reducible exact ih2 _ _ _ _ _ _ _)
    | (with_reducible exact spec_FitsPattern.mono _ _ _)
    | (with_reducible exact LeO.refl _)
    | (with_reducible exact LeO.none _)
    | (with_reducible refine LeO.ite ?_ ?_)
    | (with_reducible refine LeO.bind ?_ (fun _ => ?_))
    | exact ih0 _ _ _ _
    | exact ih1 _ _ _ _ _ _
    | exact ih2 _ _ _ _ _ _ _
    | exact spec_FitsPattern.mono _ _ _
    | exact LeO.none _
    | refine LeO.ite ?_ ?_
    | refine LeO.bind ?_ (fun _ => ?_)
set_option maxHeartbeats 8000000 in
set_option maxRecDepth 100000 in
theorem spec_l13Open.calls (k : Nat) (A0 : Option Addr) (c0 : Nat) (l0 : List (List Int)) (a1 : ByteArray) (A2 : Option Addr) (c2 : Nat) (l2 : List ByteArray) (a3 : Int) (r : Bool) (w : World) (hr0 : Kd.C (Kd.slice 3 (Kd.int .i64)) w A0 l0.length l0) (hc0 : l0.length ≤ c0) (hr2 : Kd.C Kd.string w A2 l2.length l2) (hc2 : l2.length ≤ c2) (h : spec_l13Open.f k l0 a1 l2 a3 = some r) :
   Calls Try.prog 85 #[.slice A0 l0.length c0, .string a1, .slice A2 l2.length c2, .int .i64 a3] w fun e w' => e = .returned (.bool r) ∧ Drawn0 w w' := by
  have HR0 := Aside0.mk hr0
  have HC0 := Aside0.mk hc0
  clear hr0 hc0
  have HR2 := Aside0.mk hr2
  have HC2 := Aside0.mk hc2
  clear hr2 hc2
  have H : (spec_l13Open.l0 k l0 a1 l2 a3) = some r := h
  clear h
  have H' := Aside0.mk H
  clear H
  go_enter Try.func85, Try.ntmps85
  go_wp2
  repeat (go_quiet (fail); try go_wp2)
  go_loopg [3] k (fun kq v3 w' => ∃ (x3_1 : Int), v3 = .int .i64 x3_1 ∧ Aside0 (spec_l13Open.l0 kq l0 a1 l2 x3_1 = some r) ∧ Aside0 (kq ≤ k) ∧ Drawn0 w w')
  case atStart => exact ⟨(a3), (by first | rfl | (simp; done) | (simp [*]; done)), H', ⟨Nat.le_refl _⟩, by repeat (first | exact Drawn0.refl _ | apply Drawn0.step)⟩
  case round =>
   clear H'
   try clear c2
   try clear p2
   obtain ⟨x3_1, rfl, HA, HK1, ⟨m1, rfl⟩⟩ := hrel
   cases gk with
   | zero => exact absurd HA.out (by simp [spec_l13Open.l0])
   | succ k1 =>
    have H := HA.out
    clear HA
    simp only [spec_l13Open.l0] at H
    by_cases c5 : x3_1 < (l0.length : Int)
    ·rw [if_pos c5] at H
     have c5b0 : decide (x3_1 < (l0.length : Int)) = true := decide_eq_true c5
     clear c5
     have H' := Aside0.mk H
     clear H
     go_wp2
     repeat (go_quiet (fail); try go_wp2)
     go_loopg [9, 10] k1 (fun kq v9 v10 w' => ∃ (x9_2 : ByteArray) (x10_2 : Int), v9 = .string x9_2 ∧ v10 = .int .i64 x10_2 ∧ Aside0 (spec_l13Open.l1 kq l0 a1 l2 x3_1 x9_2 x10_2 = some r) ∧ Aside0 (kq ≤ k1) ∧ Drawn0 w w')
     case atStart => exact ⟨((⟨#[]⟩ : ByteArray)), (0), (by first | rfl | (simp; done) | (simp [*]; done)), (by first | rfl | (simp; done) | (simp [*]; done)), H', ⟨Nat.le_refl _⟩, by repeat (first | exact Drawn0.refl _ | apply Drawn0.step)⟩
     case round =>
      clear H'
      try clear c2
      try clear p2
      try clear c5
      try clear c5b0
      try clear p2
      obtain ⟨x9_2, x10_2, rfl, rfl, HA, HK2, ⟨m2, rfl⟩⟩ := hrel
      cases gk with
      | zero => exact absurd HA.out (by simp [spec_l13Open.l1])
      | succ k2 =>
       have H := HA.out
       clear HA
       simp only [spec_l13Open.l1] at H
       by_cases c6 : 0 ≤ x3_1
       ·rw [if_pos c6] at H
        have c6b0 : decide (0 ≤ x3_1) = true := decide_eq_true c6
        clear c6
        by_cases c7 : x3_1 < (l0.length : Int)
        ·rw [if_pos c7] at H
         have c7b0 : decide (x3_1 < (l0.length : Int)) = true := decide_eq_true c7
         clear c7
         by_cases c8 : x10_2 < ((rd_L4 l0 x3_1).length : Int)
         ·rw [if_pos c8] at H
          have c8b0 : decide (x10_2 < ((rd_L4 l0 x3_1).length : Int)) = true := decide_eq_true c8
          clear c8
          by_cases c9 : 0 ≤ x10_2
          ·rw [if_pos c9] at H
           have c9b0 : decide (0 ≤ x10_2) = true := decide_eq_true c9
           clear c9
           by_cases c10 : 0 ≤ (rd (rd_L4 l0 x3_1) x10_2)
           ·rw [if_pos c10] at H
            have c10b0 := eq_true c10
            have c10b1 : decide (0 ≤ (rd (rd_L4 l0 x3_1) x10_2)) = true := decide_eq_true c10
            clear c10
            by_cases c11 : (rd (rd_L4 l0 x3_1) x10_2) ≤ (wrap64 ((rd (rd_L4 l0 x3_1) x10_2) + 1))
            ·rw [if_pos c11] at H
             have c11b0 := eq_true c11
             have c11b1 : decide ((rd (rd_L4 l0 x3_1) x10_2) ≤ (wrap64 ((rd (rd_L4 l0 x3_1) x10_2) + 1))) = true := decide_eq_true c11
             by_cases c12 : (wrap64 ((rd (rd_L4 l0 x3_1) x10_2) + 1)) ≤ (a1.size : Int)
             ·rw [if_pos c12] at H
              have c12b0 := eq_true c12
              have c12b1 : decide ((wrap64 ((rd (rd_L4 l0 x3_1) x10_2) + 1)) ≤ (a1.size : Int)) = true := decide_eq_true c12
              by_cases c13 : x9_2.size + (a1.extract ((rd (rd_L4 l0 x3_1) x10_2) : Int).toNat ((wrap64 ((rd (rd_L4 l0 x3_1) x10_2) + 1)) : Int).toNat).size ≤ 9223372036854775807
              ·rw [if_pos c13] at H
               have c13b0 := eq_true c13
               have c13b1 : decide (x9_2.size + (a1.extract ((rd (rd_L4 l0 x3_1) x10_2) : Int).toNat ((wrap64 ((rd (rd_L4 l0 x3_1) x10_2) + 1)) : Int).toNat).size ≤ 9223372036854775807) = true := decide_eq_true c13
               try have c13b2 : (9223372036854775807 < x9_2.size + (a1.extract ((rd (rd_L4 l0 x3_1) x10_2) : Int).toNat ((wrap64 ((rd (rd_L4 l0 x3_1) x10_2) + 1)) : Int).toNat).size) = False := eq_false (Nat.not_lt.2 c13)
               try have c13b3 : (9223372036854775807 < x9_2.size + ((wrap64 ((rd (rd_L4 l0 x3_1) x10_2) + 1)).toNat - (rd (rd_L4 l0 x3_1) x10_2).toNat)) = False := eq_false (by have q0_ : (wrap64 ((rd (rd_L4 l0 x3_1) x10_2) + 1) : Int) ≤ (a1.size : Int) := of_decide_eq_true (by first | (with_reducible assumption) | assumption); have h_ := c13; simp only [ByteArray.size_append, ByteArray.size_extract] at h_; omega)
               have H' := Aside0.mk H
               clear H
               have p165 : 0 ≤ (x3_1 : Int) := of_decide_eq_true (by first | (with_reducible assumption) | assumption)
               have q165 : x3_1 < (l0.length : Int) := of_decide_eq_true (by first | (with_reducible assumption) | assumption)
               obtain ⟨ad165, A165_0, c165_0, e165, hx165_0, hl165_0, hi165_0⟩ := at_L4 HR0.out x3_1 p165 q165
               cases e165
               have HR165_0 := Aside0.mk hi165_0
               have HC165_0 := Aside0.mk hl165_0
               clear hi165_0 hl165_0
               replace p165 := eq_true p165
               replace q165 := eq_true q165
               have p166 : 0 ≤ (x3_1 : Int) := of_decide_eq_true (by first | (with_reducible assumption) | assumption)
               have q166 : x3_1 < (l0.length : Int) := of_decide_eq_true (by first | (with_reducible assumption) | assumption)
               obtain ⟨ad166, A166_0, c166_0, e166, hx166_0, hl166_0, hi166_0⟩ := at_L4 HR0.out x3_1 p166 q166
               obtain rfl : ad165 = ad166 := (by injection e166)
               have HR166_0 := Aside0.mk hi166_0
               have HC166_0 := Aside0.mk hl166_0
               clear hi166_0 hl166_0
               replace p166 := eq_true p166
               replace q166 := eq_true q166
               have ea_ := Option.some.inj (hx165_0.symm.trans hx166_0)
               injection ea_ with ea_ en_ ec_
               subst ea_
               subst ec_
               clear en_
               have p167 : 0 ≤ (x10_2 : Int) := of_decide_eq_true (by first | (with_reducible assumption) | assumption)
               have q167 : x10_2 < ((rd_L4 l0 x3_1).length : Int) := of_decide_eq_true (by first | (with_reducible assumption) | assumption)
               obtain ⟨ad167, e167, hx167_0⟩ := Kd.at_int HR166_0.out x10_2 p167 q167
               cases e167
               replace p167 := eq_true p167
               replace q167 := eq_true q167
               have p168 : 0 ≤ (x3_1 : Int) := of_decide_eq_true (by first | (with_reducible assumption) | assumption)
               have q168 : x3_1 < (l0.length : Int) := of_decide_eq_true (by first | (with_reducible assumption) | assumption)
               obtain ⟨ad168, A168_0, c168_0, e168, hx168_0, hl168_0, hi168_0⟩ := at_L4 HR0.out x3_1 p168 q168
               obtain rfl : ad165 = ad168 := (by injection e168)
               have HR168_0 := Aside0.mk hi168_0
               have HC168_0 := Aside0.mk hl168_0
               clear hi168_0 hl168_0
               replace p168 := eq_true p168
               replace q168 := eq_true q168
               have ea_ := Option.some.inj (hx165_0.symm.trans hx168_0)
               injection ea_ with ea_ en_ ec_
               subst ea_
               subst ec_
               clear en_
               have p169 : 0 ≤ (x10_2 : Int) := of_decide_eq_true (by first | (with_reducible assumption) | assumption)
               have q169 : x10_2 < ((rd_L4 l0 x3_1).length : Int) := of_decide_eq_true (by first | (with_reducible assumption) | assumption)
               obtain ⟨ad169, e169, hx169_0⟩ := Kd.at_int HR168_0.out x10_2 p169 q169
               cases e169
               replace p169 := eq_true p169
               replace q169 := eq_true q169
               go_wp2
               repeat (go_quiet (fail); try go_wp2)
               go_roundg k2
               case measure => have := HK1.out; have := HK2.out; omega
               case rel => exact ⟨(x9_2 ++ (a1.extract ((rd (rd_L4 l0 x3_1) x10_2) : Int).toNat ((wrap64 ((rd (rd_L4 l0 x3_1) x10_2) + 1)) : Int).toNat)), (wrap64 (x10_2 + 1)), (by first | rfl | (simp; done) | (simp [*]; done)), (by first | rfl | (simp; done) | (simp [*]; done)), H', ⟨by have := HK1.out; have := HK2.out; omega⟩, by repeat (first | exact Drawn0.refl _ | apply Drawn0.step)⟩
              ·rw [if_neg c13] at H
               exact absurd H (by simp)
             ·rw [if_neg c12] at H
              exact absurd H (by simp)
            ·rw [if_neg c11] at H
             exact absurd H (by simp)
           ·rw [if_neg c10] at H
            exact absurd H (by simp)
          ·rw [if_neg c9] at H
           exact absurd H (by simp)
         ·rw [if_neg c8] at H
          have c8b0 : decide (x10_2 < ((rd_L4 l0 x3_1).length : Int)) = false := decide_eq_false c8
          clear c8
          have H' := Aside0.mk H
          clear H
          have p165 : 0 ≤ (x3_1 : Int) := of_decide_eq_true (by first | (with_reducible assumption) | assumption)
          have q165 : x3_1 < (l0.length : Int) := of_decide_eq_true (by first | (with_reducible assumption) | assumption)
          obtain ⟨ad165, A165_0, c165_0, e165, hx165_0, hl165_0, hi165_0⟩ := at_L4 HR0.out x3_1 p165 q165
          cases e165
          have HR165_0 := Aside0.mk hi165_0
          have HC165_0 := Aside0.mk hl165_0
          clear hi165_0 hl165_0
          replace p165 := eq_true p165
          replace q165 := eq_true q165
          go_wp2
          repeat (go_quiet (fail); try go_wp2)
          go_loopg [11, 12] k2 (fun kq v11 v12 w' => ∃ (x11_3 : Bool) (x12_3 : Int), v11 = .bool x11_3 ∧ v12 = .int .i64 x12_3 ∧ Aside0 (spec_l13Open.l2 kq l0 a1 l2 x3_1 x9_2 x11_3 x12_3 = some r) ∧ Aside0 (kq ≤ k2) ∧ Drawn0 w w')
          case atStart => exact ⟨(false), (0), (by first | rfl | (simp; done) | (simp [*]; done)), (by first | rfl | (simp; done) | (simp [*]; done)), H', ⟨Nat.le_refl _⟩, by repeat (first | exact Drawn0.refl _ | apply Drawn0.step)⟩
          case round =>
           clear H'
           try clear c1
           try clear p1
           try clear q1
           try clear hx1
           try clear c2
           try clear p2
           try clear c5
           try clear c5b0
           try clear c6
           try clear c6b0
           try clear p6
           try clear c7
           try clear c7b0
           try clear c8
           try clear c8b0
           try clear c9
           try clear c9b0
           try clear c10
           try clear c10b0
           try clear c10b1
           try clear c11
           try clear c11b0
           try clear c11b1
           try clear c12
           try clear c12b0
           try clear c12b1
           try clear c13
           try clear c13b0
           try clear c13b1
           try clear c13b2
           try clear hx165_0
           try clear hx166_0
           try clear hx167_0
           try clear hx168_0
           try clear hx169_0
           try clear p165
           try clear p166
           try clear p167
           try clear p168
           try clear p169
           try clear p2
           try clear q165
           try clear q166
           try clear q167
           try clear q168
           try clear q169
           obtain ⟨x11_3, x12_3, rfl, rfl, HA, HK3, ⟨m3, rfl⟩⟩ := hrel
           cases gk with
           | zero => exact absurd HA.out (by simp [spec_l13Open.l2])
           | succ k3 =>
            have H := HA.out
            clear HA
            simp only [spec_l13Open.l2] at H
            by_cases c14 : x12_3 < (l2.length : Int)
            ·rw [if_pos c14] at H
             have c14b0 : decide (x12_3 < (l2.length : Int)) = true := decide_eq_true c14
             clear c14
             by_cases c15 : x11_3 = true
             ·subst c15
              have H1 : (spec_l13Open.l0 k3 l0 a1 l2 (wrap64 (x3_1 + 1))) = some r := by rw [if_pos rfl] at H; exact H
              clear H
              have H := H1
              clear H1
              have H' := Aside0.mk H
              clear H
              go_wp2
              repeat (go_quiet (fail); try go_wp2)
              go_roundg k3
              case measure => have := HK1.out; have := HK2.out; have := HK3.out; omega
              case rel => exact ⟨(wrap64 (x3_1 + 1)), (by first | rfl | (simp; done) | (simp [*]; done)), H', ⟨by have := HK1.out; have := HK2.out; have := HK3.out; omega⟩, by repeat (first | exact Drawn0.refl _ | apply Drawn0.step)⟩
             ·replace c15 := Bool.eq_false_iff.mpr c15
              subst c15
              have H1 : (if 0 ≤ x12_3 then ((spec_FitsPattern.f k3 x9_2 (rdOf ByteArray.empty l2 x12_3)).bind fun t171 => (spec_l13Open.l2 k3 l0 a1 l2 x3_1 x9_2 t171 (wrap64 (x12_3 + 1)))) else (none)) = some r := by rw [if_neg (show ¬ (false = true) by decide)] at H; exact H
              clear H
              have H := H1
              clear H1
              by_cases c16 : 0 ≤ x12_3
              ·rw [if_pos c16] at H
               have c16b0 : decide (0 ≤ x12_3) = true := decide_eq_true c16
               clear c16
               replace H := Option.bind_eq_some_iff.mp H
               obtain ⟨t171, A170, H⟩ := H
               replace H : (spec_l13Open.l2 k3 l0 a1 l2 x3_1 x9_2 t171 (wrap64 (x12_3 + 1))) = some r := H
               have A17 := Aside0.mk A170
               clear A170
               have H' := Aside0.mk H
               clear H
               have p170 : 0 ≤ (x12_3 : Int) := of_decide_eq_true (by first | (with_reducible assumption) | assumption)
               have q170 : x12_3 < (l2.length : Int) := of_decide_eq_true (by first | (with_reducible assumption) | assumption)
               obtain ⟨ad170, e170, hx170_0⟩ := Kd.at_string HR2.out x12_3 p170 q170
               cases e170
               replace p170 := eq_true p170
               replace q170 := eq_true q170
               go_wp2_with (first | (go_at_call 101; (with_reducible refine (spec_FitsPattern.calls k3 x9_2 (rdOf ByteArray.empty l2 x12_3) t171 _ A17.out).mono ?_); rintro e w' ⟨rfl, ⟨nd, rfl⟩⟩; (try first | exact ⟨rfl, _, World.drewN_drewN _ _ _⟩ | exact ⟨rfl, _, Eq.trans (World.drewN_drewN _ _ _) (congrArg (World.drewN _) (Nat.add_assoc _ _ _))⟩)))
               repeat (go_quiet (first | (go_at_call 101; (with_reducible refine (spec_FitsPattern.calls k3 x9_2 (rdOf ByteArray.empty l2 x12_3) t171 _ A17.out).mono ?_); rintro e w' ⟨rfl, ⟨nd, rfl⟩⟩; (try first | exact ⟨rfl, _, World.drewN_drewN _ _ _⟩ | exact ⟨rfl, _, Eq.trans (World.drewN_drewN _ _ _) (congrArg (World.drewN _) (Nat.add_assoc _ _ _))⟩))); try go_wp2_with (first | (go_at_call 101; (with_reducible refine (spec_FitsPattern.calls k3 x9_2 (rdOf ByteArray.empty l2 x12_3) t171 _ A17.out).mono ?_); rintro e w' ⟨rfl, ⟨nd, rfl⟩⟩; (try first | exact ⟨rfl, _, World.drewN_drewN _ _ _⟩ | exact ⟨rfl, _, Eq.trans (World.drewN_drewN _ _ _) (congrArg (World.drewN _) (Nat.add_assoc _ _ _))⟩))))
               go_roundg k3
               case measure => have := HK1.out; have := HK2.out; have := HK3.out; omega
               case rel => exact ⟨(t171), (wrap64 (x12_3 + 1)), (by first | rfl | (simp; done) | (simp [*]; done)), (by first | rfl | (simp; done) | (simp [*]; done)), H', ⟨by have := HK1.out; have := HK2.out; have := HK3.out; omega⟩, by repeat (first | exact Drawn0.refl _ | apply Drawn0.step)⟩
              ·rw [if_neg c16] at H
               exact absurd H (by simp)
            ·rw [if_neg c14] at H
             have c14b0 : decide (x12_3 < (l2.length : Int)) = false := decide_eq_false c14
             clear c14
             by_cases c18 : x11_3 = true
             ·subst c18
              have H1 : (spec_l13Open.l0 k3 l0 a1 l2 (wrap64 (x3_1 + 1))) = some r := by rw [if_pos rfl] at H; exact H
              clear H
              have H := H1
              clear H1
              have H' := Aside0.mk H
              clear H
              go_wp2
              repeat (go_quiet (fail); try go_wp2)
              go_roundg k3
              case measure => have := HK1.out; have := HK2.out; have := HK3.out; omega
              case rel => exact ⟨(wrap64 (x3_1 + 1)), (by first | rfl | (simp; done) | (simp [*]; done)), H', ⟨by have := HK1.out; have := HK2.out; have := HK3.out; omega⟩, by repeat (first | exact Drawn0.refl _ | apply Drawn0.step)⟩
             ·replace c18 := Bool.eq_false_iff.mpr c18
              subst c18
              have H1 : (some false) = some r := by rw [if_neg (show ¬ (false = true) by decide)] at H; exact H
              clear H
              have H := H1
              clear H1
              obtain rfl := Option.some.inj H
              go_wp2
              repeat (go_quiet (fail); try go_wp2)
              go_ret
              exact ⟨by first | rfl | (simp; done) | (simp [*]; done), by repeat (first | exact Drawn0.refl _ | apply Drawn0.step)⟩
        ·rw [if_neg c7] at H
         exact absurd H (by simp)
       ·rw [if_neg c6] at H
        exact absurd H (by simp)
    ·rw [if_neg c5] at H
     have c5b0 : decide (x3_1 < (l0.length : Int)) = false := decide_eq_false c5
     clear c5
     obtain rfl := Option.some.inj H
     go_wp2
     repeat (go_quiet (fail); try go_wp2)
     go_ret
     exact ⟨by first | rfl | (simp; done) | (simp [*]; done), by repeat (first | exact Drawn0.refl _ | apply Drawn0.step)⟩

end Go.Proofs.Ytodcckiphdnjeaa.QFnExactIsUniqueFill
