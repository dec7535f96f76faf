-- Written by a changed copy of the kit's printer (wip/mp.py of this repo), for this claim; Lean checks it.
import Derived.Test.YtodcckiphdnjeaaQFnPrunedx0
namespace Go.Proofs.Ytodcckiphdnjeaa.QFnPruned
open Go.RowKit Go.Proofs.YtodcckiphdnjeaaW.PrintWords Go.Proofs.YtodcckiphdnjeaaW.PrintLast Go.Proofs.YtodcckiphdnjeaaW.PrintMore
attribute [local go_sem] max2_int min2_int max_two min_two max_three min_three max_four min_four   -- for this text's walks alone
set_option linter.unusedVariables false
set_option maxHeartbeats 8000000
set_option maxRecDepth 100000
set_option linter.unusedSimpArgs false

/-! ### spec_l12Letter: function 125 -/
def spec_l12Letter.l0 : Nat → List ByteArray → Int → Int → Int → Option (Bool)
  | 0, _, _, _, _ => none
  | k + 1, x0, x1, x2, x7 => if x7 < (x0.length : Int) then (if 0 ≤ x7 then (if x1 < ((rdOf ByteArray.empty x0 x7).size : Int) then (if 0 ≤ x1 then (if (bt (rdOf ByteArray.empty x0 x7) x1) = x2 then (some true) else (spec_l12Letter.l0 k x0 x1 x2 (wrap64 (x7 + 1)))) else (none)) else (spec_l12Letter.l0 k x0 x1 x2 (wrap64 (x7 + 1)))) else (none)) else (some false)
def spec_l12Letter.f (k : Nat) (l0 : List ByteArray) (a1 : Int) (a2 : Int) : Option (Bool) := spec_l12Letter.l0 k l0 a1 a2 0
theorem spec_l12Letter.calls (k : Nat) (A0 : Option Addr) (c0 : Nat) (l0 : List ByteArray) (a1 : Int) (a2 : Int) (r : Bool) (w : World) (hr0 : Kd.C Kd.string w A0 l0.length l0) (hc0 : l0.length ≤ c0) (h : spec_l12Letter.f k l0 a1 a2 = some r) :
   Calls Try.prog 125 #[.slice A0 l0.length c0, .int .i64 a1, .int .u8 a2] w fun e w' => e = .returned (.bool r) ∧ Drawn0 w w' := by
  have HR0 := Aside0.mk hr0; have HC0 := Aside0.mk hc0; clear hr0 hc0; have H : (spec_l12Letter.l0 k l0 a1 a2 0) = some r := h; clear h; have H' := Aside0.mk H
  clear H; go_enter Try.func125, Try.ntmps125
  go_wp2
  go_loopg [7] k (fun kq v7 w' => ∃ (x7_1 : Int), v7 = .int .i64 x7_1 ∧ Aside0 (spec_l12Letter.l0 kq l0 a1 a2 x7_1 = some r) ∧ Aside0 (kq ≤ k) ∧ Drawn0 w w')
  case atStart => exact ⟨(0), (by first | rfl | (simp; done) | (simp [*]; done)), H', ⟨Nat.le_refl _⟩, by repeat (first | exact Drawn0.refl _ | apply Drawn0.step)⟩
  case round =>
   clear H'; try clear c1
   try clear p2
   obtain ⟨x7_1, rfl, HA, HK1, ⟨m1, rfl⟩⟩ := hrel
   cases gk with
   | zero => exact absurd HA.out (by simp [spec_l12Letter.l0])
   | succ k1 =>
    have H := HA.out; clear HA; simp only [spec_l12Letter.l0] at H; by_cases c4 : x7_1 < (l0.length : Int)
    ·rw [if_pos c4] at H
     have c4b0 := decide_eq_true c4; clear c4; by_cases c5 : 0 ≤ x7_1
     ·rw [if_pos c5] at H
      have c5b0 := decide_eq_true c5; clear c5; by_cases c6 : a1 < ((rdOf ByteArray.empty l0 x7_1).size : Int)
      ·rw [if_pos c6] at H
       have c6b0 := decide_eq_true c6; clear c6; by_cases c7 : 0 ≤ a1
       ·rw [if_pos c7] at H
        have c7b0 := decide_eq_true c7; clear c7; by_cases c9 : (bt (rdOf ByteArray.empty l0 x7_1) a1) = a2
        ·rw [if_pos c9] at H
         have c9b0 : ((bt (rdOf ByteArray.empty l0 x7_1) a1) == a2) = true := beq_iff_eq.mpr c9; have c9b1 : ((bt (rdOf ByteArray.empty l0 x7_1) a1) != a2) = false := bne_eq_false_iff_eq.mpr c9; clear c9; obtain rfl := Option.some.inj H; have p474 : 0 ≤ (x7_1 : Int) := of_decide_eq_true z_g1; have q474 : x7_1 < (l0.length : Int) := of_decide_eq_true z_g1; obtain ⟨ad474, e474, hx474_0⟩ := Kd.at_string HR0.out x7_1 p474 q474
         cases e474; replace p474 := eq_true p474; replace q474 := eq_true q474; have p475 : 0 ≤ (x7_1 : Int) := of_decide_eq_true z_g1; have q475 : x7_1 < (l0.length : Int) := of_decide_eq_true z_g1; obtain ⟨ad475, e475, hx475_0⟩ := Kd.at_string HR0.out x7_1 p475 q475; obtain rfl : ad474 = ad475 := (by injection e475); replace p475 := eq_true p475; replace q475 := eq_true q475; have p8 : 0 ≤ (a1 : Int) := of_decide_eq_true z_g1; have q8 : a1 < ((rdOf ByteArray.empty l0 x7_1).size : Int) := of_decide_eq_true z_g1; have hx8 := bt_at (rdOf ByteArray.empty l0 x7_1) a1; replace p8 := eq_true p8; replace q8 := eq_true q8; go_wp2
         go_ret
         exact ⟨by first | rfl | (simp; done) | (simp [*]; done), by repeat (first | exact Drawn0.refl _ | apply Drawn0.step)⟩
        ·rw [if_neg c9] at H
         have c9b0 : ((bt (rdOf ByteArray.empty l0 x7_1) a1) == a2) = false := beq_eq_false_iff_ne.mpr c9; have c9b1 : ((bt (rdOf ByteArray.empty l0 x7_1) a1) != a2) = true := bne_iff_ne.mpr c9; have H' := Aside0.mk H
         clear H; have p474 : 0 ≤ (x7_1 : Int) := of_decide_eq_true z_g1; have q474 : x7_1 < (l0.length : Int) := of_decide_eq_true z_g1; obtain ⟨ad474, e474, hx474_0⟩ := Kd.at_string HR0.out x7_1 p474 q474
         cases e474; replace p474 := eq_true p474; replace q474 := eq_true q474; have p475 : 0 ≤ (x7_1 : Int) := of_decide_eq_true z_g1; have q475 : x7_1 < (l0.length : Int) := of_decide_eq_true z_g1; obtain ⟨ad475, e475, hx475_0⟩ := Kd.at_string HR0.out x7_1 p475 q475; obtain rfl : ad474 = ad475 := (by injection e475); replace p475 := eq_true p475; replace q475 := eq_true q475; have p8 : 0 ≤ (a1 : Int) := of_decide_eq_true z_g1; have q8 : a1 < ((rdOf ByteArray.empty l0 x7_1).size : Int) := of_decide_eq_true z_g1; have hx8 := bt_at (rdOf ByteArray.empty l0 x7_1) a1; replace p8 := eq_true p8; replace q8 := eq_true q8; go_wp2
         go_roundg k1
         case measure => have := HK1.out; omega
         case rel => exact ⟨(wrap64 (x7_1 + 1)), (by first | rfl | (simp; done) | (simp [*]; done)), H', ⟨by have := HK1.out; omega⟩, by repeat (first | exact Drawn0.refl _ | apply Drawn0.step)⟩
       ·rw [if_neg c7] at H
        exact absurd H (by simp)
      ·rw [if_neg c6] at H
       have c6b0 := decide_eq_false c6; clear c6; have H' := Aside0.mk H
       clear H; have p474 : 0 ≤ (x7_1 : Int) := of_decide_eq_true z_g1; have q474 : x7_1 < (l0.length : Int) := of_decide_eq_true z_g1; obtain ⟨ad474, e474, hx474_0⟩ := Kd.at_string HR0.out x7_1 p474 q474
       cases e474; replace p474 := eq_true p474; replace q474 := eq_true q474; go_wp2
       go_roundg k1
       case measure => have := HK1.out; omega
       case rel => exact ⟨(wrap64 (x7_1 + 1)), (by first | rfl | (simp; done) | (simp [*]; done)), H', ⟨by have := HK1.out; omega⟩, by repeat (first | exact Drawn0.refl _ | apply Drawn0.step)⟩
     ·rw [if_neg c5] at H
      exact absurd H (by simp)
    ·rw [if_neg c4] at H
     have c4b0 := decide_eq_false c4; clear c4; obtain rfl := Option.some.inj H; go_wp2
     go_ret
     exact ⟨by first | rfl | (simp; done) | (simp [*]; done), by repeat (first | exact Drawn0.refl _ | apply Drawn0.step)⟩

/-! ### spec_l12Support: function 111 (given) -/
mutual
def spec_l12Support.l0 : Nat → List (S114) → List (List ByteArray) → Int → ByteArray → Int → Option (Bool)
  | 0, _, _, _, _, _ => none
  | k + 1, x0, x1, x2, x3, x9 => if x9 < (x0.length : Int) then (if 0 ≤ x9 then (if ((rd_T114 x0 x9).f0) = x2 then (if 0 ≤ ((rd_T114 x0 x9).f1) then (if ((rd_T114 x0 x9).f1) < (x1.length : Int) then (if 0 ≤ ((rd_T114 x0 x9).f2) then (if ((rd_T114 x0 x9).f2) < (x3.size : Int) then ((spec_l12Letter.f k (rd_L5 x1 ((rd_T114 x0 x9).f1)) ((rd_T114 x0 x9).f3) (bt x3 ((rd_T114 x0 x9).f2))).bind fun t483 => (spec_l12Support.j1 k x0 x1 x2 x3 x9 (!t483))) else (none)) else (none)) else (none)) else (none)) else (spec_l12Support.j1 k x0 x1 x2 x3 x9 false)) else (none)) else (some true)
def spec_l12Support.j1 : Nat → List (S114) → List (List ByteArray) → Int → ByteArray → Int → Bool → Option (Bool)
  | 0, _, _, _, _, _, _ => none
  | k + 1, x0, x1, x2, x3, x9, x46 => if x46 = true then (some false) else (if 0 ≤ x9 then (if x9 < (x0.length : Int) then (if ((rd_T114 x0 x9).f1) = x2 then (if 0 ≤ ((rd_T114 x0 x9).f0) then (if ((rd_T114 x0 x9).f0) < (x1.length : Int) then (if 0 ≤ ((rd_T114 x0 x9).f3) then (if ((rd_T114 x0 x9).f3) < (x3.size : Int) then ((spec_l12Letter.f k (rd_L5 x1 ((rd_T114 x0 x9).f0)) ((rd_T114 x0 x9).f2) (bt x3 ((rd_T114 x0 x9).f3))).bind fun t489 => (if t489 = true then (spec_l12Support.l0 k x0 x1 x2 x3 (wrap64 (x9 + 1))) else (some false))) else (none)) else (none)) else (none)) else (none)) else (spec_l12Support.l0 k x0 x1 x2 x3 (wrap64 (x9 + 1)))) else (none)) else (none))
end
def spec_l12Support.f (k : Nat) (l0 : List (S114)) (l1 : List (List ByteArray)) (a2 : Int) (a3 : ByteArray) : Option (Bool) := spec_l12Support.l0 k l0 l1 a2 a3 0
theorem sp_d0 {w w' : World} (h : Drawn0 w w') : Below w.heap.size w w' := by
  obtain ⟨n, rfl⟩ := h; exact pw_below_drewN (Below.refl _ _) n
theorem spec_l12Support.calls (k : Nat) (A0 : Option Addr) (c0 : Nat) (l0 : List (S114)) (A1 : Option Addr) (c1 : Nat) (l1 : List (List ByteArray)) (a2 : Int) (a3 : ByteArray) (r : Bool) (w : World) (hr0 : Kd.C k114 w A0 l0.length l0) (hc0 : l0.length ≤ c0) (hr1 : Kd.C (Kd.slice 9 Kd.string) w A1 l1.length l1) (hc1 : l1.length ≤ c1) (h : spec_l12Support.f k l0 l1 a2 a3 = some r) :
    Calls Try.prog 111 #[.slice A0 l0.length c0, .slice A1 l1.length c1, .int .i64 a2, .string a3] w fun e w' => e = .returned (.bool r) ∧ Below w.heap.size w w' := by
  have HR0 := Aside0.mk hr0; have HC0 := Aside0.mk hc0; have HR1 := Aside0.mk hr1; have HC1 := Aside0.mk hc1; have H' := Aside0.mk (show spec_l12Support.l0 k l0 l1 a2 a3 0 = some r from h)
  clear hr0 hc0 hr1 hc1 h; go_enter Try.func111, Try.ntmps111
  go_wp2
  go_loopg [9] k (fun kq v9 w' => ∃ x9 : Int, v9 = .int .i64 x9 ∧ Aside0 (spec_l12Support.l0 kq l0 l1 a2 a3 x9 = some r) ∧ Aside0 (kq ≤ k) ∧ Aside0 (Below w.heap.size w w'))
  case atStart => exact ⟨0, rfl, H', ⟨Nat.le_refl _⟩, ⟨by repeat (first | exact Below.refl _ _ | apply below_alloc | apply pw_below_drewN | apply below_drew1)⟩⟩
  case round =>
    clear H'; obtain ⟨x9, rfl, HA, HK1, HB⟩ := hrel
    cases gk with
    | zero => exact absurd HA.out (by simp [spec_l12Support.l0])
    | succ k1 =>
      have H := HA.out; clear HA; simp only [spec_l12Support.l0] at H; by_cases c1 : x9 < (l0.length : Int)
      case neg =>
        rw [if_neg c1] at H
        obtain rfl := Option.some.inj H; have c1b : decide (x9 < (l0.length : Int)) = false := decide_eq_false c1; clear H c1; go_wp2
        go_ret
        exact ⟨rfl, HB.out⟩
      rw [if_pos c1] at H
      by_cases c2 : 0 ≤ x9
      case neg => rw [if_neg c2] at H; cases H
      rw [if_pos c2] at H
      have c1b : decide (x9 < (l0.length : Int)) = true := decide_eq_true c1; obtain ⟨ad, eA, q0, q1, q2, q3, _⟩ := at_T114 HR0.out x9 c2 c1
      cases eA; generalize hx : rd_T114 l0 x9 = x at H q0 q1 q2 q3
      obtain ⟨g0, g1, g2, g3, g4⟩ := x; simp only at H q0 q1 q2 q3
      have HX := Aside0.mk hx; have Q0 := Aside0.mk q0; have Q1 := Aside0.mk q1; have Q2 := Aside0.mk q2; have Q3 := Aside0.mk q3; clear hx q0 q1 q2 q3
      have hb1 : ∃ b1 : Bool, spec_l12Support.j1 k1 l0 l1 a2 a3 x9 b1 = some r ∧ ((g0 = a2 ∧ (0 ≤ g1 ∧ g1 < (l1.length : Int)) ∧ (0 ≤ g2 ∧ g2 < (a3.size : Int)) ∧ ∃ t : Bool, spec_l12Letter.f k1 (rd_L5 l1 g1) g3 (bt a3 g2) = some t ∧ b1 = !t) ∨ (¬ g0 = a2 ∧ b1 = false)) := by
        by_cases e0 : g0 = a2
        case neg => rw [if_neg e0] at H; exact ⟨false, H, .inr ⟨e0, rfl⟩⟩
        rw [if_pos e0] at H
        by_cases p0 : 0 ≤ g1
        case neg => rw [if_neg p0] at H; cases H
        by_cases p1 : g1 < (l1.length : Int)
        case neg => rw [if_pos p0, if_neg p1] at H; cases H
        by_cases p2 : 0 ≤ g2
        case neg => rw [if_pos p0, if_pos p1, if_neg p2] at H; cases H
        by_cases p3 : g2 < (a3.size : Int)
        case neg => rw [if_pos p0, if_pos p1, if_pos p2, if_neg p3] at H; cases H
        rw [if_pos p0, if_pos p1, if_pos p2, if_pos p3] at H
        obtain ⟨t, ht, H⟩ := Option.bind_eq_some_iff.mp H; exact ⟨!t, H, .inl ⟨e0, ⟨p0, p1⟩, ⟨p2, p3⟩, t, ht, rfl⟩⟩
      clear H; obtain ⟨b1, hj1, hb1⟩ := hb1; have HJ1 := Aside0.mk hj1; have HB1 := Aside0.mk hb1; clear hj1 hb1; go_upto_region 4 with fail
      go_cut [46] (fun v46 w' => v46 = .bool b1 ∧ Aside0 (Below w.heap.size w w'))
      case first => as_aux_lemma =>
        rcases HB1.out with ⟨e0, ⟨p0, p1⟩, ⟨p2, p3⟩, t, ht, rfl⟩ | ⟨e0, rfl⟩
        · subst e0
          have e1 : (g0 == g0) = true := by simp
          clear HB1; obtain ⟨adD, A5, c5, eD, qr, hc5, row⟩ := at_L5 HR1.out g1 p0 p1
          cases eD; have QR := Aside0.mk qr; have ROW := Aside0.mk row; have KL := Aside0.mk (fun W hC => spec_l12Letter.calls k1 A5 c5 (rd_L5 l1 g1) g3 (bt a3 g2) t W hC hc5 ht); have hz := bt_at a3 g2 (by omega); have r1 : (0 ≤ x9) = True := eq_true c2; have r2 : (x9 < (l0.length : Int)) = True := eq_true c1; have r3 : (0 ≤ g1) = True := eq_true p0; have r4 : (g1 < (l1.length : Int)) = True := eq_true p1; have r5 : (0 ≤ g2) = True := eq_true p2; have r6 : (g2 < (a3.size : Int)) = True := eq_true p3; have HBd := Aside0.mk (below_drew HB.out); clear HB qr row hc5 ht; have HALL := (⟨pw_cell_below HBd.out Q0.out, pw_cell_below HBd.out Q1.out, pw_cell_below HBd.out Q2.out, pw_cell_below HBd.out Q3.out, pw_cell_below HBd.out QR.out, Aside0.mk (Kd.C_below ROW.out HBd.out), HBd⟩ : _ ∧ _ ∧ _ ∧ _ ∧ _ ∧ _ ∧ _); go_region_held3 (fun w' => w'.cell? (ad.add (x9.toNat * 5)) = some (.int .i64 g0) ∧ w'.cell? ⟨(ad.add (x9.toNat * 5)).block, (ad.add (x9.toNat * 5)).off + 1, none⟩ = some (.int .i64 g1) ∧ w'.cell? ⟨(ad.add (x9.toNat * 5)).block, (ad.add (x9.toNat * 5)).off + 2, none⟩ = some (.int .i64 g2) ∧ w'.cell? ⟨(ad.add (x9.toNat * 5)).block, (ad.add (x9.toNat * 5)).off + 3, none⟩ = some (.int .i64 g3) ∧ w'.cell? (adD.add g1.toNat) = some (.slice A5 (rd_L5 l1 g1).length c5) ∧ Aside0 (Kd.string.C w' A5 (rd_L5 l1 g1).length (rd_L5 l1 g1)) ∧ Aside0 (Below w.heap.size w w')) (first | assumption | (go_split_ands; exact ⟨pw_cell_below hb9 (by assumption), pw_cell_below hb9 (by assumption), pw_cell_below hb9 (by assumption), pw_cell_below hb9 (by assumption), pw_cell_below hb9 (by assumption), ⟨Kd.C_below ‹Aside0 (Kd.C _ _ A5 _ _)›.out hb9⟩, ⟨below_step ‹Aside0 (Below w.heap.size w _)›.out hb9⟩⟩) | exact HALL) (first | (go_split_ands; go_at_call 125; with_reducible refine (KL.out _ ‹Aside0 (Kd.C _ _ A5 _ _)›.out).mono ?_; rintro e wa ⟨rfl, hd9⟩; have hb9 := sp_d0 hd9; clear hd9))
          all_goals (go_wp2_with fail; go_meet; (case rel => (go_split_ands; exact ⟨by simp, ‹Aside0 (Below w.heap.size w _)›⟩)))
        · have e1 : (g0 == a2) = false := beq_eq_false_iff_ne.mpr e0
          clear HB1; have r1 : (0 ≤ x9) = True := eq_true c2; have r2 : (x9 < (l0.length : Int)) = True := eq_true c1; have q_ := pw_cell_below HB.out Q0.out; go_quiet (fail)
          all_goals (go_wp2_with fail; go_meet; (case rel => exact ⟨rfl, ⟨pw_below_drewN HB.out _⟩⟩))
      case rest => as_aux_lemma =>
        obtain ⟨rfl, HB2⟩ := hcut; clear HB HB1; have HB := HB2; clear HB2; have H := HJ1.out; clear HJ1
        cases k1 with
        | zero => exact absurd H (by simp [spec_l12Support.j1])
        | succ k2 =>
          simp only [spec_l12Support.j1] at H
          cases b1 with
          | true =>
            obtain rfl := Option.some.inj (show some false = some r from H); clear H; go_wp2
            go_ret
            exact ⟨rfl, HB.out⟩
          | false =>
            rw [if_neg (by simp), if_pos c2, if_pos c1, HX.out] at H
            simp only at H
            have hb2 : ∃ b2 : Bool, (if b2 = true then some false else spec_l12Support.l0 k2 l0 l1 a2 a3 (wrap64 (x9 + 1))) = some r ∧ ((g1 = a2 ∧ (0 ≤ g0 ∧ g0 < (l1.length : Int)) ∧ (0 ≤ g3 ∧ g3 < (a3.size : Int)) ∧ ∃ t : Bool, spec_l12Letter.f k2 (rd_L5 l1 g0) g2 (bt a3 g3) = some t ∧ b2 = !t) ∨ (¬ g1 = a2 ∧ b2 = false)) := by
              by_cases e0 : g1 = a2
              case neg => rw [if_neg e0] at H; exact ⟨false, by rw [if_neg (by simp)]; exact H, .inr ⟨e0, rfl⟩⟩
              rw [if_pos e0] at H
              by_cases p0 : 0 ≤ g0
              case neg => rw [if_neg p0] at H; cases H
              by_cases p1 : g0 < (l1.length : Int)
              case neg => rw [if_pos p0, if_neg p1] at H; cases H
              by_cases p2 : 0 ≤ g3
              case neg => rw [if_pos p0, if_pos p1, if_neg p2] at H; cases H
              by_cases p3 : g3 < (a3.size : Int)
              case neg => rw [if_pos p0, if_pos p1, if_pos p2, if_neg p3] at H; cases H
              rw [if_pos p0, if_pos p1, if_pos p2, if_pos p3] at H
              obtain ⟨t, ht, H⟩ := Option.bind_eq_some_iff.mp H; refine ⟨!t, ?_, .inl ⟨e0, ⟨p0, p1⟩, ⟨p2, p3⟩, t, ht, rfl⟩⟩
              cases t with
              | true => exact H
              | false => exact H
            clear H; obtain ⟨b2, hj2, hb2⟩ := hb2; have HN := Aside0.mk hj2; have HB1 := Aside0.mk hb2; clear hj2 hb2 HX; go_upto_region 6 with fail
            go_cut [77] (fun v77 w' => v77 = .bool b2 ∧ Aside0 (Below w.heap.size w w'))
            case first => as_aux_lemma =>
              rcases HB1.out with ⟨e0, ⟨p0, p1⟩, ⟨p2, p3⟩, t, ht, rfl⟩ | ⟨e0, rfl⟩
              · subst e0
                have e1 : (g1 == g1) = true := by simp
                clear HB1; obtain ⟨adD, A5, c5, eD, qr, hc5, row⟩ := at_L5 HR1.out g0 p0 p1
                cases eD; have QR := Aside0.mk qr; have ROW := Aside0.mk row; have KL := Aside0.mk (fun W hC => spec_l12Letter.calls k2 A5 c5 (rd_L5 l1 g0) g2 (bt a3 g3) t W hC hc5 ht); have hz := bt_at a3 g3 (by omega); have r1 : (0 ≤ x9) = True := eq_true c2; have r2 : (x9 < (l0.length : Int)) = True := eq_true c1; have r3 : (0 ≤ g0) = True := eq_true p0; have r4 : (g0 < (l1.length : Int)) = True := eq_true p1; have r5 : (0 ≤ g3) = True := eq_true p2; have r6 : (g3 < (a3.size : Int)) = True := eq_true p3; have HBd := Aside0.mk (below_drew HB.out); clear HB qr row hc5 ht; have HALL := (⟨pw_cell_below HBd.out Q0.out, pw_cell_below HBd.out Q1.out, pw_cell_below HBd.out Q2.out, pw_cell_below HBd.out Q3.out, pw_cell_below HBd.out QR.out, Aside0.mk (Kd.C_below ROW.out HBd.out), HBd⟩ : _ ∧ _ ∧ _ ∧ _ ∧ _ ∧ _ ∧ _); go_region_held3 (fun w' => w'.cell? (ad.add (x9.toNat * 5)) = some (.int .i64 g0) ∧ w'.cell? ⟨(ad.add (x9.toNat * 5)).block, (ad.add (x9.toNat * 5)).off + 1, none⟩ = some (.int .i64 g1) ∧ w'.cell? ⟨(ad.add (x9.toNat * 5)).block, (ad.add (x9.toNat * 5)).off + 2, none⟩ = some (.int .i64 g2) ∧ w'.cell? ⟨(ad.add (x9.toNat * 5)).block, (ad.add (x9.toNat * 5)).off + 3, none⟩ = some (.int .i64 g3) ∧ w'.cell? (adD.add g0.toNat) = some (.slice A5 (rd_L5 l1 g0).length c5) ∧ Aside0 (Kd.string.C w' A5 (rd_L5 l1 g0).length (rd_L5 l1 g0)) ∧ Aside0 (Below w.heap.size w w')) (first | assumption | (go_split_ands; exact ⟨pw_cell_below hb9 (by assumption), pw_cell_below hb9 (by assumption), pw_cell_below hb9 (by assumption), pw_cell_below hb9 (by assumption), pw_cell_below hb9 (by assumption), ⟨Kd.C_below ‹Aside0 (Kd.C _ _ A5 _ _)›.out hb9⟩, ⟨below_step ‹Aside0 (Below w.heap.size w _)›.out hb9⟩⟩) | exact HALL) (first | (go_split_ands; go_at_call 125; with_reducible refine (KL.out _ ‹Aside0 (Kd.C _ _ A5 _ _)›.out).mono ?_; rintro e wa ⟨rfl, hd9⟩; have hb9 := sp_d0 hd9; clear hd9))
                all_goals (go_wp2_with fail; go_meet; (case rel => (go_split_ands; exact ⟨by simp, ‹Aside0 (Below w.heap.size w _)›⟩)))
              · have e1 : (g1 == a2) = false := beq_eq_false_iff_ne.mpr e0
                clear HB1; have r1 : (0 ≤ x9) = True := eq_true c2; have r2 : (x9 < (l0.length : Int)) = True := eq_true c1; have q_ := pw_cell_below HB.out Q1.out; go_quiet (fail)
                all_goals (go_wp2_with fail; go_meet; (case rel => exact ⟨rfl, ⟨pw_below_drewN HB.out _⟩⟩))
            case rest => as_aux_lemma =>
              obtain ⟨rfl, HB2⟩ := hcut
              cases b2 with
              | true =>
                obtain rfl := Option.some.inj (show some false = some r from HN.out); go_wp2
                go_ret
                exact ⟨rfl, HB2.out⟩
              | false =>
                have HN2 := Aside0.mk (show spec_l12Support.l0 k2 l0 l1 a2 a3 (wrap64 (x9 + 1)) = some r from HN.out); clear HN; go_wp2
                go_roundg k2
                case measure => have := HK1.out; omega
                case rel => exact ⟨wrap64 (x9 + 1), by first | rfl | (simp; done), HN2, ⟨by have := HK1.out; omega⟩, HB2⟩


end Go.Proofs.Ytodcckiphdnjeaa.QFnPruned
