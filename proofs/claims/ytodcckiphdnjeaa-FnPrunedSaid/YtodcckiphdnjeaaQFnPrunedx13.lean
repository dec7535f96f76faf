-- Written by a changed copy of the kit's printer (wip/mp.py of this repo), for this claim; Lean checks it.
import Derived.Test.YtodcckiphdnjeaaQFnPrunedx0
import Derived.Test.YtodcckiphdnjeaaQFnPrunedx7
import Derived.Test.YtodcckiphdnjeaaQFnPrunedx8
import Derived.Test.YtodcckiphdnjeaaQFnPrunedx12
namespace Go.Proofs.Ytodcckiphdnjeaa.QFnPruned
open Go.RowKit Go.Proofs.YtodcckiphdnjeaaW.PrintWords Go.Proofs.YtodcckiphdnjeaaW.PrintLast Go.Proofs.YtodcckiphdnjeaaW.PrintMore
attribute [local go_sem] max2_int min2_int max_two min_two max_three min_three max_four min_four   -- for this text's walks alone
set_option linter.unusedVariables false
set_option maxHeartbeats 8000000
set_option maxRecDepth 100000
set_option linter.unusedSimpArgs false

theorem z13_0 {p : Prop} (h : p := by repeat (first | (with_reducible first | exact HB.out | apply below_alloc | apply pw_below_drewN | apply below_drew1 | refine below_set ?_ GE255.out | refine below_set ?_ GE256.out) | exact HB.out)) : p := h
theorem z13_3 {p : Prop} (h : p := by repeat (first | (with_reducible first | exact HB.out | apply below_alloc | apply pw_below_drewN | apply below_drew1 | refine below_set ?_ GE253.out) | exact HB.out)) : p := h
theorem z13_5 {p : Prop} (h : p := by (with_reducible repeat (first | refine blk_drewN ?_ _ | refine blk_drew ?_ | refine blk_alloc ?_ _)); refine blk_put (cs := #[.int .i64 0, .int .i64 0, .string (⟨#[]⟩ : ByteArray)]) ?_ 2 _ rfl; (with_reducible repeat (first | refine blk_drewN ?_ _ | refine blk_drew ?_ | refine blk_alloc ?_ _)); refine blk_put (cs := #[.int .i64 0, .int .i64 0, .string (⟨#[]⟩ : ByteArray)]) ?_ 1 _ rfl; (with_reducible repeat (first | refine blk_drewN ?_ _ | refine blk_drew ?_ | refine blk_alloc ?_ _)); refine blk_put (cs := #[.int .i64 0, .int .i64 0, .string (⟨#[]⟩ : ByteArray)]) ?_ 0 _ rfl; (with_reducible repeat (first | refine blk_drewN ?_ _ | refine blk_drew ?_ | refine blk_alloc ?_ _)); exact BK255.out) : p := h
theorem z13_11 {p : Prop} (h : p := by (with_reducible repeat (first | refine blk_drewN ?_ _ | refine blk_drew ?_ | refine blk_alloc ?_ _)); exact BK253.out) : p := h
/-! ### spec_l1Below: function 97 -/
def spec_l1Below.f (s0_0 : List Int) (s0_1 : Int) (s0_2 : Int) (a1 : Int) : Option (Int × Int × Int) := if a1 ≤ 0 then (some (0, s0_1, s0_2)) else (if a1 ≤ 256 then ((spec_l1Byte.f s0_0 s0_1 s0_2).bind fun bt238 => (if a1 = 0 then (none) else (some (Int.tmod bt238.1 a1, bt238.2.1, bt238.2.2)))) else ((spec_l1Byte.f s0_0 s0_1 s0_2).bind fun bt241 => ((spec_l1Byte.f s0_0 bt241.2.1 bt241.2.2).bind fun bt244 => ((spec_l1Byte.f s0_0 bt244.2.1 bt244.2.2).bind fun bt247 => (if a1 = 0 then (none) else (some (Int.tmod (wrap64 ((wrap64 ((wrap64 (bt241.1 * 65536)) + (wrap64 (bt244.1 * 256)))) + bt247.1)) a1, bt247.2.1, bt247.2.2)))))))
theorem spec_l1Below.calls (g : Nat) (s0_0 : List Int) (s0_1 : Int) (s0_2 : Int) (a1 : Int) (r1 : Int) (r2 : Int) (r3 : Int) (w0 w : World) (hI : IsS103 w0 w g s0_0 s0_1 s0_2) (hB : Below w0.heap.size w0 w) (h : spec_l1Below.f s0_0 s0_1 s0_2 a1 = some (r1, r2, r3)) :
   Calls Try.prog 97 #[.pointer (some ⟨g, 0, none⟩), .int .i64 a1] w fun e w' => e = .returned (.int .i64 r1) ∧ IsS103 w0 w' g s0_0 r2 r3 ∧ Below w0.heap.size w0 w' ∧ KeepBut w w' g none := by
  have HI0 := Aside0.mk hI; have HK := Aside0.mk (KeepBut.refl w g none); have HL := Aside0.mk hB.size; clear hI; have HW0 := Aside0.mk hB.size; have HB := Aside0.mk hB; clear hB; have H : (if a1 ≤ 0 then (some (0, s0_1, s0_2)) else (if a1 ≤ 256 then ((spec_l1Byte.f s0_0 s0_1 s0_2).bind fun bt238 => (if a1 = 0 then (none) else (some (Int.tmod bt238.1 a1, bt238.2.1, bt238.2.2)))) else ((spec_l1Byte.f s0_0 s0_1 s0_2).bind fun bt241 => ((spec_l1Byte.f s0_0 bt241.2.1 bt241.2.2).bind fun bt244 => ((spec_l1Byte.f s0_0 bt244.2.1 bt244.2.2).bind fun bt247 => (if a1 = 0 then (none) else (some (Int.tmod (wrap64 ((wrap64 ((wrap64 (bt241.1 * 65536)) + (wrap64 (bt244.1 * 256)))) + bt247.1)) a1, bt247.2.1, bt247.2.2)))))))) = some (r1, r2, r3) := h; clear h; by_cases c3 : a1 ≤ 0
  ·rw [if_pos c3] at H
   have c3b0 := decide_eq_true c3; clear c3; simp only [Option.some.injEq, Prod.mk.injEq] at H; obtain ⟨rfl, rfl, rfl⟩ := H; go_enter Try.func97, Try.ntmps97
   go_wp2
   go_ret
   exact ⟨z_g13, z_g14, z_g15, z_g12⟩
  ·rw [if_neg c3] at H
   have c3b0 := decide_eq_false c3; clear c3; by_cases c4 : a1 ≤ 256
   ·rw [if_pos c4] at H
    have c4b0 := decide_eq_true c4; clear c4; replace H := Option.bind_eq_some_iff.mp H; obtain ⟨⟨t238, t239, t240⟩, A50, H⟩ := H; try dsimp only at H
    have A5 := Aside0.mk A50; clear A50; by_cases c6 : a1 = 0
    ·rw [if_pos c6] at H
     exact absurd H (by simp)
    ·rw [if_neg c6] at H
     have c6b0 : (a1 == 0) = false := beq_eq_false_iff_ne.mpr c6; have c6b1 : (a1 != 0) = true := bne_iff_ne.mpr c6; simp only [Option.some.injEq, Prod.mk.injEq] at H; obtain ⟨rfl, rfl, rfl⟩ := H; go_enter Try.func97, Try.ntmps97
     go_wp2_with (first | ((with_reducible refine gate_callee (f := 118) rfl ?_); refine goesL_ (some 13) rfl rfl Try.func118 (by kernel_rfl) rfl #[.pointer (some ⟨g, 0, none⟩)] rfl z_g9 ?_; (with_reducible refine (spec_l1Byte.calls g s0_0 s0_1 s0_2 t238 t239 t240 w0 _ ?side1 ?side2 A5.out).mono ?_); (case side1 => exact z_g14); (case side2 => exact z_g15); rintro e w7 ⟨rfl, hi, hb, hk⟩; refine ⟨_, rfl, ?_⟩; replace HK := Aside0.mk (KeepBut.trans z_g12 hk (.inl rfl)); replace HB := Aside0.mk (hb); replace HI0 := Aside0.mk (hi); (try clear hb)))
     go_ret
     exact ⟨z_g13, z_g14, z_g15, z_g12⟩
   ·rw [if_neg c4] at H
    have c4b0 := decide_eq_false c4; clear c4; replace H := Option.bind_eq_some_iff.mp H; obtain ⟨⟨t241, t242, t243⟩, A80, H⟩ := H; try dsimp only at H
    have A8 := Aside0.mk A80; clear A80; replace H := Option.bind_eq_some_iff.mp H; obtain ⟨⟨t244, t245, t246⟩, A90, H⟩ := H; try dsimp only at H
    have A9 := Aside0.mk A90; clear A90; replace H := Option.bind_eq_some_iff.mp H; obtain ⟨⟨t247, t248, t249⟩, A100, H⟩ := H; try dsimp only at H
    have A10 := Aside0.mk A100; clear A100; by_cases c11 : a1 = 0
    ·rw [if_pos c11] at H
     exact absurd H (by simp)
    ·rw [if_neg c11] at H
     have c11b0 : (a1 == 0) = false := beq_eq_false_iff_ne.mpr c11; have c11b1 : (a1 != 0) = true := bne_iff_ne.mpr c11; simp only [Option.some.injEq, Prod.mk.injEq] at H; obtain ⟨rfl, rfl, rfl⟩ := H; go_enter Try.func97, Try.ntmps97
     go_wp2_with (first | ((with_reducible refine gate_callee (f := 118) rfl ?_); refine goesL_ (some 17) rfl rfl Try.func118 (by kernel_rfl) rfl #[.pointer (some ⟨g, 0, none⟩)] rfl z_g9 ?_; (with_reducible refine (spec_l1Byte.calls g s0_0 s0_1 s0_2 t241 t242 t243 w0 _ ?side1 ?side2 A8.out).mono ?_); (case side1 => exact z_g14); (case side2 => exact z_g15); rintro e w12 ⟨rfl, hi, hb, hk⟩; refine ⟨_, rfl, ?_⟩; replace HK := Aside0.mk (KeepBut.trans z_g12 hk (.inl rfl)); replace HB := Aside0.mk (hb); replace HI0 := Aside0.mk (hi); (try clear hb)) | ((with_reducible refine gate_callee (f := 118) rfl ?_); refine goesL_ (some 19) rfl rfl Try.func118 (by kernel_rfl) rfl #[.pointer (some ⟨g, 0, none⟩)] rfl z_g9 ?_; (with_reducible refine (spec_l1Byte.calls g s0_0 t242 t243 t244 t245 t246 w0 _ ?side1 ?side2 A9.out).mono ?_); (case side1 => exact z_g14); (case side2 => exact z_g15); rintro e w13 ⟨rfl, hi, hb, hk⟩; refine ⟨_, rfl, ?_⟩; replace HK := Aside0.mk (KeepBut.trans z_g12 hk (.inl rfl)); replace HB := Aside0.mk (hb); replace HI0 := Aside0.mk (hi); (try clear hb)) | ((with_reducible refine gate_callee (f := 118) rfl ?_); refine goesL_ (some 21) rfl rfl Try.func118 (by kernel_rfl) rfl #[.pointer (some ⟨g, 0, none⟩)] rfl z_g9 ?_; (with_reducible refine (spec_l1Byte.calls g s0_0 t245 t246 t247 t248 t249 w0 _ ?side1 ?side2 A10.out).mono ?_); (case side1 => exact z_g14); (case side2 => exact z_g15); rintro e w14 ⟨rfl, hi, hb, hk⟩; refine ⟨_, rfl, ?_⟩; replace HK := Aside0.mk (KeepBut.trans z_g12 hk (.inl rfl)); replace HB := Aside0.mk (hb); replace HI0 := Aside0.mk (hi); (try clear hb)))
     go_ret
     exact ⟨z_g13, z_g14, z_g15, z_g12⟩

/-! ### spec_l1Once: function 74 -/
def spec_l1Once.f (s0_0 : List Int) (s0_1 : Int) (s0_2 : Int) (a1 : Int) : Option (Bool × Int × Int) := (spec_l1Below.f s0_0 s0_1 s0_2 a1).bind fun bt250 => (some ((bt250.1 == 0), bt250.2.1, bt250.2.2))
theorem spec_l1Once.calls (g : Nat) (s0_0 : List Int) (s0_1 : Int) (s0_2 : Int) (a1 : Int) (r1 : Bool) (r2 : Int) (r3 : Int) (w0 w : World) (hI : IsS103 w0 w g s0_0 s0_1 s0_2) (hB : Below w0.heap.size w0 w) (h : spec_l1Once.f s0_0 s0_1 s0_2 a1 = some (r1, r2, r3)) :
   Calls Try.prog 74 #[.pointer (some ⟨g, 0, none⟩), .int .i64 a1] w fun e w' => e = .returned (.bool r1) ∧ IsS103 w0 w' g s0_0 r2 r3 ∧ Below w0.heap.size w0 w' ∧ KeepBut w w' g none := by
  have HI0 := Aside0.mk hI; have HK := Aside0.mk (KeepBut.refl w g none); have HL := Aside0.mk hB.size; clear hI; have HW0 := Aside0.mk hB.size; have HB := Aside0.mk hB; clear hB; have H : ((spec_l1Below.f s0_0 s0_1 s0_2 a1).bind fun bt250 => (some ((bt250.1 == 0), bt250.2.1, bt250.2.2))) = some (r1, r2, r3) := h; clear h; replace H := Option.bind_eq_some_iff.mp H; obtain ⟨⟨t250, t251, t252⟩, A30, H⟩ := H; try dsimp only at H
  have A3 := Aside0.mk A30; clear A30; simp only [Option.some.injEq, Prod.mk.injEq] at H; obtain ⟨rfl, rfl, rfl⟩ := H; go_enter Try.func74, Try.ntmps74
  go_wp2_with (first | ((with_reducible refine gate_callee (f := 97) rfl ?_); refine goesL_ (some 7) rfl rfl Try.func97 (by kernel_rfl) rfl #[.pointer (some ⟨g, 0, none⟩), .int .i64 a1] rfl z_g9 ?_; (with_reducible refine (spec_l1Below.calls g s0_0 s0_1 s0_2 a1 t250 t251 t252 w0 _ ?side1 ?side2 A3.out).mono ?_); (case side1 => exact z_g14); (case side2 => exact z_g15); rintro e w4 ⟨rfl, hi, hb, hk⟩; refine ⟨_, rfl, ?_⟩; replace HK := Aside0.mk (KeepBut.trans z_g12 hk (.inl rfl)); replace HB := Aside0.mk (hb); replace HI0 := Aside0.mk (hi); (try clear hb)))
  go_ret
  exact ⟨z_g13, z_g14, z_g15, z_g12⟩

/-! ### spec_GridText: function 117 -/
mutual
def spec_GridText.l0 : Nat → ByteArray → Int → Int → Int → ByteArray → Option (ByteArray)
  | 0, _, _, _, _, _ => none
  | k + 1, x3, x4, x254000, x254001, x254002 => if x4 < x254000 then ((spec_IsGrid.f k x254000 x254001 x254002).bind fun t254 => (spec_GridText.j1 k x3 x4 t254 x254000 x254001 x254002)) else (spec_GridText.j1 k x3 x4 false x254000 x254001 x254002)
def spec_GridText.j1 : Nat → ByteArray → Int → Bool → Int → Int → ByteArray → Option (ByteArray)
  | 0, _, _, _, _, _, _ => none
  | k + 1, x3, x4, x12, x254000, x254001, x254002 => if x12 = true then (if x4 > 0 then (if x3.size + 1 ≤ 9223372036854775807 then (if 0 ≤ (wrap64 (x4 * x254001)) then (if (wrap64 (x4 * x254001)) ≤ (wrap64 ((wrap64 (x4 + 1)) * x254001)) then (if (wrap64 ((wrap64 (x4 + 1)) * x254001)) ≤ (x254002.size : Int) then (if (x3 ++ (⟨#[47]⟩ : ByteArray)).size + (x254002.extract ((wrap64 (x4 * x254001)) : Int).toNat ((wrap64 ((wrap64 (x4 + 1)) * x254001)) : Int).toNat).size ≤ 9223372036854775807 then (spec_GridText.l0 k ((x3 ++ (⟨#[47]⟩ : ByteArray)) ++ (x254002.extract ((wrap64 (x4 * x254001)) : Int).toNat ((wrap64 ((wrap64 (x4 + 1)) * x254001)) : Int).toNat)) (wrap64 (x4 + 1)) x254000 x254001 x254002) else (none)) else (none)) else (none)) else (none)) else (none)) else (if 0 ≤ (wrap64 (x4 * x254001)) then (if (wrap64 (x4 * x254001)) ≤ (wrap64 ((wrap64 (x4 + 1)) * x254001)) then (if (wrap64 ((wrap64 (x4 + 1)) * x254001)) ≤ (x254002.size : Int) then (if x3.size + (x254002.extract ((wrap64 (x4 * x254001)) : Int).toNat ((wrap64 ((wrap64 (x4 + 1)) * x254001)) : Int).toNat).size ≤ 9223372036854775807 then (spec_GridText.l0 k (x3 ++ (x254002.extract ((wrap64 (x4 * x254001)) : Int).toNat ((wrap64 ((wrap64 (x4 + 1)) * x254001)) : Int).toNat)) (wrap64 (x4 + 1)) x254000 x254001 x254002) else (none)) else (none)) else (none)) else (none))) else (some x3)
end
def spec_GridText.f (k : Nat) (a0_0 : Int) (a0_1 : Int) (a0_2 : ByteArray) : Option (ByteArray) := spec_GridText.l0 k (⟨#[]⟩ : ByteArray) 0 a0_0 a0_1 a0_2
theorem spec_GridText.calls (k : Nat) (a0_0 : Int) (a0_1 : Int) (a0_2 : ByteArray) (r : ByteArray) (w : World) (h : spec_GridText.f k a0_0 a0_1 a0_2 = some r) :
   Calls Try.prog 117 #[.agg #[.int .i64 a0_0, .int .i64 a0_1, .string a0_2]] w fun e w' => e = .returned (.string r) ∧ Below w.heap.size w w' := by
  have hu28 := Try.underlying28; have HB := Aside0.mk (Below.refl w.heap.size w); have H : (spec_GridText.l0 k (⟨#[]⟩ : ByteArray) 0 a0_0 a0_1 a0_2) = some r := h; clear h; have H' := Aside0.mk H
  clear H; go_enter Try.func117, Try.ntmps117
  go_wp2_with (first | ((with_reducible refine gate_dst (N := 1) rfl ?_); refine box_event ?hg (N := 1) ?hd (cs := #[.int .i64 a0_0, .int .i64 a0_1, .string a0_2]) (t := 28) ?hr ?_; (case hd => rfl); (case hg => rfl); (case hr => first | (go_simp; done) | (go_simp; rfl)); intro gb253 hg w2 hbox hb; have BK253 := Aside0.mk (hbox); have GW253 := Aside0.mk ((by rw [hg]; exact (below_size z_g4) : w.heap.size ≤ gb253)); have GE253 := Aside0.mk ((by rw [hg]; exact (below_size z_g4) : w.heap.size ≤ gb253)); replace HB := Aside0.mk (below_step z_g4 hb); clear hb hbox hg))
  go_loopg [3, 4] k (fun kq v3 v4 w' => ∃ (x3_1 : ByteArray) (x4_1 : Int), v3 = .string x3_1 ∧ v4 = .int .i64 x4_1 ∧ Aside0 (spec_GridText.l0 kq x3_1 x4_1 a0_0 a0_1 a0_2 = some r) ∧ Aside0 (kq ≤ k) ∧ Aside0 (w'.heap[gb253]? = some (.cells #[.int .i64 a0_0, .int .i64 a0_1, .string a0_2] 28 (0, 0))) ∧ Aside0 (Below w.heap.size w w'))
  case atStart => exact ⟨((⟨#[]⟩ : ByteArray)), (0), z_g2, z_g2, H', ⟨Nat.le_refl _⟩, ⟨z13_11⟩, ⟨z13_3⟩⟩
  case round =>
   clear H'; try clear c1
   try clear p2
   obtain ⟨x3_1, x4_1, rfl, rfl, HA, HK1, BK253, HB⟩ := hrel
   cases gk with
   | zero => exact absurd HA.out (by simp [spec_GridText.l0])
   | succ k1 =>
    have H := HA.out; clear HA; simp only [spec_GridText.l0] at H; have HC3 := Aside0.mk H; clear H; go_upto_region 3 with (fail)
    go_cut [12] (fun v12 wc => ∃ (kq : Nat) (x12_2 : Bool), v12 = .bool x12_2 ∧ Aside0 (spec_GridText.j1 kq x3_1 x4_1 x12_2 a0_0 a0_1 a0_2 = some r) ∧ Aside0 (kq ≤ k1) ∧ Aside0 (wc.heap[gb253]? = some (.cells #[.int .i64 a0_0, .int .i64 a0_1, .string a0_2] 28 (0, 0))) ∧ Aside0 (Below w.heap.size w wc))
    case first =>
     have H := HC3.out; clear HC3; by_cases c4 : x4_1 < a0_0
     ·rw [if_pos c4] at H
      have c4b0 := decide_eq_true c4; clear c4; (first | rw [c4b0] | (simp only [i64_w, i32_w]; rw [c4b0]) | skip)
      replace H := Option.bind_eq_some_iff.mp H; obtain ⟨t254, A50, H⟩ := H; try dsimp only at H
      have A5 := Aside0.mk A50; clear A50; have H' := Aside0.mk H
      clear H; obtain ⟨hcz6_0, hcz6_1, hcz6_2, hfz6_0, hfz6_1, hfz6_2⟩ := bc3_g0 BK253.out; go_wp2_with (first | (go_at_call 80; (with_reducible refine (spec_IsGrid.calls k1 a0_0 a0_1 a0_2 t254 _ A5.out).mono ?_); rintro e w7 ⟨rfl, hb⟩; replace BK253 := Aside0.mk (blk_below (g := gb253) (o := .cells #[.int .i64 a0_0, .int .i64 a0_1, .string a0_2] 28 (0, 0)) (bd_g7 BK253.out) hb); replace HB := Aside0.mk (below_step z13_3 hb); (try clear hb)))
      go_meet
      case rel => exact ⟨_, (t254), z_g2, H', ⟨by have := HK1.out; first | omega | exact Nat.le_refl _⟩, ⟨z13_11⟩, ⟨z13_3⟩⟩
     ·rw [if_neg c4] at H
      have c4b0 := decide_eq_false c4; clear c4; (first | rw [c4b0] | (simp only [i64_w, i32_w]; rw [c4b0]) | skip)
      have H' := Aside0.mk H
      clear H; obtain ⟨hcz8_0, hcz8_1, hcz8_2, hfz8_0, hfz8_1, hfz8_2⟩ := bc3_g0 BK253.out; go_wp2
      go_meet
      case rel => exact ⟨_, (false), z_g2, H', ⟨by have := HK1.out; first | omega | exact Nat.le_refl _⟩, ⟨z13_11⟩, ⟨z13_3⟩⟩
    case rest =>
     clear HC3; try clear c1
     try clear p2
     try clear c4
     try clear c4b0
     try clear hcz6_0 hcz6_1 hcz6_2
     try clear hcz8_0 hcz8_1 hcz8_2
     try clear hfz6_0 hfz6_1 hfz6_2
     try clear hfz8_0 hfz8_1 hfz8_2
     try clear p2
     obtain ⟨kq, x12_2, rfl, HA, HJ2, BK253, HB⟩ := hcut
     cases kq with
     | zero => exact absurd HA.out (by simp [spec_GridText.j1])
     | succ kj2 =>
      have H := HA.out; clear HA; simp only [spec_GridText.j1] at H; by_cases c9 : x12_2 = true
      ·subst c9; rw [if_pos rfl] at H
       by_cases c10 : x4_1 > 0
       ·rw [if_pos c10] at H
        have c10b0 := decide_eq_true c10; clear c10; by_cases c11 : x3_1.size + 1 ≤ 9223372036854775807
        ·rw [if_pos c11] at H
         have c11b0 := eq_true c11; have c11b1 : decide (x3_1.size + 1 ≤ 9223372036854775807) = true := decide_eq_true c11; try have c11b2 : (9223372036854775807 < x3_1.size + 1) = False := eq_false (Nat.not_lt.2 c11)
         obtain ⟨ji12, hji12⟩ : ∃ j_ : Int, (wrap64 (x4_1 * a0_1)) = j_ := ⟨_, rfl⟩; replace H : (if 0 ≤ (ji12) then (if (ji12) ≤ (wrap64 ((wrap64 (x4_1 + 1)) * a0_1)) then (if (wrap64 ((wrap64 (x4_1 + 1)) * a0_1)) ≤ (a0_2.size : Int) then (if (x3_1 ++ (⟨#[47]⟩ : ByteArray)).size + (a0_2.extract ((ji12) : Int).toNat ((wrap64 ((wrap64 (x4_1 + 1)) * a0_1)) : Int).toNat).size ≤ 9223372036854775807 then (spec_GridText.l0 kj2 ((x3_1 ++ (⟨#[47]⟩ : ByteArray)) ++ (a0_2.extract ((ji12) : Int).toNat ((wrap64 ((wrap64 (x4_1 + 1)) * a0_1)) : Int).toNat)) (wrap64 (x4_1 + 1)) a0_0 a0_1 a0_2) else (none)) else (none)) else (none)) else (none)) = some r := by first | (rw [hji12] at H; exact H) | (simp only [hji12] at H ⊢; exact H)
         have hji12w : (IntKind.i64.wrap (x4_1 * a0_1)) = ji12 := (i64_w _).trans hji12; by_cases c13 : 0 ≤ (ji12)
         ·rw [if_pos c13] at H
          have c13b0 := eq_true c13; have c13b1 : decide (0 ≤ (ji12)) = true := decide_eq_true c13; clear c13; by_cases c14 : (ji12) ≤ (wrap64 ((wrap64 (x4_1 + 1)) * a0_1))
          ·rw [if_pos c14] at H
           have c14b0 := eq_true c14; have c14b1 : decide ((ji12) ≤ (wrap64 ((wrap64 (x4_1 + 1)) * a0_1))) = true := decide_eq_true c14; by_cases c15 : (wrap64 ((wrap64 (x4_1 + 1)) * a0_1)) ≤ (a0_2.size : Int)
           ·rw [if_pos c15] at H
            have c15b0 := eq_true c15; have c15b1 : decide ((wrap64 ((wrap64 (x4_1 + 1)) * a0_1)) ≤ (a0_2.size : Int)) = true := decide_eq_true c15; by_cases c16 : (x3_1 ++ (⟨#[47]⟩ : ByteArray)).size + (a0_2.extract ((ji12) : Int).toNat ((wrap64 ((wrap64 (x4_1 + 1)) * a0_1)) : Int).toNat).size ≤ 9223372036854775807
            ·rw [if_pos c16] at H
             have c16b0 := eq_true c16; have c16b1 : decide ((x3_1 ++ (⟨#[47]⟩ : ByteArray)).size + (a0_2.extract ((ji12) : Int).toNat ((wrap64 ((wrap64 (x4_1 + 1)) * a0_1)) : Int).toNat).size ≤ 9223372036854775807) = true := decide_eq_true c16; try have c16b2 : (9223372036854775807 < (x3_1 ++ (⟨#[47]⟩ : ByteArray)).size + (a0_2.extract ((ji12) : Int).toNat ((wrap64 ((wrap64 (x4_1 + 1)) * a0_1)) : Int).toNat).size) = False := eq_false (Nat.not_lt.2 c16)
             try have c16b3 : (9223372036854775807 < x3_1.size + (⟨#[47]⟩ : ByteArray).size + ((wrap64 ((wrap64 (x4_1 + 1)) * a0_1)).toNat - ji12.toNat)) = False := eq_false (by have q0_ : (wrap64 ((wrap64 (x4_1 + 1)) * a0_1) : Int) ≤ (a0_2.size : Int) := of_decide_eq_true z_g1; have h_ := c16; simp only [ByteArray.size_append, ByteArray.size_extract] at h_; omega)
             have H' := Aside0.mk H
             clear H; obtain ⟨hcz17_0, hcz17_1, hcz17_2, hfz17_0, hfz17_1, hfz17_2⟩ := bc3_g0 BK253.out; go_wp2
             go_roundg kj2
             case measure => have := HK1.out; have := HJ2.out; omega
             case rel => exact ⟨((x3_1 ++ (⟨#[47]⟩ : ByteArray)) ++ (a0_2.extract ((ji12) : Int).toNat ((wrap64 ((wrap64 (x4_1 + 1)) * a0_1)) : Int).toNat)), (wrap64 (x4_1 + 1)), (by first | rfl | (simp; done) | (simp only [← hji12] <;> (first | rfl | simp)) | (simp [*]; done)), z_g2, H', ⟨by have := HK1.out; have := HJ2.out; omega⟩, ⟨z13_11⟩, ⟨z13_3⟩⟩
            ·rw [if_neg c16] at H
             exact absurd H (by simp)
           ·rw [if_neg c15] at H
            exact absurd H (by simp)
          ·rw [if_neg c14] at H
           exact absurd H (by simp)
         ·rw [if_neg c13] at H
          exact absurd H (by simp)
        ·rw [if_neg c11] at H
         exact absurd H (by simp)
       ·rw [if_neg c10] at H
        have c10b0 := decide_eq_false c10; clear c10; obtain ⟨ji18, hji18⟩ : ∃ j_ : Int, (wrap64 (x4_1 * a0_1)) = j_ := ⟨_, rfl⟩; replace H : (if 0 ≤ (ji18) then (if (ji18) ≤ (wrap64 ((wrap64 (x4_1 + 1)) * a0_1)) then (if (wrap64 ((wrap64 (x4_1 + 1)) * a0_1)) ≤ (a0_2.size : Int) then (if x3_1.size + (a0_2.extract ((ji18) : Int).toNat ((wrap64 ((wrap64 (x4_1 + 1)) * a0_1)) : Int).toNat).size ≤ 9223372036854775807 then (spec_GridText.l0 kj2 (x3_1 ++ (a0_2.extract ((ji18) : Int).toNat ((wrap64 ((wrap64 (x4_1 + 1)) * a0_1)) : Int).toNat)) (wrap64 (x4_1 + 1)) a0_0 a0_1 a0_2) else (none)) else (none)) else (none)) else (none)) = some r := by first | (rw [hji18] at H; exact H) | (simp only [hji18] at H ⊢; exact H)
        have hji18w : (IntKind.i64.wrap (x4_1 * a0_1)) = ji18 := (i64_w _).trans hji18; by_cases c19 : 0 ≤ (ji18)
        ·rw [if_pos c19] at H
         have c19b0 := eq_true c19; have c19b1 : decide (0 ≤ (ji18)) = true := decide_eq_true c19; clear c19; by_cases c20 : (ji18) ≤ (wrap64 ((wrap64 (x4_1 + 1)) * a0_1))
         ·rw [if_pos c20] at H
          have c20b0 := eq_true c20; have c20b1 : decide ((ji18) ≤ (wrap64 ((wrap64 (x4_1 + 1)) * a0_1))) = true := decide_eq_true c20; by_cases c21 : (wrap64 ((wrap64 (x4_1 + 1)) * a0_1)) ≤ (a0_2.size : Int)
          ·rw [if_pos c21] at H
           have c21b0 := eq_true c21; have c21b1 : decide ((wrap64 ((wrap64 (x4_1 + 1)) * a0_1)) ≤ (a0_2.size : Int)) = true := decide_eq_true c21; by_cases c22 : x3_1.size + (a0_2.extract ((ji18) : Int).toNat ((wrap64 ((wrap64 (x4_1 + 1)) * a0_1)) : Int).toNat).size ≤ 9223372036854775807
           ·rw [if_pos c22] at H
            have c22b0 := eq_true c22; have c22b1 : decide (x3_1.size + (a0_2.extract ((ji18) : Int).toNat ((wrap64 ((wrap64 (x4_1 + 1)) * a0_1)) : Int).toNat).size ≤ 9223372036854775807) = true := decide_eq_true c22; try have c22b2 : (9223372036854775807 < x3_1.size + (a0_2.extract ((ji18) : Int).toNat ((wrap64 ((wrap64 (x4_1 + 1)) * a0_1)) : Int).toNat).size) = False := eq_false (Nat.not_lt.2 c22)
            try have c22b3 : (9223372036854775807 < x3_1.size + ((wrap64 ((wrap64 (x4_1 + 1)) * a0_1)).toNat - ji18.toNat)) = False := eq_false (by have q0_ : (wrap64 ((wrap64 (x4_1 + 1)) * a0_1) : Int) ≤ (a0_2.size : Int) := of_decide_eq_true z_g1; have h_ := c22; simp only [ByteArray.size_append, ByteArray.size_extract] at h_; omega)
            have H' := Aside0.mk H
            clear H; obtain ⟨hcz23_0, hcz23_1, hcz23_2, hfz23_0, hfz23_1, hfz23_2⟩ := bc3_g0 BK253.out; go_wp2
            go_roundg kj2
            case measure => have := HK1.out; have := HJ2.out; omega
            case rel => exact ⟨(x3_1 ++ (a0_2.extract ((ji18) : Int).toNat ((wrap64 ((wrap64 (x4_1 + 1)) * a0_1)) : Int).toNat)), (wrap64 (x4_1 + 1)), (by first | rfl | (simp; done) | (simp only [← hji18] <;> (first | rfl | simp)) | (simp [*]; done)), z_g2, H', ⟨by have := HK1.out; have := HJ2.out; omega⟩, ⟨z13_11⟩, ⟨z13_3⟩⟩
           ·rw [if_neg c22] at H
            exact absurd H (by simp)
          ·rw [if_neg c21] at H
           exact absurd H (by simp)
         ·rw [if_neg c20] at H
          exact absurd H (by simp)
        ·rw [if_neg c19] at H
         exact absurd H (by simp)
      ·replace c9 := Bool.eq_false_iff.mpr c9; subst c9; rw [if_neg (show ¬ (false = true) by decide)] at H
       obtain rfl := Option.some.inj H; go_wp2
       go_ret
       exact ⟨z_g13, z13_3⟩

/-! ### spec_ParseGrid: function 92 -/
def spec_ParseGrid.l0 : Nat → ByteArray → Int → Int → Int → ByteArray → Option (Int × Int × ByteArray × Bool)
  | 0, _, _, _, _, _ => none
  | k + 1, x0, x5, x257000, x257001, x257002 => if x5 < (x0.size : Int) then (if 0 ≤ x5 then (if (bt x0 x5) = 47 then (if (wrap64 (x257000 + 1)) = 1 then (spec_ParseGrid.l0 k x0 (wrap64 (x5 + 1)) (wrap64 (x257000 + 1)) (wrap64 (x5 + 1)) x257002) else (spec_ParseGrid.l0 k x0 (wrap64 (x5 + 1)) (wrap64 (x257000 + 1)) x257001 x257002)) else (if x5 ≤ (wrap64 (x5 + 1)) then (if (wrap64 (x5 + 1)) ≤ (x0.size : Int) then (if x257002.size + (x0.extract (x5 : Int).toNat ((wrap64 (x5 + 1)) : Int).toNat).size ≤ 9223372036854775807 then (if x257000 = 1 then (spec_ParseGrid.l0 k x0 (wrap64 (x5 + 1)) x257000 (wrap64 (x5 + 1)) (x257002 ++ (x0.extract (x5 : Int).toNat ((wrap64 (x5 + 1)) : Int).toNat))) else (spec_ParseGrid.l0 k x0 (wrap64 (x5 + 1)) x257000 x257001 (x257002 ++ (x0.extract (x5 : Int).toNat ((wrap64 (x5 + 1)) : Int).toNat)))) else (none)) else (none)) else (none))) else (none)) else ((spec_GridText.f k x257000 x257001 x257002).bind fun t257 => (if t257.toList = x0.toList then ((spec_IsGrid.f k x257000 x257001 x257002).bind fun t258 => (if t258 = true then (some (x257000, x257001, x257002, true)) else (some (0, 0, (⟨#[]⟩ : ByteArray), false)))) else (some (0, 0, (⟨#[]⟩ : ByteArray), false))))
def spec_ParseGrid.f (k : Nat) (a0 : ByteArray) : Option (Int × Int × ByteArray × Bool) := spec_ParseGrid.l0 k a0 0 1 0 (⟨#[]⟩ : ByteArray)
def spec_ParseGrid.T7 : Bool × List (List Nat × List Nat) := (true, [([], []), ([0], [0]), ([], []), ([], []), ([], []), ([4], [4]), ([2, 3, 5], [2, 3, 5]), ([1, 6], [1, 6]), ([0, 1, 2, 3, 4, 5, 6, 7], []), ([8, 7, 0, 1, 2, 3, 4, 5, 6, 7], [7, 8])])
def spec_ParseGrid.B7 : List Nat := [0, 1, 0, 0, 0, 16, 60, 127, 255, 511]
theorem spec_ParseGrid.tab7 : rtab .any (opsOf Try.f92 7) = spec_ParseGrid.T7 := by kernel_rfl
theorem spec_ParseGrid.bits7 : waitsOk spec_ParseGrid.T7.2 spec_ParseGrid.B7 = true := by kernel_rfl
theorem spec_ParseGrid.calls (k : Nat) (a0 : ByteArray) (r1 : Int) (r2 : Int) (r3 : ByteArray) (r4 : Bool) (w : World) (h : spec_ParseGrid.f k a0 = some (r1, r2, r3, r4)) :
   Calls Try.prog 92 #[.string a0] w fun e w' => e = .returned (.tuple #[.agg #[.int .i64 r1, .int .i64 r2, .string r3], .bool r4]) ∧ Below w.heap.size w w' := by
  have hu28 := Try.underlying28; have HB := Aside0.mk (Below.refl w.heap.size w); have H : (spec_ParseGrid.l0 k a0 0 1 0 (⟨#[]⟩ : ByteArray)) = some (r1, r2, r3, r4) := h; clear h; have H' := Aside0.mk H
  clear H; go_enter Try.func92, Try.ntmps92
  go_wp2_with (first | ((with_reducible refine gate_dst (N := 2) rfl ?_); refine box_event ?hg (N := 2) ?hd (cs := #[.int .i64 0, .int .i64 0, .string (⟨#[]⟩ : ByteArray)]) (t := 28) ?hr ?_; (case hd => rfl); (case hg => rfl); (case hr => first | (go_simp; done) | (go_simp; rfl)); intro gb255 hg w2 hbox hb; have BK255 := Aside0.mk (hbox); have GW255 := Aside0.mk ((by rw [hg]; exact (below_size z_g4) : w.heap.size ≤ gb255)); have GE255 := Aside0.mk ((by rw [hg]; exact (below_size z_g4) : w.heap.size ≤ gb255)); replace HB := Aside0.mk (below_step z_g4 hb); clear hb hbox hg) | ((with_reducible refine gate_dst (N := 4) rfl ?_); refine box_event ?hg (N := 4) ?hd (cs := #[.int .i64 0, .int .i64 0, .string (⟨#[]⟩ : ByteArray)]) (t := 28) ?hr ?_; (case hd => rfl); (case hg => rfl); (case hr => first | (go_simp; done) | (go_simp; rfl)); intro gb256 hg w3 hbox hb; have BK256 := Aside0.mk (hbox); have GW256 := Aside0.mk ((by rw [hg]; exact (below_size (by repeat (first | (with_reducible first | exact HB.out | apply below_alloc | apply pw_below_drewN | apply below_drew1 | refine below_set ?_ GE255.out) | exact HB.out))) : w.heap.size ≤ gb256)); have GE256 := Aside0.mk ((by rw [hg]; exact (below_size (by repeat (first | (with_reducible first | exact HB.out | apply below_alloc | apply pw_below_drewN | apply below_drew1 | refine below_set ?_ GE255.out) | exact HB.out))) : w.heap.size ≤ gb256)); replace HB := Aside0.mk (below_step (by repeat (first | (with_reducible first | exact HB.out | apply below_alloc | apply pw_below_drewN | apply below_drew1 | refine below_set ?_ GE255.out) | exact HB.out)) hb); have NB255_256 := Aside0.mk ((by rw [hg]; exact Nat.ne_of_lt (blk_lt (g := gb255) (o := .cells #[.int .i64 0, .int .i64 0, .string (⟨#[]⟩ : ByteArray)] 28 (0, 0)) (bd_g7 BK255.out)) : gb255 ≠ gb256)); have NB256_255 := Aside0.mk ((by rw [hg]; exact Nat.ne_of_gt (blk_lt (g := gb255) (o := .cells #[.int .i64 0, .int .i64 0, .string (⟨#[]⟩ : ByteArray)] 28 (0, 0)) (bd_g7 BK255.out)) : gb256 ≠ gb255)); replace BK255 := Aside0.mk (blk_below (g := gb255) (o := .cells #[.int .i64 0, .int .i64 0, .string (⟨#[]⟩ : ByteArray)] 28 (0, 0)) (bd_g7 BK255.out) hb); clear hb hbox hg; have hnb4 := NB256_255.out; have hnc4 := NB255_256.out; obtain ⟨hcz5_0, hcz5_1, hcz5_2, hfz5_0, hfz5_1, hfz5_2⟩ := bc3_g0 BK256.out))
  go_loopg [5] k (fun kq v5 w' => ∃ (x5_1 : Int) (x257000_1 : Int) (x257001_1 : Int) (x257002_1 : ByteArray), v5 = .int .i64 x5_1 ∧ Aside0 (spec_ParseGrid.l0 kq a0 x5_1 x257000_1 x257001_1 x257002_1 = some (r1, r2, r3, r4)) ∧ Aside0 (kq ≤ k) ∧ Aside0 (w'.heap[gb255]? = some (.cells #[.int .i64 0, .int .i64 0, .string (⟨#[]⟩ : ByteArray)] 28 (0, 0))) ∧ Aside0 (w'.heap[gb256]? = some (.cells #[.int .i64 x257000_1, .int .i64 x257001_1, .string x257002_1] 28 (0, 0))) ∧ Aside0 (Below w.heap.size w w'))
  case atStart => exact ⟨(0), (1), (0), ((⟨#[]⟩ : ByteArray)), z_g2, H', ⟨Nat.le_refl _⟩, ⟨by (with_reducible repeat (first | refine blk_drewN ?_ _ | refine blk_drew ?_ | refine blk_alloc ?_ _)); refine blk_far ?_ NB255_256.out _; (with_reducible repeat (first | refine blk_drewN ?_ _ | refine blk_drew ?_ | refine blk_alloc ?_ _)); refine blk_far ?_ NB255_256.out _; (with_reducible repeat (first | refine blk_drewN ?_ _ | refine blk_drew ?_ | refine blk_alloc ?_ _)); refine blk_far ?_ NB255_256.out _; (with_reducible repeat (first | refine blk_drewN ?_ _ | refine blk_drew ?_ | refine blk_alloc ?_ _)); exact BK255.out⟩, ⟨by (with_reducible repeat (first | refine blk_drewN ?_ _ | refine blk_drew ?_ | refine blk_alloc ?_ _)); refine blk_put (cs := #[.int .i64 1, .int .i64 0, .string (⟨#[]⟩ : ByteArray)]) ?_ 2 _ rfl; (with_reducible repeat (first | refine blk_drewN ?_ _ | refine blk_drew ?_ | refine blk_alloc ?_ _)); refine blk_put (cs := #[.int .i64 1, .int .i64 0, .string (⟨#[]⟩ : ByteArray)]) ?_ 1 _ rfl; (with_reducible repeat (first | refine blk_drewN ?_ _ | refine blk_drew ?_ | refine blk_alloc ?_ _)); refine blk_put (cs := #[.int .i64 0, .int .i64 0, .string (⟨#[]⟩ : ByteArray)]) ?_ 0 _ rfl; (with_reducible repeat (first | refine blk_drewN ?_ _ | refine blk_drew ?_ | refine blk_alloc ?_ _)); exact BK256.out⟩, ⟨z13_0⟩⟩
  case round =>
   clear H'; try clear p2
   try clear c4
   try clear hcz5_0 hcz5_1 hcz5_2 hfz5_0 hfz5_1 hfz5_2
   obtain ⟨x5_1, x257000_1, x257001_1, x257002_1, rfl, HA, HK1, BK255, BK256, HB⟩ := hrel
   cases gk with
   | zero => exact absurd HA.out (by simp [spec_ParseGrid.l0])
   | succ k1 =>
    have H := HA.out; clear HA; simp only [spec_ParseGrid.l0] at H; by_cases c6 : x5_1 < (a0.size : Int)
    ·rw [if_pos c6] at H
     have c6b0 := decide_eq_true c6; clear c6; by_cases c7 : 0 ≤ x5_1
     ·rw [if_pos c7] at H
      have c7b0 := decide_eq_true c7; clear c7; by_cases c9 : (bt a0 x5_1) = 47
      ·rw [if_pos c9] at H
       have c9b0 : ((bt a0 x5_1) == 47) = true := beq_iff_eq.mpr c9; have c9b1 : ((bt a0 x5_1) != 47) = false := bne_eq_false_iff_eq.mpr c9; clear c9; by_cases c10 : (wrap64 (x257000_1 + 1)) = 1
       ·rw [if_pos c10] at H
        have c10b0 : ((wrap64 (x257000_1 + 1)) == 1) = true := beq_iff_eq.mpr c10; have c10b1 : ((wrap64 (x257000_1 + 1)) != 1) = false := bne_eq_false_iff_eq.mpr c10; clear c10; have H' := Aside0.mk H
        clear H; have p8 : 0 ≤ (x5_1 : Int) := of_decide_eq_true z_g1; have q8 : x5_1 < (a0.size : Int) := of_decide_eq_true z_g1; have hx8 := bt_at a0 x5_1; replace p8 := eq_true p8; replace q8 := eq_true q8; have hnb11 := NB256_255.out; have hnc11 := NB255_256.out; obtain ⟨hcz12_0, hcz12_1, hcz12_2, hfz12_0, hfz12_1, hfz12_2⟩ := bc3_g0 BK256.out; go_wp2
        go_roundg k1
        case measure => have := HK1.out; omega
        case rel => exact ⟨(wrap64 (x5_1 + 1)), (wrap64 (x257000_1 + 1)), (wrap64 (x5_1 + 1)), (x257002_1), z_g2, H', ⟨by have := HK1.out; omega⟩, ⟨by (with_reducible repeat (first | refine blk_drewN ?_ _ | refine blk_drew ?_ | refine blk_alloc ?_ _)); refine blk_far ?_ NB255_256.out _; (with_reducible repeat (first | refine blk_drewN ?_ _ | refine blk_drew ?_ | refine blk_alloc ?_ _)); refine blk_far ?_ NB255_256.out _; (with_reducible repeat (first | refine blk_drewN ?_ _ | refine blk_drew ?_ | refine blk_alloc ?_ _)); exact BK255.out⟩, ⟨by (with_reducible repeat (first | refine blk_drewN ?_ _ | refine blk_drew ?_ | refine blk_alloc ?_ _)); refine blk_put (cs := #[.int .i64 (wrap64 (x257000_1 + 1)), .int .i64 x257001_1, .string x257002_1]) ?_ 1 _ rfl; (with_reducible repeat (first | refine blk_drewN ?_ _ | refine blk_drew ?_ | refine blk_alloc ?_ _)); refine blk_put (cs := #[.int .i64 x257000_1, .int .i64 x257001_1, .string x257002_1]) ?_ 0 _ rfl; (with_reducible repeat (first | refine blk_drewN ?_ _ | refine blk_drew ?_ | refine blk_alloc ?_ _)); exact BK256.out⟩, ⟨z13_0⟩⟩
       ·rw [if_neg c10] at H
        have c10b0 : ((wrap64 (x257000_1 + 1)) == 1) = false := beq_eq_false_iff_ne.mpr c10; have c10b1 : ((wrap64 (x257000_1 + 1)) != 1) = true := bne_iff_ne.mpr c10; have H' := Aside0.mk H
        clear H; have p8 : 0 ≤ (x5_1 : Int) := of_decide_eq_true z_g1; have q8 : x5_1 < (a0.size : Int) := of_decide_eq_true z_g1; have hx8 := bt_at a0 x5_1; replace p8 := eq_true p8; replace q8 := eq_true q8; have hnb13 := NB256_255.out; have hnc13 := NB255_256.out; obtain ⟨hcz14_0, hcz14_1, hcz14_2, hfz14_0, hfz14_1, hfz14_2⟩ := bc3_g0 BK256.out; go_wp2
        go_roundg k1
        case measure => have := HK1.out; omega
        case rel => exact ⟨(wrap64 (x5_1 + 1)), (wrap64 (x257000_1 + 1)), (x257001_1), (x257002_1), z_g2, H', ⟨by have := HK1.out; omega⟩, ⟨by (with_reducible repeat (first | refine blk_drewN ?_ _ | refine blk_drew ?_ | refine blk_alloc ?_ _)); refine blk_far ?_ NB255_256.out _; (with_reducible repeat (first | refine blk_drewN ?_ _ | refine blk_drew ?_ | refine blk_alloc ?_ _)); exact BK255.out⟩, ⟨by (with_reducible repeat (first | refine blk_drewN ?_ _ | refine blk_drew ?_ | refine blk_alloc ?_ _)); refine blk_put (cs := #[.int .i64 x257000_1, .int .i64 x257001_1, .string x257002_1]) ?_ 0 _ rfl; (with_reducible repeat (first | refine blk_drewN ?_ _ | refine blk_drew ?_ | refine blk_alloc ?_ _)); exact BK256.out⟩, ⟨z13_0⟩⟩
      ·rw [if_neg c9] at H
       have c9b0 : ((bt a0 x5_1) == 47) = false := beq_eq_false_iff_ne.mpr c9; have c9b1 : ((bt a0 x5_1) != 47) = true := bne_iff_ne.mpr c9; have c15b0 := eq_true (of_decide_eq_true z_g1 : 0 ≤ x5_1); by_cases c16 : x5_1 ≤ (wrap64 (x5_1 + 1))
       ·rw [if_pos c16] at H
        have c16b0 := eq_true c16; have c16b1 : decide (x5_1 ≤ (wrap64 (x5_1 + 1))) = true := decide_eq_true c16; by_cases c17 : (wrap64 (x5_1 + 1)) ≤ (a0.size : Int)
        ·rw [if_pos c17] at H
         have c17b0 := eq_true c17; have c17b1 : decide ((wrap64 (x5_1 + 1)) ≤ (a0.size : Int)) = true := decide_eq_true c17; by_cases c18 : x257002_1.size + (a0.extract (x5_1 : Int).toNat ((wrap64 (x5_1 + 1)) : Int).toNat).size ≤ 9223372036854775807
         ·rw [if_pos c18] at H
          have c18b0 := eq_true c18; have c18b1 : decide (x257002_1.size + (a0.extract (x5_1 : Int).toNat ((wrap64 (x5_1 + 1)) : Int).toNat).size ≤ 9223372036854775807) = true := decide_eq_true c18; try have c18b2 : (9223372036854775807 < x257002_1.size + (a0.extract (x5_1 : Int).toNat ((wrap64 (x5_1 + 1)) : Int).toNat).size) = False := eq_false (Nat.not_lt.2 c18)
          try have c18b3 : (9223372036854775807 < x257002_1.size + ((wrap64 (x5_1 + 1)).toNat - x5_1.toNat)) = False := eq_false (by have q0_ : (wrap64 (x5_1 + 1) : Int) ≤ (a0.size : Int) := of_decide_eq_true z_g1; have h_ := c18; simp only [ByteArray.size_append, ByteArray.size_extract] at h_; omega)
          by_cases c19 : x257000_1 = 1
          ·rw [if_pos c19] at H
           have c19b0 : (x257000_1 == 1) = true := beq_iff_eq.mpr c19; have c19b1 : (x257000_1 != 1) = false := bne_eq_false_iff_eq.mpr c19; clear c19; have H' := Aside0.mk H
           clear H; have p8 : 0 ≤ (x5_1 : Int) := of_decide_eq_true z_g1; have q8 : x5_1 < (a0.size : Int) := of_decide_eq_true z_g1; have hx8 := bt_at a0 x5_1; replace p8 := eq_true p8; replace q8 := eq_true q8; try go_wp2
           replace BK255 := Aside0.mk (blk_drew BK255.out); replace BK256 := Aside0.mk (blk_drew BK256.out); replace HB := Aside0.mk (below_drew1 HB.out); refine start_ (n := 10) (S := fun w' => w'.cell? ⟨gb256, 0, none⟩ = some (.int .i64 x257000_1) ∧ w'.cell? ⟨gb256, 1, none⟩ = some (.int .i64 x257001_1) ∧ w'.cell? ⟨gb256, 2, none⟩ = some (.string x257002_1)) (ds := [9]) #[false, false, false, false, false, false, false, false, false, false] (by kernel_rfl) rfl rfl ⟨(blk_cell BK256.out 0).trans rfl, (blk_cell BK256.out 1).trans rfl, (blk_cell BK256.out 2).trans rfl⟩ (fun hHeld => ?_); refine with_tabW spec_ParseGrid.tab7 spec_ParseGrid.bits7 (fun HT_ HW_ => ?_)
           generalize wr.drew = w20 at BK255 BK256 HB hHeld ⊢
           refine pu_g5 0 (some 21) (any_of HT_.out (by kernel_rfl)) ?_
           refine pu_g5 2 (some 23) (any_of HT_.out (by kernel_rfl)) ?_
           refine pu_g5 3 (some 24) (any_of HT_.out (by kernel_rfl)) ?_
           refine pu_g5 4 (some 25) (any_of HT_.out (by kernel_rfl)) ?_
           refine pu_g5 5 (some 26) (any_of HT_.out (by kernel_rfl)) ?_
           refine pu_g5 6 (some 27) (any_of HT_.out (by kernel_rfl)) ?_
           refine tk_g6 1 (some 22) rfl (take_ofW HT_.out HW_.out (by kernel_rfl)) (Or.inl ⟨by rfl, fun w' ⟨s0, s1, s2⟩ => by go_simp; with_reducible rfl⟩) hHeld ?_
           refine pu_g5 7 (some 28) (any_of HT_.out (by kernel_rfl)) ?_
           refine pu_g5 8 (some 29) (any_of HT_.out (by kernel_rfl)) ?_
           refine last_ (i := 9) (N := none) #[true, true, true, true, true, true, true, true, true, true] rfl rfl (one_of HT_.out (by kernel_rfl)) (by decide) (fun K hK => ?_)
           have hs21 : w20.cell? ⟨gb256, 2, none⟩ = some (.string x257002_1) := (blk_cell BK256.out 2).trans rfl; have hfs21 := blk_frozen BK256.out 2; have hns21_0 := NB255_256.out; have hms21_0 := NB256_255.out; refine skip_ (w1 := ?_) (by rfl) rfl ?_ ?_
           rotate_left
           ·go_simp; rfl
           refine hK.out _ _ ?_
           clear hK K; refine done_ (done_of HT_.out (by kernel_rfl)) ?_
           have hnb22 := NB256_255.out; have hnc22 := NB255_256.out; obtain ⟨hcz23_0, hcz23_1, hcz23_2, hfz23_0, hfz23_1, hfz23_2⟩ := bc3_g0 BK256.out; try go_wp2
           go_roundg k1
           case measure => have := HK1.out; omega
           case rel => exact ⟨(wrap64 (x5_1 + 1)), (x257000_1), (wrap64 (x5_1 + 1)), (x257002_1 ++ (a0.extract (x5_1 : Int).toNat ((wrap64 (x5_1 + 1)) : Int).toNat)), z_g2, H', ⟨by have := HK1.out; omega⟩, ⟨by (with_reducible repeat (first | refine blk_drewN ?_ _ | refine blk_drew ?_ | refine blk_alloc ?_ _)); refine blk_far ?_ NB255_256.out _; (with_reducible repeat (first | refine blk_drewN ?_ _ | refine blk_drew ?_ | refine blk_alloc ?_ _)); refine blk_far ?_ NB255_256.out _; (with_reducible repeat (first | refine blk_drewN ?_ _ | refine blk_drew ?_ | refine blk_alloc ?_ _)); exact BK255.out⟩, ⟨by (with_reducible repeat (first | refine blk_drewN ?_ _ | refine blk_drew ?_ | refine blk_alloc ?_ _)); refine blk_put (cs := #[.int .i64 x257000_1, .int .i64 x257001_1, .string (x257002_1 ++ (a0.extract (x5_1 : Int).toNat ((wrap64 (x5_1 + 1)) : Int).toNat))]) ?_ 1 _ rfl; (with_reducible repeat (first | refine blk_drewN ?_ _ | refine blk_drew ?_ | refine blk_alloc ?_ _)); refine blk_put (cs := #[.int .i64 x257000_1, .int .i64 x257001_1, .string x257002_1]) ?_ 2 _ rfl; (with_reducible repeat (first | refine blk_drewN ?_ _ | refine blk_drew ?_ | refine blk_alloc ?_ _)); exact BK256.out⟩, ⟨z13_0⟩⟩
          ·rw [if_neg c19] at H
           have c19b0 : (x257000_1 == 1) = false := beq_eq_false_iff_ne.mpr c19; have c19b1 : (x257000_1 != 1) = true := bne_iff_ne.mpr c19; have H' := Aside0.mk H
           clear H; have p8 : 0 ≤ (x5_1 : Int) := of_decide_eq_true z_g1; have q8 : x5_1 < (a0.size : Int) := of_decide_eq_true z_g1; have hx8 := bt_at a0 x5_1; replace p8 := eq_true p8; replace q8 := eq_true q8; try go_wp2
           replace BK255 := Aside0.mk (blk_drew BK255.out); replace BK256 := Aside0.mk (blk_drew BK256.out); replace HB := Aside0.mk (below_drew1 HB.out); refine start_ (n := 10) (S := fun w' => w'.cell? ⟨gb256, 0, none⟩ = some (.int .i64 x257000_1) ∧ w'.cell? ⟨gb256, 1, none⟩ = some (.int .i64 x257001_1) ∧ w'.cell? ⟨gb256, 2, none⟩ = some (.string x257002_1)) (ds := [9]) #[false, false, false, false, false, false, false, false, false, false] (by kernel_rfl) rfl rfl ⟨(blk_cell BK256.out 0).trans rfl, (blk_cell BK256.out 1).trans rfl, (blk_cell BK256.out 2).trans rfl⟩ (fun hHeld => ?_); refine with_tabW spec_ParseGrid.tab7 spec_ParseGrid.bits7 (fun HT_ HW_ => ?_)
           generalize wr.drew = w24 at BK255 BK256 HB hHeld ⊢
           refine pu_g5 0 (some 21) (any_of HT_.out (by kernel_rfl)) ?_
           refine pu_g5 2 (some 23) (any_of HT_.out (by kernel_rfl)) ?_
           refine pu_g5 3 (some 24) (any_of HT_.out (by kernel_rfl)) ?_
           refine pu_g5 4 (some 25) (any_of HT_.out (by kernel_rfl)) ?_
           refine pu_g5 5 (some 26) (any_of HT_.out (by kernel_rfl)) ?_
           refine pu_g5 6 (some 27) (any_of HT_.out (by kernel_rfl)) ?_
           refine tk_g6 1 (some 22) rfl (take_ofW HT_.out HW_.out (by kernel_rfl)) (Or.inl ⟨by rfl, fun w' ⟨s0, s1, s2⟩ => by go_simp; with_reducible rfl⟩) hHeld ?_
           refine pu_g5 7 (some 28) (any_of HT_.out (by kernel_rfl)) ?_
           refine pu_g5 8 (some 29) (any_of HT_.out (by kernel_rfl)) ?_
           refine last_ (i := 9) (N := none) #[true, true, true, true, true, true, true, true, true, true] rfl rfl (one_of HT_.out (by kernel_rfl)) (by decide) (fun K hK => ?_)
           have hs25 : w24.cell? ⟨gb256, 2, none⟩ = some (.string x257002_1) := (blk_cell BK256.out 2).trans rfl; have hfs25 := blk_frozen BK256.out 2; have hns25_0 := NB255_256.out; have hms25_0 := NB256_255.out; refine skip_ (w1 := ?_) (by rfl) rfl ?_ ?_
           rotate_left
           ·go_simp; rfl
           refine hK.out _ _ ?_
           clear hK K; refine done_ (done_of HT_.out (by kernel_rfl)) ?_
           have hnb26 := NB256_255.out; have hnc26 := NB255_256.out; obtain ⟨hcz27_0, hcz27_1, hcz27_2, hfz27_0, hfz27_1, hfz27_2⟩ := bc3_g0 BK256.out; try go_wp2
           go_roundg k1
           case measure => have := HK1.out; omega
           case rel => exact ⟨(wrap64 (x5_1 + 1)), (x257000_1), (x257001_1), (x257002_1 ++ (a0.extract (x5_1 : Int).toNat ((wrap64 (x5_1 + 1)) : Int).toNat)), z_g2, H', ⟨by have := HK1.out; omega⟩, ⟨by (with_reducible repeat (first | refine blk_drewN ?_ _ | refine blk_drew ?_ | refine blk_alloc ?_ _)); refine blk_far ?_ NB255_256.out _; (with_reducible repeat (first | refine blk_drewN ?_ _ | refine blk_drew ?_ | refine blk_alloc ?_ _)); exact BK255.out⟩, ⟨by (with_reducible repeat (first | refine blk_drewN ?_ _ | refine blk_drew ?_ | refine blk_alloc ?_ _)); refine blk_put (cs := #[.int .i64 x257000_1, .int .i64 x257001_1, .string x257002_1]) ?_ 2 _ rfl; (with_reducible repeat (first | refine blk_drewN ?_ _ | refine blk_drew ?_ | refine blk_alloc ?_ _)); exact BK256.out⟩, ⟨z13_0⟩⟩
         ·rw [if_neg c18] at H
          exact absurd H (by simp)
        ·rw [if_neg c17] at H
         exact absurd H (by simp)
       ·rw [if_neg c16] at H
        exact absurd H (by simp)
     ·rw [if_neg c7] at H
      exact absurd H (by simp)
    ·rw [if_neg c6] at H
     have c6b0 := decide_eq_false c6; clear c6; replace H := Option.bind_eq_some_iff.mp H; obtain ⟨t257, A280, H⟩ := H; try dsimp only at H
     have A28 := Aside0.mk A280; clear A280; by_cases c29 : t257.toList = a0.toList
     ·rw [if_pos c29] at H
      have c29b0 : (t257.toList == a0.toList) = true := beq_iff_eq.mpr c29; have c29b1 : (t257.toList != a0.toList) = false := bne_eq_false_iff_eq.mpr c29; clear c29; replace H := Option.bind_eq_some_iff.mp H; obtain ⟨t258, A300, H⟩ := H; try dsimp only at H
      have A30 := Aside0.mk A300; clear A300; by_cases c31 : t258 = true
      ·subst c31; rw [if_pos rfl] at H
       simp only [Option.some.injEq, Prod.mk.injEq] at H; obtain ⟨rfl, rfl, rfl, rfl⟩ := H; have hnb32 := NB256_255.out; have hnc32 := NB255_256.out; obtain ⟨hcz33_0, hcz33_1, hcz33_2, hfz33_0, hfz33_1, hfz33_2⟩ := bc3_g0 BK256.out; go_wp2_with (first | ((with_reducible refine gate_callee (f := 117) rfl ?_); refine goesL_ (some 37) rfl rfl Try.func117 (by kernel_rfl) rfl #[.agg #[.int .i64 x257000_1, .int .i64 x257001_1, .string x257002_1]] rfl z_g9 ?_; (with_reducible refine (spec_GridText.calls k1 x257000_1 x257001_1 x257002_1 t257 _ A28.out).mono ?_); rintro e w34 ⟨rfl, hb⟩; refine ⟨_, rfl, ?_⟩; replace BK255 := Aside0.mk (blk_below (g := gb255) (o := .cells #[.int .i64 0, .int .i64 0, .string (⟨#[]⟩ : ByteArray)] 28 (0, 0)) (bd_g7 BK255.out) hb); replace BK256 := Aside0.mk (blk_below (g := gb256) (o := .cells #[.int .i64 x257000_1, .int .i64 x257001_1, .string x257002_1] 28 (0, 0)) (bd_g7 BK256.out) hb); replace HB := Aside0.mk (below_step z13_0 hb); (try clear hb); obtain ⟨hcz35_0, hcz35_1, hcz35_2, hfz35_0, hfz35_1, hfz35_2⟩ := bc3_g0 BK256.out) | (go_at_call 80; (with_reducible refine (spec_IsGrid.calls k1 x257000_1 x257001_1 x257002_1 true _ A30.out).mono ?_); rintro e w36 ⟨rfl, hb⟩; replace BK255 := Aside0.mk (blk_below (g := gb255) (o := .cells #[.int .i64 0, .int .i64 0, .string (⟨#[]⟩ : ByteArray)] 28 (0, 0)) (bd_g7 BK255.out) hb); replace BK256 := Aside0.mk (blk_below (g := gb256) (o := .cells #[.int .i64 x257000_1, .int .i64 x257001_1, .string x257002_1] 28 (0, 0)) (bd_g7 BK256.out) hb); replace HB := Aside0.mk (below_step z13_0 hb); (try clear hb); obtain ⟨hcz37_0, hcz37_1, hcz37_2, hfz37_0, hfz37_1, hfz37_2⟩ := bc3_g0 BK256.out; obtain ⟨hcz38_0, hcz38_1, hcz38_2, hfz38_0, hfz38_1, hfz38_2⟩ := bc3_g0 BK255.out))
       refine bodyPost_ret (results_ct rfl _ _ gb255 28 #[.int .i64 x257000_1, .int .i64 x257001_1, .string x257002_1] (0, 0) _ rfl (by (with_reducible repeat (first | refine blk_drewN ?_ _ | refine blk_drew ?_ | refine blk_alloc ?_ _)); refine blk_put (cs := #[.int .i64 x257000_1, .int .i64 x257001_1, .string (⟨#[]⟩ : ByteArray)]) ?_ 2 _ rfl; (with_reducible repeat (first | refine blk_drewN ?_ _ | refine blk_drew ?_ | refine blk_alloc ?_ _)); refine blk_put (cs := #[.int .i64 x257000_1, .int .i64 0, .string (⟨#[]⟩ : ByteArray)]) ?_ 1 _ rfl; (with_reducible repeat (first | refine blk_drewN ?_ _ | refine blk_drew ?_ | refine blk_alloc ?_ _)); refine blk_put (cs := #[.int .i64 0, .int .i64 0, .string (⟨#[]⟩ : ByteArray)]) ?_ 0 _ rfl; (with_reducible repeat (first | refine blk_drewN ?_ _ | refine blk_drew ?_ | refine blk_alloc ?_ _)); exact BK255.out) Try.underlying28 rfl (by kernel_rfl)) rfl ?_
       exact ⟨z_g13, z13_0⟩
      ·replace c31 := Bool.eq_false_iff.mpr c31; subst c31; rw [if_neg (show ¬ (false = true) by decide)] at H
       simp only [Option.some.injEq, Prod.mk.injEq] at H; obtain ⟨rfl, rfl, rfl, rfl⟩ := H; have hnb39 := NB256_255.out; have hnc39 := NB255_256.out; obtain ⟨hcz40_0, hcz40_1, hcz40_2, hfz40_0, hfz40_1, hfz40_2⟩ := bc3_g0 BK256.out; go_wp2_with (first | ((with_reducible refine gate_callee (f := 117) rfl ?_); refine goesL_ (some 37) rfl rfl Try.func117 (by kernel_rfl) rfl #[.agg #[.int .i64 x257000_1, .int .i64 x257001_1, .string x257002_1]] rfl z_g9 ?_; (with_reducible refine (spec_GridText.calls k1 x257000_1 x257001_1 x257002_1 t257 _ A28.out).mono ?_); rintro e w41 ⟨rfl, hb⟩; refine ⟨_, rfl, ?_⟩; replace BK255 := Aside0.mk (blk_below (g := gb255) (o := .cells #[.int .i64 0, .int .i64 0, .string (⟨#[]⟩ : ByteArray)] 28 (0, 0)) (bd_g7 BK255.out) hb); replace BK256 := Aside0.mk (blk_below (g := gb256) (o := .cells #[.int .i64 x257000_1, .int .i64 x257001_1, .string x257002_1] 28 (0, 0)) (bd_g7 BK256.out) hb); replace HB := Aside0.mk (below_step z13_0 hb); (try clear hb); obtain ⟨hcz42_0, hcz42_1, hcz42_2, hfz42_0, hfz42_1, hfz42_2⟩ := bc3_g0 BK256.out) | (go_at_call 80; (with_reducible refine (spec_IsGrid.calls k1 x257000_1 x257001_1 x257002_1 false _ A30.out).mono ?_); rintro e w43 ⟨rfl, hb⟩; replace BK255 := Aside0.mk (blk_below (g := gb255) (o := .cells #[.int .i64 0, .int .i64 0, .string (⟨#[]⟩ : ByteArray)] 28 (0, 0)) (bd_g7 BK255.out) hb); replace BK256 := Aside0.mk (blk_below (g := gb256) (o := .cells #[.int .i64 x257000_1, .int .i64 x257001_1, .string x257002_1] 28 (0, 0)) (bd_g7 BK256.out) hb); replace HB := Aside0.mk (below_step z13_0 hb); (try clear hb); obtain ⟨hcz44_0, hcz44_1, hcz44_2, hfz44_0, hfz44_1, hfz44_2⟩ := bc3_g0 BK255.out))
       refine bodyPost_ret (results_ct rfl _ _ gb255 28 #[.int .i64 0, .int .i64 0, .string (⟨#[]⟩ : ByteArray)] (0, 0) _ rfl z13_5 Try.underlying28 rfl (by kernel_rfl)) rfl ?_
       exact ⟨z_g13, z13_0⟩
     ·rw [if_neg c29] at H
      have c29b0 : (t257.toList == a0.toList) = false := beq_eq_false_iff_ne.mpr c29; have c29b1 : (t257.toList != a0.toList) = true := bne_iff_ne.mpr c29; simp only [Option.some.injEq, Prod.mk.injEq] at H; obtain ⟨rfl, rfl, rfl, rfl⟩ := H; have hnb45 := NB256_255.out; have hnc45 := NB255_256.out; obtain ⟨hcz46_0, hcz46_1, hcz46_2, hfz46_0, hfz46_1, hfz46_2⟩ := bc3_g0 BK256.out; go_wp2_with (first | ((with_reducible refine gate_callee (f := 117) rfl ?_); refine goesL_ (some 37) rfl rfl Try.func117 (by kernel_rfl) rfl #[.agg #[.int .i64 x257000_1, .int .i64 x257001_1, .string x257002_1]] rfl z_g9 ?_; (with_reducible refine (spec_GridText.calls k1 x257000_1 x257001_1 x257002_1 t257 _ A28.out).mono ?_); rintro e w47 ⟨rfl, hb⟩; refine ⟨_, rfl, ?_⟩; replace BK255 := Aside0.mk (blk_below (g := gb255) (o := .cells #[.int .i64 0, .int .i64 0, .string (⟨#[]⟩ : ByteArray)] 28 (0, 0)) (bd_g7 BK255.out) hb); replace BK256 := Aside0.mk (blk_below (g := gb256) (o := .cells #[.int .i64 x257000_1, .int .i64 x257001_1, .string x257002_1] 28 (0, 0)) (bd_g7 BK256.out) hb); replace HB := Aside0.mk (below_step z13_0 hb); (try clear hb); obtain ⟨hcz48_0, hcz48_1, hcz48_2, hfz48_0, hfz48_1, hfz48_2⟩ := bc3_g0 BK255.out))
      refine bodyPost_ret (results_ct rfl _ _ gb255 28 #[.int .i64 0, .int .i64 0, .string (⟨#[]⟩ : ByteArray)] (0, 0) _ rfl z13_5 Try.underlying28 rfl (by kernel_rfl)) rfl ?_
      exact ⟨z_g13, z13_0⟩

/-! ### spec_l1Str: function 93 -/
def spec_l1Str.f (s0_0 : List Int) (s0_1 : Int) (s0_2 : Int) (l1 : List ByteArray) : Option (ByteArray × Int × Int) := (spec_l1Below.f s0_0 s0_1 s0_2 (l1.length : Int)).bind fun bt259 => (if 0 ≤ bt259.1 then (if bt259.1 < (l1.length : Int) then (some (rdOf ByteArray.empty l1 bt259.1, bt259.2.1, bt259.2.2)) else (none)) else (none))
theorem spec_l1Str.calls (g : Nat) (s0_0 : List Int) (s0_1 : Int) (s0_2 : Int) (A1 : Option Addr) (c1 : Nat) (l1 : List ByteArray) (r1 : ByteArray) (r2 : Int) (r3 : Int) (w0 w : World) (hI : IsS103 w0 w g s0_0 s0_1 s0_2) (hB : Below w0.heap.size w0 w) (hr1 : Kd.C Kd.string w A1 l1.length l1) (hc1 : l1.length ≤ c1) (hf1 : ∀ ad, A1 = some ad → 0 < l1.length → ad.block ≠ g) (h : spec_l1Str.f s0_0 s0_1 s0_2 l1 = some (r1, r2, r3)) :
   Calls Try.prog 93 #[.pointer (some ⟨g, 0, none⟩), .slice A1 l1.length c1] w fun e w' => e = .returned (.string r1) ∧ IsS103 w0 w' g s0_0 r2 r3 ∧ Below w0.heap.size w0 w' ∧ KeepBut w w' g none := by
  have HR1 := Aside0.mk hr1; have HC1 := Aside0.mk hc1; clear hr1 hc1; have HI0 := Aside0.mk hI; have HK := Aside0.mk (KeepBut.refl w g none); have HL := Aside0.mk hB.size; clear hI; have HW0 := Aside0.mk hB.size; have HB := Aside0.mk hB; clear hB; have H : ((spec_l1Below.f s0_0 s0_1 s0_2 (l1.length : Int)).bind fun bt259 => (if 0 ≤ bt259.1 then (if bt259.1 < (l1.length : Int) then (some (rdOf ByteArray.empty l1 bt259.1, bt259.2.1, bt259.2.2)) else (none)) else (none))) = some (r1, r2, r3) := h; clear h; replace H := Option.bind_eq_some_iff.mp H; obtain ⟨⟨t259, t260, t261⟩, A30, H⟩ := H; try dsimp only at H
  have A3 := Aside0.mk A30; clear A30; by_cases c4 : 0 ≤ t259
  ·rw [if_pos c4] at H
   have c4b0 := decide_eq_true c4; clear c4; by_cases c5 : t259 < (l1.length : Int)
   ·rw [if_pos c5] at H
    have c5b0 := decide_eq_true c5; clear c5; simp only [Option.some.injEq, Prod.mk.injEq] at H; obtain ⟨rfl, rfl, rfl⟩ := H; go_enter Try.func93, Try.ntmps93
    go_wp2_with (first | ((with_reducible refine gate_callee (f := 97) rfl ?_); refine goesL_ (some 9) rfl rfl Try.func97 (by kernel_rfl) rfl #[.pointer (some ⟨g, 0, none⟩), .int .i64 (l1.length : Int)] rfl z_g9 ?_; (with_reducible refine (spec_l1Below.calls g s0_0 s0_1 s0_2 (l1.length : Int) t259 t260 t261 w0 _ ?side1 ?side2 A3.out).mono ?_); (case side1 => exact z_g14); (case side2 => exact z_g15); rintro e w6 ⟨rfl, hi, hb, hk⟩; refine ⟨_, rfl, ?_⟩; replace HK := Aside0.mk (KeepBut.trans z_g12 hk (.inl rfl)); replace HB := Aside0.mk (hb); replace HI0 := Aside0.mk (hi); (try clear hb); have p262 : 0 ≤ (t259 : Int) := of_decide_eq_true z_g1; have q262 : t259 < (l1.length : Int) := of_decide_eq_true z_g1; obtain ⟨ad262, e262, hx262_0⟩ := Kd.at_string HR1.out t259 p262 q262; cases e262; replace hx262_0 := keep_cell HK.out hx262_0 (by first | (rw [add_block]; exact hf1 _ rfl (by omega)) | exact hf1 _ rfl (by omega) | exact hf1 ad262 rfl (by omega)); replace p262 := eq_true p262; replace q262 := eq_true q262))
    go_ret
    exact ⟨z_g13, z_g14, z_g15, z_g12⟩
   ·rw [if_neg c5] at H
    exact absurd H (by simp)
  ·rw [if_neg c4] at H
   exact absurd H (by simp)

end Go.Proofs.Ytodcckiphdnjeaa.QFnPruned
