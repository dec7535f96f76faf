-- Written by a changed copy of the kit's printer (wip/mp.py of this repo), for this claim; Lean checks it.
import Derived.Test.YtodcckiphdnjeabQFnPlaysx0
import Derived.Test.YtodcckiphdnjeabQFnPlaysx1
import Derived.Test.YtodcckiphdnjeabQFnPlaysx2
namespace Go.Proofs.Ytodcckiphdnjeab.QFnPlays
open Go.RowKit Go.Proofs.YtodcckiphdnjeabW.PrintWords Go.Proofs.YtodcckiphdnjeabW.PrintLast Go.Proofs.YtodcckiphdnjeabW.PrintMore
attribute [local go_sem] max2_int min2_int max_two min_two max_three min_three max_four min_four   -- for this text's walks alone
set_option linter.unusedVariables false
set_option linter.unusedSimpArgs false

theorem kd3_ {p q : Prop} (h0 : q) (h : q → p := by intro h_; (with_reducible repeat (first | apply Kd.R_alloc | apply Kd.R_drewN | apply Kd.R_drew)); exact h_) : p := h h0
theorem z3_0 {p : Prop} (h : p := by repeat (first | (with_reducible first | exact HK.out | apply KeepBut.set_ | apply keep_drewN | apply keep_drew | apply keep_alloc) | exact HK.out)) : p := h
theorem z3_1 {p : Prop} (h : p := by (try simp only [List.map_toArray, List.map_cons, List.map_nil]); first | done | rfl | (simp only [List.length_drop, List.length_take]; rfl)) : p := h
theorem z3_2 {p : Prop} (h : p := by repeat (first | (with_reducible first | exact HI0.out | apply IsS98.alloc | apply IsS98.drewN | apply IsS98.drew | apply IsS98.set_1 | apply IsS98.set_2) | exact HI0.out)) : p := h
theorem z3_3 {p : Prop} (h : p := by first | (with_reducible assumption) | assumption) : p := h
theorem z3_4 {p : Prop} (h : p := by repeat (first | (with_reducible first | exact HB.out | apply below_alloc | apply pw_below_drewN | apply below_drew1 | refine below_set ?_ (IsS98.ge HI0.out)) | exact HB.out)) : p := h
theorem z3_5 {p : Prop} (h : p := by first | rfl | (simp [errW_none, errW_some] <;> rfl) | (simp [*, errW_none, errW_some] <;> rfl)) : p := h
/-! ### spec_l1Int: function 84 -/
def spec_l1Int.f (s0_0 : List Int) (s0_1 : Int) (s0_2 : Int) (l1 : List Int) : Option (Int × Int × Int) := (spec_l1Below.f s0_0 s0_1 s0_2 (l1.length : Int)).bind fun bt181 => (if 0 ≤ bt181.1 then (if bt181.1 < (l1.length : Int) then (some (rd l1 bt181.1, bt181.2.1, bt181.2.2)) else (none)) else (none))
set_option maxHeartbeats 8000000 in
set_option maxRecDepth 100000 in
theorem spec_l1Int.calls (g : Nat) (s0_0 : List Int) (s0_1 : Int) (s0_2 : Int) (A1 : Option Addr) (c1 : Nat) (l1 : List Int) (r1 : Int) (r2 : Int) (r3 : Int) (w0 w : World) (hI : IsS98 w0 w g s0_0 s0_1 s0_2) (hB : Below w0.heap.size w0 w) (hr1 : Kd.C (Kd.int .i64) w A1 l1.length l1) (hc1 : l1.length ≤ c1) (hf1 : ∀ ad, A1 = some ad → 0 < l1.length → ad.block ≠ g) (h : spec_l1Int.f s0_0 s0_1 s0_2 l1 = some (r1, r2, r3)) :
   Calls Try.prog 84 #[.pointer (some ⟨g, 0, none⟩), .slice A1 l1.length c1] w fun e w' => e = .returned (.int .i64 r1) ∧ IsS98 w0 w' g s0_0 r2 r3 ∧ Below w0.heap.size w0 w' ∧ KeepBut w w' g none := by
  have HR1 := Aside0.mk hr1
  have HC1 := Aside0.mk hc1
  clear hr1 hc1
  have HI0 := Aside0.mk hI
  have HK := Aside0.mk (KeepBut.refl w g none)
  have HL := Aside0.mk hB.size
  clear hI
  have HW0 := Aside0.mk hB.size
  have HB := Aside0.mk hB
  clear hB
  have H : ((spec_l1Below.f s0_0 s0_1 s0_2 (l1.length : Int)).bind fun bt181 => (if 0 ≤ bt181.1 then (if bt181.1 < (l1.length : Int) then (some (rd l1 bt181.1, bt181.2.1, bt181.2.2)) else (none)) else (none))) = some (r1, r2, r3) := h
  clear h
  replace H := Option.bind_eq_some_iff.mp H
  obtain ⟨⟨t181, t182, t183⟩, A30, H⟩ := H
  replace H : (if 0 ≤ t181 then (if t181 < (l1.length : Int) then (some (rd l1 t181, t182, t183)) else (none)) else (none)) = some (r1, r2, r3) := H
  have A3 := Aside0.mk A30
  clear A30
  by_cases c4 : 0 ≤ t181
  ·rw [if_pos c4] at H
   have c4b0 : decide (0 ≤ t181) = true := decide_eq_true c4
   clear c4
   by_cases c5 : t181 < (l1.length : Int)
   ·rw [if_pos c5] at H
    have c5b0 : decide (t181 < (l1.length : Int)) = true := decide_eq_true c5
    clear c5
    simp only [Option.some.injEq, Prod.mk.injEq] at H
    obtain ⟨rfl, rfl, rfl⟩ := H
    go_enter Try.func84, Try.ntmps84
    go_wp2_with (first | ((with_reducible refine gate_callee (f := 71) rfl ?_); refine goesL_ (some 9) rfl rfl Try.func71 (by kernel_rfl) rfl #[.pointer (some ⟨g, 0, none⟩), .int .i64 (l1.length : Int)] rfl z3_1 ?_; (with_reducible refine (spec_l1Below.calls g s0_0 s0_1 s0_2 (l1.length : Int) t181 t182 t183 w0 _ ?side1 ?side2 A3.out).mono ?_); (case side1 => exact z3_2); (case side2 => exact z3_4); rintro e w6 ⟨rfl, hi, hb, hk⟩; refine ⟨_, rfl, ?_⟩; have n0_ := Aside0.mk (KeepBut.trans z3_0 hk (.inl rfl)); have n1_ := Aside0.mk (hb); have n2_ := Aside0.mk (hi); clear HK; clear HB; clear HI0; have HK := n0_; have HB := n1_; have HI0 := n2_; clear n0_ n1_ n2_; (try clear hb); (try clear hb2); (try clear hk); (try clear hi); have p184 : 0 ≤ (t181 : Int) := of_decide_eq_true z3_3; have q184 : t181 < (l1.length : Int) := of_decide_eq_true z3_3; obtain ⟨ad184, e184, hx184_0⟩ := Kd.at_int HR1.out t181 p184 q184; cases e184; replace hx184_0 := keep_cell HK.out hx184_0 (by first | (rw [add_block]; exact hf1 _ rfl (by omega)) | exact hf1 _ rfl (by omega) | exact hf1 ad184 rfl (by omega)); replace p184 := eq_true p184; replace q184 := eq_true q184))
    go_ret
    exact ⟨z3_5, z3_2, z3_4, z3_0⟩
   ·rw [if_neg c5] at H
    exact absurd H (by simp)
  ·rw [if_neg c4] at H
   exact absurd H (by simp)

/-! ### spec_l5Raw: function 85 -/
def spec_l5Raw.f (s0_0 : List Int) (s0_1 : Int) (s0_2 : Int) : Option (Int × Int × Int) := (spec_l1Int.f s0_0 s0_1 s0_2 (([(-1), 0, 99, 100, 1000, 1001, 9223372036854775807, (-9223372036854775808)] : List Int))).bind fun bt188 => (some (bt188.1, bt188.2.1, bt188.2.2))
set_option maxHeartbeats 8000000 in
set_option maxRecDepth 100000 in
theorem spec_l5Raw.calls (g : Nat) (s0_0 : List Int) (s0_1 : Int) (s0_2 : Int) (r1 : Int) (r2 : Int) (r3 : Int) (w0 w : World) (hI : IsS98 w0 w g s0_0 s0_1 s0_2) (hB : Below w0.heap.size w0 w) (h : spec_l5Raw.f s0_0 s0_1 s0_2 = some (r1, r2, r3)) :
   Calls Try.prog 85 #[.pointer (some ⟨g, 0, none⟩)] w fun e w' => e = .returned (.int .i64 r1) ∧ IsS98 w0 w' g s0_0 r2 r3 ∧ Below w0.heap.size w0 w' ∧ KeepBut w w' g none := by
  have HI0 := Aside0.mk hI
  have HK := Aside0.mk (KeepBut.refl w g none)
  have HL := Aside0.mk hB.size
  clear hI
  have HW0 := Aside0.mk hB.size
  have HB := Aside0.mk hB
  clear hB
  have H : ((spec_l1Int.f s0_0 s0_1 s0_2 (([(-1), 0, 99, 100, 1000, 1001, 9223372036854775807, (-9223372036854775808)] : List Int))).bind fun bt188 => (some (bt188.1, bt188.2.1, bt188.2.2))) = some (r1, r2, r3) := h
  clear h
  obtain ⟨y185, hy185⟩ : ∃ y_ : List Int, y_ = (([(-1), 0, 99, 100, 1000, 1001, 9223372036854775807, (-9223372036854775808)] : List Int)) := ⟨_, rfl⟩
  replace H : ((spec_l1Int.f s0_0 s0_1 s0_2 y185).bind fun bt188 => (some (bt188.1, bt188.2.1, bt188.2.2))) = some (r1, r2, r3) := by first | (rw [hy185]; with_reducible exact H) | (have H2_ := (Option.bind_some _ _).symm.trans H; rw [hy185]; with_reducible exact H2_) | (have H2_ := (Option.bind_some _ _).symm.trans H; with_reducible exact H2_) | with_reducible exact H | (rw [hy185]; exact H) | exact H
  have Ny185 := Aside0.mk hy185
  clear hy185
  replace H := Option.bind_eq_some_iff.mp H
  obtain ⟨⟨t188, t189, t190⟩, A20, H⟩ := H
  replace H : (some (t188, t189, t190)) = some (r1, r2, r3) := H
  have A2 := Aside0.mk A20
  clear A20
  simp only [Option.some.injEq, Prod.mk.injEq] at H
  obtain ⟨rfl, rfl, rfl⟩ := H
  go_enter Try.func85, Try.ntmps85
  go_wp2_with (first | ((with_reducible refine gate_dst (N := 4) rfl ?_); refine Kd.R_lit (Kd.int .i64) _ 3 ?hg (N := 4) ?hd (xs := ([(-1), 0, 99, 100, 1000, 1001, 9223372036854775807, (-9223372036854775808)] : List Int)) (inner := [.int .i64 (-1), .int .i64 0, .int .i64 99, .int .i64 100, .int .i64 1000, .int .i64 1001, .int .i64 9223372036854775807, .int .i64 (-9223372036854775808)]) (ok := fun _ => True) (okp := fun _ => True) ?hr ?hp (fun _ hk => hk) trivial (Below.refl _ _) (Nat.le_refl _) (by simp) ?_; (case hd => rfl); (case hg => rfl); (case hr => first | (go_simp; done) | (go_simp; rfl)); (case hp => exact (Reps.one (show Kd.M (Kd.int .i64) _ _ _ (-1) [.int .i64 (-1)] from rfl) (Reps.one (show Kd.M (Kd.int .i64) _ _ _ 0 [.int .i64 0] from rfl) (Reps.one (show Kd.M (Kd.int .i64) _ _ _ 99 [.int .i64 99] from rfl) (Reps.one (show Kd.M (Kd.int .i64) _ _ _ 100 [.int .i64 100] from rfl) (Reps.one (show Kd.M (Kd.int .i64) _ _ _ 1000 [.int .i64 1000] from rfl) (Reps.one (show Kd.M (Kd.int .i64) _ _ _ 1001 [.int .i64 1001] from rfl) (Reps.one (show Kd.M (Kd.int .i64) _ _ _ 9223372036854775807 [.int .i64 9223372036854775807] from rfl) (Reps.one (show Kd.M (Kd.int .i64) _ _ _ (-9223372036854775808) [.int .i64 (-9223372036854775808)] from rfl) (Reps.none _ _)))))))))); intro v186 w3 ho4 hb hg_ hnew_; clear hg_ hnew_; (first | rw [← Ny185.out] at ho4 | (simp only [Int.reduceToNat] at ho4; rw [← Ny185.out] at ho4)); have n0_ := Aside0.mk (Kd.R_lower ho4 (keep_size (w := w) (g := g) (row := none) z3_0)); have n1_ := Aside0.mk (IsS98.below z3_2 hb); have n2_ := Aside0.mk (KeepBut.trans z3_0 (KeepBut.of_below hb g none) (.inl rfl)); have n3_ := Aside0.mk (below_step z3_4 hb); clear HI0; clear HK; clear HB; have HO187 := n0_; have HI0 := n1_; have HK := n2_; have HB := n3_; clear n0_ n1_ n2_ n3_; clear hb ho4; obtain ⟨Ao5, co5, eo5⟩ := Kd.R_slice HO187.out; subst eo5) | ((with_reducible refine gate_callee (f := 84) rfl ?_); refine goesL_ (some 5) rfl rfl Try.func84 (by kernel_rfl) rfl #[.pointer (some ⟨g, 0, none⟩), .slice Ao5 y185.length co5] rfl z3_1 ?_; (with_reducible refine (spec_l1Int.calls g s0_0 s0_1 s0_2 _ _ y185 t188 t189 t190 w0 _ ?side1 ?side2 ?side3 ?side4 ?side5 A2.out).mono ?_); (case side1 => exact z3_2); (case side2 => exact z3_4); (case side3 => repeat (first | exact (Kd.R_reads' HO187.out).2.2 | (with_reducible refine Kd.C_alloc ?_ _) | (with_reducible refine Kd.C_drewN ?_ _) | (with_reducible refine Kd.C_drew ?_))); (case side4 => exact (Kd.R_reads' HO187.out).2.1); (case side5 => exact far_slice (IsS98.own_ne HI0.out HO187.out (by decide))); rintro e w6 ⟨rfl, hi, hb, hk⟩; refine ⟨_, rfl, ?_⟩; have n0_ := Aside0.mk (Kd.R_mono (Kd.R_keep (IsS98.apart (show IsS98 w0 _ g s0_0 s0_1 s0_2 from by repeat (first | (with_reducible first | exact HI0.out | apply IsS98.alloc | apply IsS98.drewN | apply IsS98.drew | apply IsS98.set_1 | apply IsS98.set_2) | exact HI0.out)) (kd3_ HO187.out) (by decide)) hk (fun _ h => h.2)) (fun _ h => h.1)); have n1_ := Aside0.mk (KeepBut.trans z3_0 hk (.inl rfl)); have n2_ := Aside0.mk (hb); have n3_ := Aside0.mk (hi); clear HO187; clear HK; clear HB; clear HI0; have HO187 := n0_; have HK := n1_; have HB := n2_; have HI0 := n3_; clear n0_ n1_ n2_ n3_; (try clear hb); (try clear hb2); (try clear hk); (try clear hi)))
  go_ret
  exact ⟨z3_5, z3_2, z3_4, z3_0⟩

/-! ### spec_l15Any: function 50 -/
def spec_l15Any.f (k : Nat) (s0_0 : List Int) (s0_1 : Int) (s0_2 : Int) : Option ((List (S31)) × Int × Int) := (spec_l15Draw.f k s0_0 s0_1 s0_2).bind fun bt191 => ((spec_l1Below.f s0_0 bt191.2.1 bt191.2.2 (bt191.1.length : Int)).bind fun bt196 => ((spec_l1Below.f s0_0 bt196.2.1 bt196.2.2 12).bind fun bt199 => (if bt199.1 = 0 then ((spec_l1Int.f s0_0 bt199.2.1 bt199.2.2 (([0, 10, 3, 5] : List Int))).bind fun bt205 => (if 0 ≤ bt196.1 then (if bt196.1 < (bt191.1.length : Int) then (some ((bt191.1.set (bt196.1 : Int).toNat (⟨bt205.1, (rd_T31 bt191.1 bt196.1).f1, (rd_T31 bt191.1 bt196.1).f2, (rd_T31 bt191.1 bt196.1).f3⟩ : S31)), bt205.2.1, bt205.2.2)) else (none)) else (none))) else (if bt199.1 = 1 then ((spec_l4Any.f s0_0 bt199.2.1 bt199.2.2).bind fun bt209 => (if 0 ≤ bt196.1 then (if bt196.1 < (bt191.1.length : Int) then (some ((bt191.1.set (bt196.1 : Int).toNat (⟨(rd_T31 bt191.1 bt196.1).f0, bt209.1, (rd_T31 bt191.1 bt196.1).f2, (rd_T31 bt191.1 bt196.1).f3⟩ : S31)), bt209.2.1, bt209.2.2)) else (none)) else (none))) else (if bt199.1 = 2 then ((spec_l5Raw.f s0_0 bt199.2.1 bt199.2.2).bind fun bt213 => (if 0 ≤ bt196.1 then (if bt196.1 < (bt191.1.length : Int) then (some ((bt191.1.set (bt196.1 : Int).toNat (⟨(rd_T31 bt191.1 bt196.1).f0, (rd_T31 bt191.1 bt196.1).f1, bt213.1, (rd_T31 bt191.1 bt196.1).f3⟩ : S31)), bt213.2.1, bt213.2.2)) else (none)) else (none))) else (if bt199.1 = 3 then ((spec_l5Raw.f s0_0 bt199.2.1 bt199.2.2).bind fun bt217 => (if 0 ≤ bt196.1 then (if bt196.1 < (bt191.1.length : Int) then (some ((bt191.1.set (bt196.1 : Int).toNat (⟨(rd_T31 bt191.1 bt196.1).f0, (rd_T31 bt191.1 bt196.1).f1, (rd_T31 bt191.1 bt196.1).f2, bt217.1⟩ : S31)), bt217.2.1, bt217.2.2)) else (none)) else (none))) else (if bt199.1 = 4 then (some (([] : List (S31)), bt199.2.1, bt199.2.2)) else (some (bt191.1, bt199.2.1, bt199.2.2)))))))))
theorem spec_l15Any.mono : ∀ a0 a1 a2 k, LeO (spec_l15Any.f k a0 a1 a2) (spec_l15Any.f (k + 1) a0 a1 a2) := by
  intro a0 a1 a2 k
  unfold spec_l15Any.f
  repeat' first
    | (with_reducible exact spec_l15Draw.mono _ _ _ _)
    | (with_reducible exact LeO.refl _)
    | (with_reducible exact LeO.none _)
    | (with_reducible refine LeO.ite ?_ ?_)
    | (with_reducible refine LeO.bind ?_ (fun _ => ?_))
    | exact spec_l15Draw.mono _ _ _ _
    | exact LeO.none _
    | refine LeO.ite ?_ ?_
    | refine LeO.bind ?_ (fun _ => ?_)
set_option maxHeartbeats 8000000 in
set_option maxRecDepth 100000 in
theorem spec_l15Any.calls (k : Nat) (g : Nat) (s0_0 : List Int) (s0_1 : Int) (s0_2 : Int) (r1 : List (S31)) (r2 : Int) (r3 : Int) (w0 w : World) (hI : IsS98 w0 w g s0_0 s0_1 s0_2) (hB : Below w0.heap.size w0 w) (h : spec_l15Any.f k s0_0 s0_1 s0_2 = some (r1, r2, r3)) :
   Calls Try.prog 50 #[.pointer (some ⟨g, 0, none⟩)] w fun e w' => ∃ v0_ : Value, e = .returned (v0_) ∧ Kd.R k31 31 w' w.heap.size (fun _ => True) v0_ r1 ∧ IsS98 w0 w' g s0_0 r2 r3 ∧ Below w0.heap.size w0 w' ∧ KeepBut w w' g none := by
  have HI0 := Aside0.mk hI
  have HK := Aside0.mk (KeepBut.refl w g none)
  have HL := Aside0.mk hB.size
  clear hI
  have HW0 := Aside0.mk hB.size
  have HB := Aside0.mk hB
  clear hB
  have H : ((spec_l15Draw.f k s0_0 s0_1 s0_2).bind fun bt191 => ((spec_l1Below.f s0_0 bt191.2.1 bt191.2.2 (bt191.1.length : Int)).bind fun bt196 => ((spec_l1Below.f s0_0 bt196.2.1 bt196.2.2 12).bind fun bt199 => (if bt199.1 = 0 then ((spec_l1Int.f s0_0 bt199.2.1 bt199.2.2 (([0, 10, 3, 5] : List Int))).bind fun bt205 => (if 0 ≤ bt196.1 then (if bt196.1 < (bt191.1.length : Int) then (some ((bt191.1.set (bt196.1 : Int).toNat (⟨bt205.1, (rd_T31 bt191.1 bt196.1).f1, (rd_T31 bt191.1 bt196.1).f2, (rd_T31 bt191.1 bt196.1).f3⟩ : S31)), bt205.2.1, bt205.2.2)) else (none)) else (none))) else (if bt199.1 = 1 then ((spec_l4Any.f s0_0 bt199.2.1 bt199.2.2).bind fun bt209 => (if 0 ≤ bt196.1 then (if bt196.1 < (bt191.1.length : Int) then (some ((bt191.1.set (bt196.1 : Int).toNat (⟨(rd_T31 bt191.1 bt196.1).f0, bt209.1, (rd_T31 bt191.1 bt196.1).f2, (rd_T31 bt191.1 bt196.1).f3⟩ : S31)), bt209.2.1, bt209.2.2)) else (none)) else (none))) else (if bt199.1 = 2 then ((spec_l5Raw.f s0_0 bt199.2.1 bt199.2.2).bind fun bt213 => (if 0 ≤ bt196.1 then (if bt196.1 < (bt191.1.length : Int) then (some ((bt191.1.set (bt196.1 : Int).toNat (⟨(rd_T31 bt191.1 bt196.1).f0, (rd_T31 bt191.1 bt196.1).f1, bt213.1, (rd_T31 bt191.1 bt196.1).f3⟩ : S31)), bt213.2.1, bt213.2.2)) else (none)) else (none))) else (if bt199.1 = 3 then ((spec_l5Raw.f s0_0 bt199.2.1 bt199.2.2).bind fun bt217 => (if 0 ≤ bt196.1 then (if bt196.1 < (bt191.1.length : Int) then (some ((bt191.1.set (bt196.1 : Int).toNat (⟨(rd_T31 bt191.1 bt196.1).f0, (rd_T31 bt191.1 bt196.1).f1, (rd_T31 bt191.1 bt196.1).f2, bt217.1⟩ : S31)), bt217.2.1, bt217.2.2)) else (none)) else (none))) else (if bt199.1 = 4 then (some (([] : List (S31)), bt199.2.1, bt199.2.2)) else (some (bt191.1, bt199.2.1, bt199.2.2)))))))))) = some (r1, r2, r3) := h
  clear h
  replace H := Option.bind_eq_some_iff.mp H
  obtain ⟨⟨t191, t194, t195⟩, A20, H⟩ := H
  replace H : ((spec_l1Below.f s0_0 t194 t195 (t191.length : Int)).bind fun bt196 => ((spec_l1Below.f s0_0 bt196.2.1 bt196.2.2 12).bind fun bt199 => (if bt199.1 = 0 then ((spec_l1Int.f s0_0 bt199.2.1 bt199.2.2 (([0, 10, 3, 5] : List Int))).bind fun bt205 => (if 0 ≤ bt196.1 then (if bt196.1 < (t191.length : Int) then (some ((t191.set (bt196.1 : Int).toNat (⟨bt205.1, (rd_T31 t191 bt196.1).f1, (rd_T31 t191 bt196.1).f2, (rd_T31 t191 bt196.1).f3⟩ : S31)), bt205.2.1, bt205.2.2)) else (none)) else (none))) else (if bt199.1 = 1 then ((spec_l4Any.f s0_0 bt199.2.1 bt199.2.2).bind fun bt209 => (if 0 ≤ bt196.1 then (if bt196.1 < (t191.length : Int) then (some ((t191.set (bt196.1 : Int).toNat (⟨(rd_T31 t191 bt196.1).f0, bt209.1, (rd_T31 t191 bt196.1).f2, (rd_T31 t191 bt196.1).f3⟩ : S31)), bt209.2.1, bt209.2.2)) else (none)) else (none))) else (if bt199.1 = 2 then ((spec_l5Raw.f s0_0 bt199.2.1 bt199.2.2).bind fun bt213 => (if 0 ≤ bt196.1 then (if bt196.1 < (t191.length : Int) then (some ((t191.set (bt196.1 : Int).toNat (⟨(rd_T31 t191 bt196.1).f0, (rd_T31 t191 bt196.1).f1, bt213.1, (rd_T31 t191 bt196.1).f3⟩ : S31)), bt213.2.1, bt213.2.2)) else (none)) else (none))) else (if bt199.1 = 3 then ((spec_l5Raw.f s0_0 bt199.2.1 bt199.2.2).bind fun bt217 => (if 0 ≤ bt196.1 then (if bt196.1 < (t191.length : Int) then (some ((t191.set (bt196.1 : Int).toNat (⟨(rd_T31 t191 bt196.1).f0, (rd_T31 t191 bt196.1).f1, (rd_T31 t191 bt196.1).f2, bt217.1⟩ : S31)), bt217.2.1, bt217.2.2)) else (none)) else (none))) else (if bt199.1 = 4 then (some (([] : List (S31)), bt199.2.1, bt199.2.2)) else (some (t191, bt199.2.1, bt199.2.2))))))))) = some (r1, r2, r3) := H
  have A2 := Aside0.mk A20
  clear A20
  replace H := Option.bind_eq_some_iff.mp H
  obtain ⟨⟨t196, t197, t198⟩, A30, H⟩ := H
  replace H : ((spec_l1Below.f s0_0 t197 t198 12).bind fun bt199 => (if bt199.1 = 0 then ((spec_l1Int.f s0_0 bt199.2.1 bt199.2.2 (([0, 10, 3, 5] : List Int))).bind fun bt205 => (if 0 ≤ t196 then (if t196 < (t191.length : Int) then (some ((t191.set (t196 : Int).toNat (⟨bt205.1, (rd_T31 t191 t196).f1, (rd_T31 t191 t196).f2, (rd_T31 t191 t196).f3⟩ : S31)), bt205.2.1, bt205.2.2)) else (none)) else (none))) else (if bt199.1 = 1 then ((spec_l4Any.f s0_0 bt199.2.1 bt199.2.2).bind fun bt209 => (if 0 ≤ t196 then (if t196 < (t191.length : Int) then (some ((t191.set (t196 : Int).toNat (⟨(rd_T31 t191 t196).f0, bt209.1, (rd_T31 t191 t196).f2, (rd_T31 t191 t196).f3⟩ : S31)), bt209.2.1, bt209.2.2)) else (none)) else (none))) else (if bt199.1 = 2 then ((spec_l5Raw.f s0_0 bt199.2.1 bt199.2.2).bind fun bt213 => (if 0 ≤ t196 then (if t196 < (t191.length : Int) then (some ((t191.set (t196 : Int).toNat (⟨(rd_T31 t191 t196).f0, (rd_T31 t191 t196).f1, bt213.1, (rd_T31 t191 t196).f3⟩ : S31)), bt213.2.1, bt213.2.2)) else (none)) else (none))) else (if bt199.1 = 3 then ((spec_l5Raw.f s0_0 bt199.2.1 bt199.2.2).bind fun bt217 => (if 0 ≤ t196 then (if t196 < (t191.length : Int) then (some ((t191.set (t196 : Int).toNat (⟨(rd_T31 t191 t196).f0, (rd_T31 t191 t196).f1, (rd_T31 t191 t196).f2, bt217.1⟩ : S31)), bt217.2.1, bt217.2.2)) else (none)) else (none))) else (if bt199.1 = 4 then (some (([] : List (S31)), bt199.2.1, bt199.2.2)) else (some (t191, bt199.2.1, bt199.2.2)))))))) = some (r1, r2, r3) := H
  have A3 := Aside0.mk A30
  clear A30
  replace H := Option.bind_eq_some_iff.mp H
  obtain ⟨⟨t199, t200, t201⟩, A40, H⟩ := H
  replace H : (if t199 = 0 then ((spec_l1Int.f s0_0 t200 t201 (([0, 10, 3, 5] : List Int))).bind fun bt205 => (if 0 ≤ t196 then (if t196 < (t191.length : Int) then (some ((t191.set (t196 : Int).toNat (⟨bt205.1, (rd_T31 t191 t196).f1, (rd_T31 t191 t196).f2, (rd_T31 t191 t196).f3⟩ : S31)), bt205.2.1, bt205.2.2)) else (none)) else (none))) else (if t199 = 1 then ((spec_l4Any.f s0_0 t200 t201).bind fun bt209 => (if 0 ≤ t196 then (if t196 < (t191.length : Int) then (some ((t191.set (t196 : Int).toNat (⟨(rd_T31 t191 t196).f0, bt209.1, (rd_T31 t191 t196).f2, (rd_T31 t191 t196).f3⟩ : S31)), bt209.2.1, bt209.2.2)) else (none)) else (none))) else (if t199 = 2 then ((spec_l5Raw.f s0_0 t200 t201).bind fun bt213 => (if 0 ≤ t196 then (if t196 < (t191.length : Int) then (some ((t191.set (t196 : Int).toNat (⟨(rd_T31 t191 t196).f0, (rd_T31 t191 t196).f1, bt213.1, (rd_T31 t191 t196).f3⟩ : S31)), bt213.2.1, bt213.2.2)) else (none)) else (none))) else (if t199 = 3 then ((spec_l5Raw.f s0_0 t200 t201).bind fun bt217 => (if 0 ≤ t196 then (if t196 < (t191.length : Int) then (some ((t191.set (t196 : Int).toNat (⟨(rd_T31 t191 t196).f0, (rd_T31 t191 t196).f1, (rd_T31 t191 t196).f2, bt217.1⟩ : S31)), bt217.2.1, bt217.2.2)) else (none)) else (none))) else (if t199 = 4 then (some (([] : List (S31)), t200, t201)) else (some (t191, t200, t201))))))) = some (r1, r2, r3) := H
  have A4 := Aside0.mk A40
  clear A40
  by_cases c5 : t199 = 0
  ·rw [if_pos c5] at H
   have c5b0 : (t199 == 0) = true := beq_iff_eq.mpr c5
   have c5b1 : (t199 != 0) = false := bne_eq_false_iff_eq.mpr c5
   clear c5
   obtain ⟨y202, hy202⟩ : ∃ y_ : List Int, y_ = (([0, 10, 3, 5] : List Int)) := ⟨_, rfl⟩
   replace H : ((spec_l1Int.f s0_0 t200 t201 y202).bind fun bt205 => (if 0 ≤ t196 then (if t196 < (t191.length : Int) then (some ((t191.set (t196 : Int).toNat (⟨bt205.1, (rd_T31 t191 t196).f1, (rd_T31 t191 t196).f2, (rd_T31 t191 t196).f3⟩ : S31)), bt205.2.1, bt205.2.2)) else (none)) else (none))) = some (r1, r2, r3) := by first | (rw [hy202]; with_reducible exact H) | (have H2_ := (Option.bind_some _ _).symm.trans H; rw [hy202]; with_reducible exact H2_) | (have H2_ := (Option.bind_some _ _).symm.trans H; with_reducible exact H2_) | with_reducible exact H | (rw [hy202]; exact H) | exact H
   have Ny202 := Aside0.mk hy202
   clear hy202
   replace H := Option.bind_eq_some_iff.mp H
   obtain ⟨⟨t205, t206, t207⟩, A60, H⟩ := H
   replace H : (if 0 ≤ t196 then (if t196 < (t191.length : Int) then (some ((t191.set (t196 : Int).toNat (⟨t205, (rd_T31 t191 t196).f1, (rd_T31 t191 t196).f2, (rd_T31 t191 t196).f3⟩ : S31)), t206, t207)) else (none)) else (none)) = some (r1, r2, r3) := H
   have A6 := Aside0.mk A60
   clear A60
   by_cases c7 : 0 ≤ t196
   ·rw [if_pos c7] at H
    have c7b0 : decide (0 ≤ t196) = true := decide_eq_true c7
    clear c7
    by_cases c8 : t196 < (t191.length : Int)
    ·rw [if_pos c8] at H
     have c8b0 : decide (t196 < (t191.length : Int)) = true := decide_eq_true c8
     clear c8
     obtain ⟨y208, hy208⟩ : ∃ y_ : List (S31), y_ = (t191.set (t196 : Int).toNat (⟨t205, (rd_T31 t191 t196).f1, (rd_T31 t191 t196).f2, (rd_T31 t191 t196).f3⟩ : S31)) := ⟨_, rfl⟩
     replace H : (some (y208, t206, t207)) = some (r1, r2, r3) := by first | (rw [hy208]; with_reducible exact H) | (have H2_ := (Option.bind_some _ _).symm.trans H; rw [hy208]; with_reducible exact H2_) | (have H2_ := (Option.bind_some _ _).symm.trans H; with_reducible exact H2_) | with_reducible exact H | (rw [hy208]; exact H) | exact H
     have Ny208 := Aside0.mk hy208
     clear hy208
     simp only [Option.some.injEq, Prod.mk.injEq] at H
     obtain ⟨rfl, rfl, rfl⟩ := H
     go_enter Try.func50, Try.ntmps50
     go_wp2_with (first | ((with_reducible refine gate_callee (f := 83) rfl ?_); refine goesL_ (some 6) rfl rfl Try.func83 (by kernel_rfl) rfl #[.pointer (some ⟨g, 0, none⟩)] rfl z3_1 ?_; (with_reducible refine (spec_l15Draw.calls k g s0_0 s0_1 s0_2 t191 t194 t195 w0 _ ?side1 ?side2 A2.out).mono ?_); (case side1 => exact z3_2); (case side2 => exact z3_4); rintro e w10 ⟨v192, rfl, ho0, hi, hb, hk⟩; refine ⟨_, rfl, ?_⟩; have n0_ := Aside0.mk (Kd.R_lower ho0 (keep_size (w := w) (g := g) (row := none) z3_0)); have n1_ := Aside0.mk (KeepBut.trans z3_0 hk (.inl rfl)); have n2_ := Aside0.mk (hb); have n3_ := Aside0.mk (hi); clear HK; clear HB; clear HI0; have HO193 := n0_; have HK := n1_; have HB := n2_; have HI0 := n3_; clear n0_ n1_ n2_ n3_; (try clear hb); (try clear hb2); (try clear hk); (try clear hi); (try clear ho0); obtain ⟨Ao11, co11, eo11⟩ := Kd.R_slice HO193.out; subst eo11) | ((with_reducible refine gate_callee (f := 71) rfl ?_); refine goesL_ (some 10) rfl rfl Try.func71 (by kernel_rfl) rfl #[.pointer (some ⟨g, 0, none⟩), .int .i64 (t191.length : Int)] rfl z3_1 ?_; (with_reducible refine (spec_l1Below.calls g s0_0 t194 t195 (t191.length : Int) t196 t197 t198 w0 _ ?side1 ?side2 A3.out).mono ?_); (case side1 => exact z3_2); (case side2 => exact z3_4); rintro e w12 ⟨rfl, hi, hb, hk⟩; refine ⟨_, rfl, ?_⟩; have n0_ := Aside0.mk (Kd.R_mono (Kd.R_keep (IsS98.apart (show IsS98 w0 _ g s0_0 t194 t195 from by repeat (first | (with_reducible first | exact HI0.out | apply IsS98.alloc | apply IsS98.drewN | apply IsS98.drew | apply IsS98.set_1 | apply IsS98.set_2) | exact HI0.out)) (kd3_ HO193.out) (by decide)) hk (fun _ h => h.2)) (fun _ h => h.1)); have n1_ := Aside0.mk (KeepBut.trans z3_0 hk (.inl rfl)); have n2_ := Aside0.mk (hb); have n3_ := Aside0.mk (hi); clear HO193; clear HK; clear HB; clear HI0; have HO193 := n0_; have HK := n1_; have HB := n2_; have HI0 := n3_; clear n0_ n1_ n2_ n3_; (try clear hb); (try clear hb2); (try clear hk); (try clear hi)) | ((with_reducible refine gate_callee (f := 71) rfl ?_); refine goesL_ (some 12) rfl rfl Try.func71 (by kernel_rfl) rfl #[.pointer (some ⟨g, 0, none⟩), .int .i64 12] rfl z3_1 ?_; (with_reducible refine (spec_l1Below.calls g s0_0 t197 t198 12 t199 t200 t201 w0 _ ?side1 ?side2 A4.out).mono ?_); (case side1 => exact z3_2); (case side2 => exact z3_4); rintro e w13 ⟨rfl, hi, hb, hk⟩; refine ⟨_, rfl, ?_⟩; have n0_ := Aside0.mk (Kd.R_mono (Kd.R_keep (IsS98.apart (show IsS98 w0 _ g s0_0 t197 t198 from by repeat (first | (with_reducible first | exact HI0.out | apply IsS98.alloc | apply IsS98.drewN | apply IsS98.drew | apply IsS98.set_1 | apply IsS98.set_2) | exact HI0.out)) (kd3_ HO193.out) (by decide)) hk (fun _ h => h.2)) (fun _ h => h.1)); have n1_ := Aside0.mk (KeepBut.trans z3_0 hk (.inl rfl)); have n2_ := Aside0.mk (hb); have n3_ := Aside0.mk (hi); clear HO193; clear HK; clear HB; clear HI0; have HO193 := n0_; have HK := n1_; have HB := n2_; have HI0 := n3_; clear n0_ n1_ n2_ n3_; (try clear hb); (try clear hb2); (try clear hk); (try clear hi)) | ((with_reducible refine gate_dst (N := 18) rfl ?_); refine Kd.R_lit (Kd.int .i64) _ 3 ?hg (N := 18) ?hd (xs := ([0, 10, 3, 5] : List Int)) (inner := [.int .i64 0, .int .i64 10, .int .i64 3, .int .i64 5]) (ok := fun _ => True) (okp := fun _ => True) ?hr ?hp (fun _ hk => hk) trivial (Below.refl _ _) (Nat.le_refl _) (by simp) ?_; (case hd => rfl); (case hg => rfl); (case hr => first | (go_simp; done) | (go_simp; rfl)); (case hp => exact (Reps.one (show Kd.M (Kd.int .i64) _ _ _ 0 [.int .i64 0] from rfl) (Reps.one (show Kd.M (Kd.int .i64) _ _ _ 10 [.int .i64 10] from rfl) (Reps.one (show Kd.M (Kd.int .i64) _ _ _ 3 [.int .i64 3] from rfl) (Reps.one (show Kd.M (Kd.int .i64) _ _ _ 5 [.int .i64 5] from rfl) (Reps.none _ _)))))); intro v203 w14 ho15 hb hg_ hnew_; clear hg_ hnew_; (first | rw [← Ny202.out] at ho15 | (simp only [Int.reduceToNat] at ho15; rw [← Ny202.out] at ho15)); have n0_ := Aside0.mk (Kd.R_below (kd3_ HO193.out) hb); have n1_ := Aside0.mk (Kd.R_lower ho15 (keep_size (w := w) (g := g) (row := none) z3_0)); have n2_ := Aside0.mk (IsS98.below z3_2 hb); have n3_ := Aside0.mk (KeepBut.trans z3_0 (KeepBut.of_below hb g none) (.inl rfl)); have n4_ := Aside0.mk (below_step z3_4 hb); clear HO193; clear HI0; clear HK; clear HB; have HO193 := n0_; have HO204 := n1_; have HI0 := n2_; have HK := n3_; have HB := n4_; clear n0_ n1_ n2_ n3_ n4_; clear hb ho15; obtain ⟨Ao16, co16, eo16⟩ := Kd.R_slice HO204.out; subst eo16) | ((with_reducible refine gate_callee (f := 84) rfl ?_); refine goesL_ (some 19) rfl rfl Try.func84 (by kernel_rfl) rfl #[.pointer (some ⟨g, 0, none⟩), .slice Ao16 y202.length co16] rfl z3_1 ?_; (with_reducible refine (spec_l1Int.calls g s0_0 t200 t201 _ _ y202 t205 t206 t207 w0 _ ?side1 ?side2 ?side3 ?side4 ?side5 A6.out).mono ?_); (case side1 => exact z3_2); (case side2 => exact z3_4); (case side3 => repeat (first | exact (Kd.R_reads' HO204.out).2.2 | (with_reducible refine Kd.C_alloc ?_ _) | (with_reducible refine Kd.C_drewN ?_ _) | (with_reducible refine Kd.C_drew ?_))); (case side4 => exact (Kd.R_reads' HO204.out).2.1); (case side5 => exact far_slice (IsS98.own_ne HI0.out HO204.out (by decide))); rintro e w17 ⟨rfl, hi, hb, hk⟩; refine ⟨_, rfl, ?_⟩; have n0_ := Aside0.mk (Kd.R_mono (Kd.R_keep (IsS98.apart (show IsS98 w0 _ g s0_0 t200 t201 from by repeat (first | (with_reducible first | exact HI0.out | apply IsS98.alloc | apply IsS98.drewN | apply IsS98.drew | apply IsS98.set_1 | apply IsS98.set_2) | exact HI0.out)) (kd3_ HO193.out) (by decide)) hk (fun _ h => h.2)) (fun _ h => h.1)); have n1_ := Aside0.mk (Kd.R_mono (Kd.R_keep (IsS98.apart (show IsS98 w0 _ g s0_0 t200 t201 from by repeat (first | (with_reducible first | exact HI0.out | apply IsS98.alloc | apply IsS98.drewN | apply IsS98.drew | apply IsS98.set_1 | apply IsS98.set_2) | exact HI0.out)) (kd3_ HO204.out) (by decide)) hk (fun _ h => h.2)) (fun _ h => h.1)); have n2_ := Aside0.mk (KeepBut.trans z3_0 hk (.inl rfl)); have n3_ := Aside0.mk (hb); have n4_ := Aside0.mk (hi); clear HO193; clear HO204; clear HK; clear HB; clear HI0; have HO193 := n0_; have HO204 := n1_; have HK := n2_; have HB := n3_; have HI0 := n4_; clear n0_ n1_ n2_ n3_ n4_; (try clear hb); (try clear hb2); (try clear hk); (try clear hi); have p9 : 0 ≤ (t196 : Int) := of_decide_eq_true z3_3; have q9 : (t196 : Int) < ((t191.length : Int) : Int) := of_decide_eq_true z3_3; obtain ⟨go9, co9, eo9, gb9, gl9, cl9, HG9⟩ := Kd.R_form HO193.out (by omega); (first | cases eo9 | (injection eo9 with ea_ en_ ec_; (first | subst ea_ | (injection ea_ with ea_; subst ea_)); subst ec_; clear en_)); have GB9 := Aside0.mk gb9; have GG9 := Aside0.mk HG9; clear gb9 gl9 HG9; obtain ⟨ce9, hcl9, hM9, hcc9, hfr9⟩ := Kd.R_elem HO193.out z31 (t196 : Int) p9 q9; obtain rfl := k31_openM hM9; have hx9_0 : w17.cell? ⟨go9, (t196 : Int).toNat * 4, none⟩ = some (.int .i64 ((rd_T31 t191 t196).f0)) := hcc9 0 _ rfl; have hx9_1 : w17.cell? ⟨go9, (t196 : Int).toNat * 4 + 1, none⟩ = some (.string ((rd_T31 t191 t196).f1)) := hcc9 1 _ rfl; have hx9_2 : w17.cell? ⟨go9, (t196 : Int).toNat * 4 + 2, none⟩ = some (.int .i64 ((rd_T31 t191 t196).f2)) := hcc9 2 _ rfl; have hx9_3 : w17.cell? ⟨go9, (t196 : Int).toNat * 4 + 3, none⟩ = some (.int .i64 ((rd_T31 t191 t196).f3)) := hcc9 3 _ rfl; have hf9_0 : w17.frozen? ⟨go9, (t196 : Int).toNat * 4, none⟩ = false := hfr9 0; have hf9_1 : w17.frozen? ⟨go9, (t196 : Int).toNat * 4 + 1, none⟩ = false := hfr9 1; have hf9_2 : w17.frozen? ⟨go9, (t196 : Int).toNat * 4 + 2, none⟩ = false := hfr9 2; have hf9_3 : w17.frozen? ⟨go9, (t196 : Int).toNat * 4 + 3, none⟩ = false := hfr9 3; clear hcl9 hcc9 hfr9; (try clear hM9); replace p9 := eq_true p9; replace q9 := eq_true q9; have HX18 := Aside0.mk (show Kd.R k31 31 w17 w.heap.size (fun _ => True) (.slice (some ⟨go9, 0, none⟩) t191.length co11) t191 from (kd3_ HO193.out)); obtain ⟨ce18, hcl18, hM18, hcc18, hfr18⟩ := Kd.R_elem HX18.out z31 (t196 : Int) (of_decide_eq_true z3_3) (by have h_ : (t196 : Int) < ((t191.length : Int) : Int) := of_decide_eq_true z3_3; first | exact h_ | (have e_ := (Kd.R_reads' HO193.out).1; omega) | simpa using h_); obtain rfl := k31_openM hM18; have HP18 := Kd.R_seg HX18.out (t196 : Int) (of_decide_eq_true z3_3) (by have h_ : (t196 : Int) < ((t191.length : Int) : Int) := of_decide_eq_true z3_3; first | exact h_ | (have e_ := (Kd.R_reads' HO193.out).1; omega) | simpa using h_) (seg := [.int .i64 t205]) (j := 0) hcl18 hcc18 (show 1 ≤ 4 from by decide) (x' := (⟨t205, (rd_T31 t191 t196).f1, (rd_T31 t191 t196).f2, (rd_T31 t191 t196).f3⟩ : S31)) (k31_mkM _ _ _ (⟨t205, (rd_T31 t191 t196).f1, (rd_T31 t191 t196).f2, (rd_T31 t191 t196).f3⟩ : S31) ) (fun _ hk => hk); have hx18_0 := hcc18 0 _ rfl; (try simp only [show (k31).sz = 4 from rfl, Nat.mul_one, Nat.add_zero] at hx18_0); have hf18_0 := hfr18 0; (try simp only [show (k31).sz = 4 from rfl, Nat.mul_one, Nat.add_zero] at hf18_0); clear hcl18 hcc18 hfr18; (try clear hM18)) | ((with_reducible refine gate_store (t := 3) (p := 21) rfl ?_); refine store_event (t := 3) (p := 21) (v := ?vo_w19) (w1 := (w17.setCell ⟨go9, (t196 : Int).toNat * 4, none⟩ (.int .i64 t205))) ?hg ?ho ?hn ?hr ?_; (case ho => rfl); (case hg => rfl); (case hn => rfl); (case hr => first | (go_simp; done) | (go_simp; rfl)); intro w19 hw; have hg : w17.grownBy w19 (some go9) := (by rw [hw]; exact HP18.2); have hp_ : Kd.R k31 31 w19 w.heap.size (fun _ => True) (.slice (some ⟨go9, 0, none⟩) t191.length co11) y208 := (by rw [hw, Ny208.out]; exact HP18.1); clear HP18; have n0_ := Aside0.mk (IsS98.grown z3_2 hg (IsS98.own_ne HI0.out HO193.out (by decide))); have n1_ := Aside0.mk (hp_); have n2_ := Aside0.mk (Kd.R_over' (v := (.slice (some ⟨go9, 0, none⟩) t191.length co11)) (kd3_ HO204.out) (Kd.R_typed HO193.out) (by decide) hg); have n3_ := Aside0.mk ((by rw [hw]; exact below_set (HB.out) (Nat.le_trans HL.out GB9.out) : Below w0.heap.size w0 w19)); have n4_ := Aside0.mk (KeepBut.trans z3_0 (KeepBut.of_grown hg g) (Kd.R_base2 HO193.out)); clear HI0; clear HO193; clear HO204; clear HB; clear HK; have HI0 := n0_; have HO193 := n1_; have HO204 := n2_; have HB := n3_; have HK := n4_; clear n0_ n1_ n2_ n3_ n4_; clear hg hw hp_))
     go_ret
     exact ⟨_, z3_5, by (with_reducible repeat (first | apply Kd.R_alloc | apply Kd.R_drewN | apply Kd.R_drew)); exact HO193.out, z3_2, z3_4, z3_0⟩
    ·rw [if_neg c8] at H
     exact absurd H (by simp)
   ·rw [if_neg c7] at H
    exact absurd H (by simp)
  ·rw [if_neg c5] at H
   have c5b0 : (t199 == 0) = false := beq_eq_false_iff_ne.mpr c5
   have c5b1 : (t199 != 0) = true := bne_iff_ne.mpr c5
   by_cases c20 : t199 = 1
   ·rw [if_pos c20] at H
    have c20b0 : (t199 == 1) = true := beq_iff_eq.mpr c20
    have c20b1 : (t199 != 1) = false := bne_eq_false_iff_eq.mpr c20
    clear c20
    replace H := Option.bind_eq_some_iff.mp H
    obtain ⟨⟨t209, t210, t211⟩, A210, H⟩ := H
    replace H : (if 0 ≤ t196 then (if t196 < (t191.length : Int) then (some ((t191.set (t196 : Int).toNat (⟨(rd_T31 t191 t196).f0, t209, (rd_T31 t191 t196).f2, (rd_T31 t191 t196).f3⟩ : S31)), t210, t211)) else (none)) else (none)) = some (r1, r2, r3) := H
    have A21 := Aside0.mk A210
    clear A210
    by_cases c22 : 0 ≤ t196
    ·rw [if_pos c22] at H
     have c22b0 : decide (0 ≤ t196) = true := decide_eq_true c22
     clear c22
     by_cases c23 : t196 < (t191.length : Int)
     ·rw [if_pos c23] at H
      have c23b0 : decide (t196 < (t191.length : Int)) = true := decide_eq_true c23
      clear c23
      obtain ⟨y212, hy212⟩ : ∃ y_ : List (S31), y_ = (t191.set (t196 : Int).toNat (⟨(rd_T31 t191 t196).f0, t209, (rd_T31 t191 t196).f2, (rd_T31 t191 t196).f3⟩ : S31)) := ⟨_, rfl⟩
      replace H : (some (y212, t210, t211)) = some (r1, r2, r3) := by first | (rw [hy212]; with_reducible exact H) | (have H2_ := (Option.bind_some _ _).symm.trans H; rw [hy212]; with_reducible exact H2_) | (have H2_ := (Option.bind_some _ _).symm.trans H; with_reducible exact H2_) | with_reducible exact H | (rw [hy212]; exact H) | exact H
      have Ny212 := Aside0.mk hy212
      clear hy212
      simp only [Option.some.injEq, Prod.mk.injEq] at H
      obtain ⟨rfl, rfl, rfl⟩ := H
      go_enter Try.func50, Try.ntmps50
      go_wp2_with (first | ((with_reducible refine gate_callee (f := 83) rfl ?_); refine goesL_ (some 6) rfl rfl Try.func83 (by kernel_rfl) rfl #[.pointer (some ⟨g, 0, none⟩)] rfl z3_1 ?_; (with_reducible refine (spec_l15Draw.calls k g s0_0 s0_1 s0_2 t191 t194 t195 w0 _ ?side1 ?side2 A2.out).mono ?_); (case side1 => exact z3_2); (case side2 => exact z3_4); rintro e w25 ⟨v192, rfl, ho0, hi, hb, hk⟩; refine ⟨_, rfl, ?_⟩; have n0_ := Aside0.mk (Kd.R_lower ho0 (keep_size (w := w) (g := g) (row := none) z3_0)); have n1_ := Aside0.mk (KeepBut.trans z3_0 hk (.inl rfl)); have n2_ := Aside0.mk (hb); have n3_ := Aside0.mk (hi); clear HK; clear HB; clear HI0; have HO193 := n0_; have HK := n1_; have HB := n2_; have HI0 := n3_; clear n0_ n1_ n2_ n3_; (try clear hb); (try clear hb2); (try clear hk); (try clear hi); (try clear ho0); obtain ⟨Ao26, co26, eo26⟩ := Kd.R_slice HO193.out; subst eo26) | ((with_reducible refine gate_callee (f := 71) rfl ?_); refine goesL_ (some 10) rfl rfl Try.func71 (by kernel_rfl) rfl #[.pointer (some ⟨g, 0, none⟩), .int .i64 (t191.length : Int)] rfl z3_1 ?_; (with_reducible refine (spec_l1Below.calls g s0_0 t194 t195 (t191.length : Int) t196 t197 t198 w0 _ ?side1 ?side2 A3.out).mono ?_); (case side1 => exact z3_2); (case side2 => exact z3_4); rintro e w27 ⟨rfl, hi, hb, hk⟩; refine ⟨_, rfl, ?_⟩; have n0_ := Aside0.mk (Kd.R_mono (Kd.R_keep (IsS98.apart (show IsS98 w0 _ g s0_0 t194 t195 from by repeat (first | (with_reducible first | exact HI0.out | apply IsS98.alloc | apply IsS98.drewN | apply IsS98.drew | apply IsS98.set_1 | apply IsS98.set_2) | exact HI0.out)) (kd3_ HO193.out) (by decide)) hk (fun _ h => h.2)) (fun _ h => h.1)); have n1_ := Aside0.mk (KeepBut.trans z3_0 hk (.inl rfl)); have n2_ := Aside0.mk (hb); have n3_ := Aside0.mk (hi); clear HO193; clear HK; clear HB; clear HI0; have HO193 := n0_; have HK := n1_; have HB := n2_; have HI0 := n3_; clear n0_ n1_ n2_ n3_; (try clear hb); (try clear hb2); (try clear hk); (try clear hi)) | ((with_reducible refine gate_callee (f := 71) rfl ?_); refine goesL_ (some 12) rfl rfl Try.func71 (by kernel_rfl) rfl #[.pointer (some ⟨g, 0, none⟩), .int .i64 12] rfl z3_1 ?_; (with_reducible refine (spec_l1Below.calls g s0_0 t197 t198 12 t199 t200 t201 w0 _ ?side1 ?side2 A4.out).mono ?_); (case side1 => exact z3_2); (case side2 => exact z3_4); rintro e w28 ⟨rfl, hi, hb, hk⟩; refine ⟨_, rfl, ?_⟩; have n0_ := Aside0.mk (Kd.R_mono (Kd.R_keep (IsS98.apart (show IsS98 w0 _ g s0_0 t197 t198 from by repeat (first | (with_reducible first | exact HI0.out | apply IsS98.alloc | apply IsS98.drewN | apply IsS98.drew | apply IsS98.set_1 | apply IsS98.set_2) | exact HI0.out)) (kd3_ HO193.out) (by decide)) hk (fun _ h => h.2)) (fun _ h => h.1)); have n1_ := Aside0.mk (KeepBut.trans z3_0 hk (.inl rfl)); have n2_ := Aside0.mk (hb); have n3_ := Aside0.mk (hi); clear HO193; clear HK; clear HB; clear HI0; have HO193 := n0_; have HK := n1_; have HB := n2_; have HI0 := n3_; clear n0_ n1_ n2_ n3_; (try clear hb); (try clear hb2); (try clear hk); (try clear hi)) | ((with_reducible refine gate_callee (f := 69) rfl ?_); refine goesL_ (some 27) rfl rfl Try.func69 (by kernel_rfl) rfl #[.pointer (some ⟨g, 0, none⟩)] rfl z3_1 ?_; (with_reducible refine (spec_l4Any.calls g s0_0 t200 t201 t209 t210 t211 w0 _ ?side1 ?side2 A21.out).mono ?_); (case side1 => exact z3_2); (case side2 => exact z3_4); rintro e w29 ⟨rfl, hi, hb, hk⟩; refine ⟨_, rfl, ?_⟩; have n0_ := Aside0.mk (Kd.R_mono (Kd.R_keep (IsS98.apart (show IsS98 w0 _ g s0_0 t200 t201 from by repeat (first | (with_reducible first | exact HI0.out | apply IsS98.alloc | apply IsS98.drewN | apply IsS98.drew | apply IsS98.set_1 | apply IsS98.set_2) | exact HI0.out)) (kd3_ HO193.out) (by decide)) hk (fun _ h => h.2)) (fun _ h => h.1)); have n1_ := Aside0.mk (KeepBut.trans z3_0 hk (.inl rfl)); have n2_ := Aside0.mk (hb); have n3_ := Aside0.mk (hi); clear HO193; clear HK; clear HB; clear HI0; have HO193 := n0_; have HK := n1_; have HB := n2_; have HI0 := n3_; clear n0_ n1_ n2_ n3_; (try clear hb); (try clear hb2); (try clear hk); (try clear hi); have p24 : 0 ≤ (t196 : Int) := of_decide_eq_true z3_3; have q24 : (t196 : Int) < ((t191.length : Int) : Int) := of_decide_eq_true z3_3; obtain ⟨go24, co24, eo24, gb24, gl24, cl24, HG24⟩ := Kd.R_form HO193.out (by omega); (first | cases eo24 | (injection eo24 with ea_ en_ ec_; (first | subst ea_ | (injection ea_ with ea_; subst ea_)); subst ec_; clear en_)); have GB24 := Aside0.mk gb24; have GG24 := Aside0.mk HG24; clear gb24 gl24 HG24; obtain ⟨ce24, hcl24, hM24, hcc24, hfr24⟩ := Kd.R_elem HO193.out z31 (t196 : Int) p24 q24; obtain rfl := k31_openM hM24; have hx24_0 : w29.cell? ⟨go24, (t196 : Int).toNat * 4, none⟩ = some (.int .i64 ((rd_T31 t191 t196).f0)) := hcc24 0 _ rfl; have hx24_1 : w29.cell? ⟨go24, (t196 : Int).toNat * 4 + 1, none⟩ = some (.string ((rd_T31 t191 t196).f1)) := hcc24 1 _ rfl; have hx24_2 : w29.cell? ⟨go24, (t196 : Int).toNat * 4 + 2, none⟩ = some (.int .i64 ((rd_T31 t191 t196).f2)) := hcc24 2 _ rfl; have hx24_3 : w29.cell? ⟨go24, (t196 : Int).toNat * 4 + 3, none⟩ = some (.int .i64 ((rd_T31 t191 t196).f3)) := hcc24 3 _ rfl; have hf24_0 : w29.frozen? ⟨go24, (t196 : Int).toNat * 4, none⟩ = false := hfr24 0; have hf24_1 : w29.frozen? ⟨go24, (t196 : Int).toNat * 4 + 1, none⟩ = false := hfr24 1; have hf24_2 : w29.frozen? ⟨go24, (t196 : Int).toNat * 4 + 2, none⟩ = false := hfr24 2; have hf24_3 : w29.frozen? ⟨go24, (t196 : Int).toNat * 4 + 3, none⟩ = false := hfr24 3; clear hcl24 hcc24 hfr24; (try clear hM24); replace p24 := eq_true p24; replace q24 := eq_true q24; have HX30 := Aside0.mk (show Kd.R k31 31 w29 w.heap.size (fun _ => True) (.slice (some ⟨go24, 0, none⟩) t191.length co26) t191 from (kd3_ HO193.out)); obtain ⟨ce30, hcl30, hM30, hcc30, hfr30⟩ := Kd.R_elem HX30.out z31 (t196 : Int) (of_decide_eq_true z3_3) (by have h_ : (t196 : Int) < ((t191.length : Int) : Int) := of_decide_eq_true z3_3; first | exact h_ | (have e_ := (Kd.R_reads' HO193.out).1; omega) | simpa using h_); obtain rfl := k31_openM hM30; have HP30 := Kd.R_seg HX30.out (t196 : Int) (of_decide_eq_true z3_3) (by have h_ : (t196 : Int) < ((t191.length : Int) : Int) := of_decide_eq_true z3_3; first | exact h_ | (have e_ := (Kd.R_reads' HO193.out).1; omega) | simpa using h_) (seg := [.string t209]) (j := 1) hcl30 hcc30 (show 2 ≤ 4 from by decide) (x' := (⟨(rd_T31 t191 t196).f0, t209, (rd_T31 t191 t196).f2, (rd_T31 t191 t196).f3⟩ : S31)) (k31_mkM _ _ _ (⟨(rd_T31 t191 t196).f0, t209, (rd_T31 t191 t196).f2, (rd_T31 t191 t196).f3⟩ : S31) ) (fun _ hk => hk); have hx30_1 := hcc30 1 _ rfl; (try simp only [show (k31).sz = 4 from rfl, Nat.mul_one, Nat.add_zero] at hx30_1); have hf30_1 := hfr30 1; (try simp only [show (k31).sz = 4 from rfl, Nat.mul_one, Nat.add_zero] at hf30_1); clear hcl30 hcc30 hfr30; (try clear hM30)) | ((with_reducible refine gate_store (t := 9) (p := 29) rfl ?_); refine store_event (t := 9) (p := 29) (v := ?vo_w31) (w1 := (w29.setCell ⟨go24, (t196 : Int).toNat * 4 + 1, none⟩ (.string t209))) ?hg ?ho ?hn ?hr ?_; (case ho => rfl); (case hg => rfl); (case hn => rfl); (case hr => first | (go_simp; done) | (go_simp; rfl)); intro w31 hw; have hg : w29.grownBy w31 (some go24) := (by rw [hw]; exact HP30.2); have hp_ : Kd.R k31 31 w31 w.heap.size (fun _ => True) (.slice (some ⟨go24, 0, none⟩) t191.length co26) y212 := (by rw [hw, Ny212.out]; exact HP30.1); clear HP30; have n0_ := Aside0.mk (IsS98.grown z3_2 hg (IsS98.own_ne HI0.out HO193.out (by decide))); have n1_ := Aside0.mk (hp_); have n2_ := Aside0.mk ((by rw [hw]; exact below_set (HB.out) (Nat.le_trans HL.out GB24.out) : Below w0.heap.size w0 w31)); have n3_ := Aside0.mk (KeepBut.trans z3_0 (KeepBut.of_grown hg g) (Kd.R_base2 HO193.out)); clear HI0; clear HO193; clear HB; clear HK; have HI0 := n0_; have HO193 := n1_; have HB := n2_; have HK := n3_; clear n0_ n1_ n2_ n3_; clear hg hw hp_))
      go_ret
      exact ⟨_, z3_5, by (with_reducible repeat (first | apply Kd.R_alloc | apply Kd.R_drewN | apply Kd.R_drew)); exact HO193.out, z3_2, z3_4, z3_0⟩
     ·rw [if_neg c23] at H
      exact absurd H (by simp)
    ·rw [if_neg c22] at H
     exact absurd H (by simp)
   ·rw [if_neg c20] at H
    have c20b0 : (t199 == 1) = false := beq_eq_false_iff_ne.mpr c20
    have c20b1 : (t199 != 1) = true := bne_iff_ne.mpr c20
    by_cases c32 : t199 = 2
    ·rw [if_pos c32] at H
     have c32b0 : (t199 == 2) = true := beq_iff_eq.mpr c32
     have c32b1 : (t199 != 2) = false := bne_eq_false_iff_eq.mpr c32
     clear c32
     replace H := Option.bind_eq_some_iff.mp H
     obtain ⟨⟨t213, t214, t215⟩, A330, H⟩ := H
     replace H : (if 0 ≤ t196 then (if t196 < (t191.length : Int) then (some ((t191.set (t196 : Int).toNat (⟨(rd_T31 t191 t196).f0, (rd_T31 t191 t196).f1, t213, (rd_T31 t191 t196).f3⟩ : S31)), t214, t215)) else (none)) else (none)) = some (r1, r2, r3) := H
     have A33 := Aside0.mk A330
     clear A330
     by_cases c34 : 0 ≤ t196
     ·rw [if_pos c34] at H
      have c34b0 : decide (0 ≤ t196) = true := decide_eq_true c34
      clear c34
      by_cases c35 : t196 < (t191.length : Int)
      ·rw [if_pos c35] at H
       have c35b0 : decide (t196 < (t191.length : Int)) = true := decide_eq_true c35
       clear c35
       obtain ⟨y216, hy216⟩ : ∃ y_ : List (S31), y_ = (t191.set (t196 : Int).toNat (⟨(rd_T31 t191 t196).f0, (rd_T31 t191 t196).f1, t213, (rd_T31 t191 t196).f3⟩ : S31)) := ⟨_, rfl⟩
       replace H : (some (y216, t214, t215)) = some (r1, r2, r3) := by first | (rw [hy216]; with_reducible exact H) | (have H2_ := (Option.bind_some _ _).symm.trans H; rw [hy216]; with_reducible exact H2_) | (have H2_ := (Option.bind_some _ _).symm.trans H; with_reducible exact H2_) | with_reducible exact H | (rw [hy216]; exact H) | exact H
       have Ny216 := Aside0.mk hy216
       clear hy216
       simp only [Option.some.injEq, Prod.mk.injEq] at H
       obtain ⟨rfl, rfl, rfl⟩ := H
       go_enter Try.func50, Try.ntmps50
       go_wp2_with (first | ((with_reducible refine gate_callee (f := 83) rfl ?_); refine goesL_ (some 6) rfl rfl Try.func83 (by kernel_rfl) rfl #[.pointer (some ⟨g, 0, none⟩)] rfl z3_1 ?_; (with_reducible refine (spec_l15Draw.calls k g s0_0 s0_1 s0_2 t191 t194 t195 w0 _ ?side1 ?side2 A2.out).mono ?_); (case side1 => exact z3_2); (case side2 => exact z3_4); rintro e w37 ⟨v192, rfl, ho0, hi, hb, hk⟩; refine ⟨_, rfl, ?_⟩; have n0_ := Aside0.mk (Kd.R_lower ho0 (keep_size (w := w) (g := g) (row := none) z3_0)); have n1_ := Aside0.mk (KeepBut.trans z3_0 hk (.inl rfl)); have n2_ := Aside0.mk (hb); have n3_ := Aside0.mk (hi); clear HK; clear HB; clear HI0; have HO193 := n0_; have HK := n1_; have HB := n2_; have HI0 := n3_; clear n0_ n1_ n2_ n3_; (try clear hb); (try clear hb2); (try clear hk); (try clear hi); (try clear ho0); obtain ⟨Ao38, co38, eo38⟩ := Kd.R_slice HO193.out; subst eo38) | ((with_reducible refine gate_callee (f := 71) rfl ?_); refine goesL_ (some 10) rfl rfl Try.func71 (by kernel_rfl) rfl #[.pointer (some ⟨g, 0, none⟩), .int .i64 (t191.length : Int)] rfl z3_1 ?_; (with_reducible refine (spec_l1Below.calls g s0_0 t194 t195 (t191.length : Int) t196 t197 t198 w0 _ ?side1 ?side2 A3.out).mono ?_); (case side1 => exact z3_2); (case side2 => exact z3_4); rintro e w39 ⟨rfl, hi, hb, hk⟩; refine ⟨_, rfl, ?_⟩; have n0_ := Aside0.mk (Kd.R_mono (Kd.R_keep (IsS98.apart (show IsS98 w0 _ g s0_0 t194 t195 from by repeat (first | (with_reducible first | exact HI0.out | apply IsS98.alloc | apply IsS98.drewN | apply IsS98.drew | apply IsS98.set_1 | apply IsS98.set_2) | exact HI0.out)) (kd3_ HO193.out) (by decide)) hk (fun _ h => h.2)) (fun _ h => h.1)); have n1_ := Aside0.mk (KeepBut.trans z3_0 hk (.inl rfl)); have n2_ := Aside0.mk (hb); have n3_ := Aside0.mk (hi); clear HO193; clear HK; clear HB; clear HI0; have HO193 := n0_; have HK := n1_; have HB := n2_; have HI0 := n3_; clear n0_ n1_ n2_ n3_; (try clear hb); (try clear hb2); (try clear hk); (try clear hi)) | ((with_reducible refine gate_callee (f := 71) rfl ?_); refine goesL_ (some 12) rfl rfl Try.func71 (by kernel_rfl) rfl #[.pointer (some ⟨g, 0, none⟩), .int .i64 12] rfl z3_1 ?_; (with_reducible refine (spec_l1Below.calls g s0_0 t197 t198 12 t199 t200 t201 w0 _ ?side1 ?side2 A4.out).mono ?_); (case side1 => exact z3_2); (case side2 => exact z3_4); rintro e w40 ⟨rfl, hi, hb, hk⟩; refine ⟨_, rfl, ?_⟩; have n0_ := Aside0.mk (Kd.R_mono (Kd.R_keep (IsS98.apart (show IsS98 w0 _ g s0_0 t197 t198 from by repeat (first | (with_reducible first | exact HI0.out | apply IsS98.alloc | apply IsS98.drewN | apply IsS98.drew | apply IsS98.set_1 | apply IsS98.set_2) | exact HI0.out)) (kd3_ HO193.out) (by decide)) hk (fun _ h => h.2)) (fun _ h => h.1)); have n1_ := Aside0.mk (KeepBut.trans z3_0 hk (.inl rfl)); have n2_ := Aside0.mk (hb); have n3_ := Aside0.mk (hi); clear HO193; clear HK; clear HB; clear HI0; have HO193 := n0_; have HK := n1_; have HB := n2_; have HI0 := n3_; clear n0_ n1_ n2_ n3_; (try clear hb); (try clear hb2); (try clear hk); (try clear hi)) | ((with_reducible refine gate_callee (f := 85) rfl ?_); refine goesL_ (some 35) rfl rfl Try.func85 (by kernel_rfl) rfl #[.pointer (some ⟨g, 0, none⟩)] rfl z3_1 ?_; (with_reducible refine (spec_l5Raw.calls g s0_0 t200 t201 t213 t214 t215 w0 _ ?side1 ?side2 A33.out).mono ?_); (case side1 => exact z3_2); (case side2 => exact z3_4); rintro e w41 ⟨rfl, hi, hb, hk⟩; refine ⟨_, rfl, ?_⟩; have n0_ := Aside0.mk (Kd.R_mono (Kd.R_keep (IsS98.apart (show IsS98 w0 _ g s0_0 t200 t201 from by repeat (first | (with_reducible first | exact HI0.out | apply IsS98.alloc | apply IsS98.drewN | apply IsS98.drew | apply IsS98.set_1 | apply IsS98.set_2) | exact HI0.out)) (kd3_ HO193.out) (by decide)) hk (fun _ h => h.2)) (fun _ h => h.1)); have n1_ := Aside0.mk (KeepBut.trans z3_0 hk (.inl rfl)); have n2_ := Aside0.mk (hb); have n3_ := Aside0.mk (hi); clear HO193; clear HK; clear HB; clear HI0; have HO193 := n0_; have HK := n1_; have HB := n2_; have HI0 := n3_; clear n0_ n1_ n2_ n3_; (try clear hb); (try clear hb2); (try clear hk); (try clear hi); have p36 : 0 ≤ (t196 : Int) := of_decide_eq_true z3_3; have q36 : (t196 : Int) < ((t191.length : Int) : Int) := of_decide_eq_true z3_3; obtain ⟨go36, co36, eo36, gb36, gl36, cl36, HG36⟩ := Kd.R_form HO193.out (by omega); (first | cases eo36 | (injection eo36 with ea_ en_ ec_; (first | subst ea_ | (injection ea_ with ea_; subst ea_)); subst ec_; clear en_)); have GB36 := Aside0.mk gb36; have GG36 := Aside0.mk HG36; clear gb36 gl36 HG36; obtain ⟨ce36, hcl36, hM36, hcc36, hfr36⟩ := Kd.R_elem HO193.out z31 (t196 : Int) p36 q36; obtain rfl := k31_openM hM36; have hx36_0 : w41.cell? ⟨go36, (t196 : Int).toNat * 4, none⟩ = some (.int .i64 ((rd_T31 t191 t196).f0)) := hcc36 0 _ rfl; have hx36_1 : w41.cell? ⟨go36, (t196 : Int).toNat * 4 + 1, none⟩ = some (.string ((rd_T31 t191 t196).f1)) := hcc36 1 _ rfl; have hx36_2 : w41.cell? ⟨go36, (t196 : Int).toNat * 4 + 2, none⟩ = some (.int .i64 ((rd_T31 t191 t196).f2)) := hcc36 2 _ rfl; have hx36_3 : w41.cell? ⟨go36, (t196 : Int).toNat * 4 + 3, none⟩ = some (.int .i64 ((rd_T31 t191 t196).f3)) := hcc36 3 _ rfl; have hf36_0 : w41.frozen? ⟨go36, (t196 : Int).toNat * 4, none⟩ = false := hfr36 0; have hf36_1 : w41.frozen? ⟨go36, (t196 : Int).toNat * 4 + 1, none⟩ = false := hfr36 1; have hf36_2 : w41.frozen? ⟨go36, (t196 : Int).toNat * 4 + 2, none⟩ = false := hfr36 2; have hf36_3 : w41.frozen? ⟨go36, (t196 : Int).toNat * 4 + 3, none⟩ = false := hfr36 3; clear hcl36 hcc36 hfr36; (try clear hM36); replace p36 := eq_true p36; replace q36 := eq_true q36; have HX42 := Aside0.mk (show Kd.R k31 31 w41 w.heap.size (fun _ => True) (.slice (some ⟨go36, 0, none⟩) t191.length co38) t191 from (kd3_ HO193.out)); obtain ⟨ce42, hcl42, hM42, hcc42, hfr42⟩ := Kd.R_elem HX42.out z31 (t196 : Int) (of_decide_eq_true z3_3) (by have h_ : (t196 : Int) < ((t191.length : Int) : Int) := of_decide_eq_true z3_3; first | exact h_ | (have e_ := (Kd.R_reads' HO193.out).1; omega) | simpa using h_); obtain rfl := k31_openM hM42; have HP42 := Kd.R_seg HX42.out (t196 : Int) (of_decide_eq_true z3_3) (by have h_ : (t196 : Int) < ((t191.length : Int) : Int) := of_decide_eq_true z3_3; first | exact h_ | (have e_ := (Kd.R_reads' HO193.out).1; omega) | simpa using h_) (seg := [.int .i64 t213]) (j := 2) hcl42 hcc42 (show 3 ≤ 4 from by decide) (x' := (⟨(rd_T31 t191 t196).f0, (rd_T31 t191 t196).f1, t213, (rd_T31 t191 t196).f3⟩ : S31)) (k31_mkM _ _ _ (⟨(rd_T31 t191 t196).f0, (rd_T31 t191 t196).f1, t213, (rd_T31 t191 t196).f3⟩ : S31) ) (fun _ hk => hk); have hx42_2 := hcc42 2 _ rfl; (try simp only [show (k31).sz = 4 from rfl, Nat.mul_one, Nat.add_zero] at hx42_2); have hf42_2 := hfr42 2; (try simp only [show (k31).sz = 4 from rfl, Nat.mul_one, Nat.add_zero] at hf42_2); clear hcl42 hcc42 hfr42; (try clear hM42)) | ((with_reducible refine gate_store (t := 3) (p := 37) rfl ?_); refine store_event (t := 3) (p := 37) (v := ?vo_w43) (w1 := (w41.setCell ⟨go36, (t196 : Int).toNat * 4 + 2, none⟩ (.int .i64 t213))) ?hg ?ho ?hn ?hr ?_; (case ho => rfl); (case hg => rfl); (case hn => rfl); (case hr => first | (go_simp; done) | (go_simp; rfl)); intro w43 hw; have hg : w41.grownBy w43 (some go36) := (by rw [hw]; exact HP42.2); have hp_ : Kd.R k31 31 w43 w.heap.size (fun _ => True) (.slice (some ⟨go36, 0, none⟩) t191.length co38) y216 := (by rw [hw, Ny216.out]; exact HP42.1); clear HP42; have n0_ := Aside0.mk (IsS98.grown z3_2 hg (IsS98.own_ne HI0.out HO193.out (by decide))); have n1_ := Aside0.mk (hp_); have n2_ := Aside0.mk ((by rw [hw]; exact below_set (HB.out) (Nat.le_trans HL.out GB36.out) : Below w0.heap.size w0 w43)); have n3_ := Aside0.mk (KeepBut.trans z3_0 (KeepBut.of_grown hg g) (Kd.R_base2 HO193.out)); clear HI0; clear HO193; clear HB; clear HK; have HI0 := n0_; have HO193 := n1_; have HB := n2_; have HK := n3_; clear n0_ n1_ n2_ n3_; clear hg hw hp_))
       go_ret
       exact ⟨_, z3_5, by (with_reducible repeat (first | apply Kd.R_alloc | apply Kd.R_drewN | apply Kd.R_drew)); exact HO193.out, z3_2, z3_4, z3_0⟩
      ·rw [if_neg c35] at H
       exact absurd H (by simp)
     ·rw [if_neg c34] at H
      exact absurd H (by simp)
    ·rw [if_neg c32] at H
     have c32b0 : (t199 == 2) = false := beq_eq_false_iff_ne.mpr c32
     have c32b1 : (t199 != 2) = true := bne_iff_ne.mpr c32
     by_cases c44 : t199 = 3
     ·rw [if_pos c44] at H
      have c44b0 : (t199 == 3) = true := beq_iff_eq.mpr c44
      have c44b1 : (t199 != 3) = false := bne_eq_false_iff_eq.mpr c44
      clear c44
      replace H := Option.bind_eq_some_iff.mp H
      obtain ⟨⟨t217, t218, t219⟩, A450, H⟩ := H
      replace H : (if 0 ≤ t196 then (if t196 < (t191.length : Int) then (some ((t191.set (t196 : Int).toNat (⟨(rd_T31 t191 t196).f0, (rd_T31 t191 t196).f1, (rd_T31 t191 t196).f2, t217⟩ : S31)), t218, t219)) else (none)) else (none)) = some (r1, r2, r3) := H
      have A45 := Aside0.mk A450
      clear A450
      by_cases c46 : 0 ≤ t196
      ·rw [if_pos c46] at H
       have c46b0 : decide (0 ≤ t196) = true := decide_eq_true c46
       clear c46
       by_cases c47 : t196 < (t191.length : Int)
       ·rw [if_pos c47] at H
        have c47b0 : decide (t196 < (t191.length : Int)) = true := decide_eq_true c47
        clear c47
        obtain ⟨y220, hy220⟩ : ∃ y_ : List (S31), y_ = (t191.set (t196 : Int).toNat (⟨(rd_T31 t191 t196).f0, (rd_T31 t191 t196).f1, (rd_T31 t191 t196).f2, t217⟩ : S31)) := ⟨_, rfl⟩
        replace H : (some (y220, t218, t219)) = some (r1, r2, r3) := by first | (rw [hy220]; with_reducible exact H) | (have H2_ := (Option.bind_some _ _).symm.trans H; rw [hy220]; with_reducible exact H2_) | (have H2_ := (Option.bind_some _ _).symm.trans H; with_reducible exact H2_) | with_reducible exact H | (rw [hy220]; exact H) | exact H
        have Ny220 := Aside0.mk hy220
        clear hy220
        simp only [Option.some.injEq, Prod.mk.injEq] at H
        obtain ⟨rfl, rfl, rfl⟩ := H
        go_enter Try.func50, Try.ntmps50
        go_wp2_with (first | ((with_reducible refine gate_callee (f := 83) rfl ?_); refine goesL_ (some 6) rfl rfl Try.func83 (by kernel_rfl) rfl #[.pointer (some ⟨g, 0, none⟩)] rfl z3_1 ?_; (with_reducible refine (spec_l15Draw.calls k g s0_0 s0_1 s0_2 t191 t194 t195 w0 _ ?side1 ?side2 A2.out).mono ?_); (case side1 => exact z3_2); (case side2 => exact z3_4); rintro e w49 ⟨v192, rfl, ho0, hi, hb, hk⟩; refine ⟨_, rfl, ?_⟩; have n0_ := Aside0.mk (Kd.R_lower ho0 (keep_size (w := w) (g := g) (row := none) z3_0)); have n1_ := Aside0.mk (KeepBut.trans z3_0 hk (.inl rfl)); have n2_ := Aside0.mk (hb); have n3_ := Aside0.mk (hi); clear HK; clear HB; clear HI0; have HO193 := n0_; have HK := n1_; have HB := n2_; have HI0 := n3_; clear n0_ n1_ n2_ n3_; (try clear hb); (try clear hb2); (try clear hk); (try clear hi); (try clear ho0); obtain ⟨Ao50, co50, eo50⟩ := Kd.R_slice HO193.out; subst eo50) | ((with_reducible refine gate_callee (f := 71) rfl ?_); refine goesL_ (some 10) rfl rfl Try.func71 (by kernel_rfl) rfl #[.pointer (some ⟨g, 0, none⟩), .int .i64 (t191.length : Int)] rfl z3_1 ?_; (with_reducible refine (spec_l1Below.calls g s0_0 t194 t195 (t191.length : Int) t196 t197 t198 w0 _ ?side1 ?side2 A3.out).mono ?_); (case side1 => exact z3_2); (case side2 => exact z3_4); rintro e w51 ⟨rfl, hi, hb, hk⟩; refine ⟨_, rfl, ?_⟩; have n0_ := Aside0.mk (Kd.R_mono (Kd.R_keep (IsS98.apart (show IsS98 w0 _ g s0_0 t194 t195 from by repeat (first | (with_reducible first | exact HI0.out | apply IsS98.alloc | apply IsS98.drewN | apply IsS98.drew | apply IsS98.set_1 | apply IsS98.set_2) | exact HI0.out)) (kd3_ HO193.out) (by decide)) hk (fun _ h => h.2)) (fun _ h => h.1)); have n1_ := Aside0.mk (KeepBut.trans z3_0 hk (.inl rfl)); have n2_ := Aside0.mk (hb); have n3_ := Aside0.mk (hi); clear HO193; clear HK; clear HB; clear HI0; have HO193 := n0_; have HK := n1_; have HB := n2_; have HI0 := n3_; clear n0_ n1_ n2_ n3_; (try clear hb); (try clear hb2); (try clear hk); (try clear hi)) | ((with_reducible refine gate_callee (f := 71) rfl ?_); refine goesL_ (some 12) rfl rfl Try.func71 (by kernel_rfl) rfl #[.pointer (some ⟨g, 0, none⟩), .int .i64 12] rfl z3_1 ?_; (with_reducible refine (spec_l1Below.calls g s0_0 t197 t198 12 t199 t200 t201 w0 _ ?side1 ?side2 A4.out).mono ?_); (case side1 => exact z3_2); (case side2 => exact z3_4); rintro e w52 ⟨rfl, hi, hb, hk⟩; refine ⟨_, rfl, ?_⟩; have n0_ := Aside0.mk (Kd.R_mono (Kd.R_keep (IsS98.apart (show IsS98 w0 _ g s0_0 t197 t198 from by repeat (first | (with_reducible first | exact HI0.out | apply IsS98.alloc | apply IsS98.drewN | apply IsS98.drew | apply IsS98.set_1 | apply IsS98.set_2) | exact HI0.out)) (kd3_ HO193.out) (by decide)) hk (fun _ h => h.2)) (fun _ h => h.1)); have n1_ := Aside0.mk (KeepBut.trans z3_0 hk (.inl rfl)); have n2_ := Aside0.mk (hb); have n3_ := Aside0.mk (hi); clear HO193; clear HK; clear HB; clear HI0; have HO193 := n0_; have HK := n1_; have HB := n2_; have HI0 := n3_; clear n0_ n1_ n2_ n3_; (try clear hb); (try clear hb2); (try clear hk); (try clear hi)) | ((with_reducible refine gate_callee (f := 85) rfl ?_); refine goesL_ (some 43) rfl rfl Try.func85 (by kernel_rfl) rfl #[.pointer (some ⟨g, 0, none⟩)] rfl z3_1 ?_; (with_reducible refine (spec_l5Raw.calls g s0_0 t200 t201 t217 t218 t219 w0 _ ?side1 ?side2 A45.out).mono ?_); (case side1 => exact z3_2); (case side2 => exact z3_4); rintro e w53 ⟨rfl, hi, hb, hk⟩; refine ⟨_, rfl, ?_⟩; have n0_ := Aside0.mk (Kd.R_mono (Kd.R_keep (IsS98.apart (show IsS98 w0 _ g s0_0 t200 t201 from by repeat (first | (with_reducible first | exact HI0.out | apply IsS98.alloc | apply IsS98.drewN | apply IsS98.drew | apply IsS98.set_1 | apply IsS98.set_2) | exact HI0.out)) (kd3_ HO193.out) (by decide)) hk (fun _ h => h.2)) (fun _ h => h.1)); have n1_ := Aside0.mk (KeepBut.trans z3_0 hk (.inl rfl)); have n2_ := Aside0.mk (hb); have n3_ := Aside0.mk (hi); clear HO193; clear HK; clear HB; clear HI0; have HO193 := n0_; have HK := n1_; have HB := n2_; have HI0 := n3_; clear n0_ n1_ n2_ n3_; (try clear hb); (try clear hb2); (try clear hk); (try clear hi); have p48 : 0 ≤ (t196 : Int) := of_decide_eq_true z3_3; have q48 : (t196 : Int) < ((t191.length : Int) : Int) := of_decide_eq_true z3_3; obtain ⟨go48, co48, eo48, gb48, gl48, cl48, HG48⟩ := Kd.R_form HO193.out (by omega); (first | cases eo48 | (injection eo48 with ea_ en_ ec_; (first | subst ea_ | (injection ea_ with ea_; subst ea_)); subst ec_; clear en_)); have GB48 := Aside0.mk gb48; have GG48 := Aside0.mk HG48; clear gb48 gl48 HG48; obtain ⟨ce48, hcl48, hM48, hcc48, hfr48⟩ := Kd.R_elem HO193.out z31 (t196 : Int) p48 q48; obtain rfl := k31_openM hM48; have hx48_0 : w53.cell? ⟨go48, (t196 : Int).toNat * 4, none⟩ = some (.int .i64 ((rd_T31 t191 t196).f0)) := hcc48 0 _ rfl; have hx48_1 : w53.cell? ⟨go48, (t196 : Int).toNat * 4 + 1, none⟩ = some (.string ((rd_T31 t191 t196).f1)) := hcc48 1 _ rfl; have hx48_2 : w53.cell? ⟨go48, (t196 : Int).toNat * 4 + 2, none⟩ = some (.int .i64 ((rd_T31 t191 t196).f2)) := hcc48 2 _ rfl; have hx48_3 : w53.cell? ⟨go48, (t196 : Int).toNat * 4 + 3, none⟩ = some (.int .i64 ((rd_T31 t191 t196).f3)) := hcc48 3 _ rfl; have hf48_0 : w53.frozen? ⟨go48, (t196 : Int).toNat * 4, none⟩ = false := hfr48 0; have hf48_1 : w53.frozen? ⟨go48, (t196 : Int).toNat * 4 + 1, none⟩ = false := hfr48 1; have hf48_2 : w53.frozen? ⟨go48, (t196 : Int).toNat * 4 + 2, none⟩ = false := hfr48 2; have hf48_3 : w53.frozen? ⟨go48, (t196 : Int).toNat * 4 + 3, none⟩ = false := hfr48 3; clear hcl48 hcc48 hfr48; (try clear hM48); replace p48 := eq_true p48; replace q48 := eq_true q48; have HX54 := Aside0.mk (show Kd.R k31 31 w53 w.heap.size (fun _ => True) (.slice (some ⟨go48, 0, none⟩) t191.length co50) t191 from (kd3_ HO193.out)); obtain ⟨ce54, hcl54, hM54, hcc54, hfr54⟩ := Kd.R_elem HX54.out z31 (t196 : Int) (of_decide_eq_true z3_3) (by have h_ : (t196 : Int) < ((t191.length : Int) : Int) := of_decide_eq_true z3_3; first | exact h_ | (have e_ := (Kd.R_reads' HO193.out).1; omega) | simpa using h_); obtain rfl := k31_openM hM54; have HP54 := Kd.R_seg HX54.out (t196 : Int) (of_decide_eq_true z3_3) (by have h_ : (t196 : Int) < ((t191.length : Int) : Int) := of_decide_eq_true z3_3; first | exact h_ | (have e_ := (Kd.R_reads' HO193.out).1; omega) | simpa using h_) (seg := [.int .i64 t217]) (j := 3) hcl54 hcc54 (show 4 ≤ 4 from by decide) (x' := (⟨(rd_T31 t191 t196).f0, (rd_T31 t191 t196).f1, (rd_T31 t191 t196).f2, t217⟩ : S31)) (k31_mkM _ _ _ (⟨(rd_T31 t191 t196).f0, (rd_T31 t191 t196).f1, (rd_T31 t191 t196).f2, t217⟩ : S31) ) (fun _ hk => hk); have hx54_3 := hcc54 3 _ rfl; (try simp only [show (k31).sz = 4 from rfl, Nat.mul_one, Nat.add_zero] at hx54_3); have hf54_3 := hfr54 3; (try simp only [show (k31).sz = 4 from rfl, Nat.mul_one, Nat.add_zero] at hf54_3); clear hcl54 hcc54 hfr54; (try clear hM54)) | ((with_reducible refine gate_store (t := 3) (p := 45) rfl ?_); refine store_event (t := 3) (p := 45) (v := ?vo_w55) (w1 := (w53.setCell ⟨go48, (t196 : Int).toNat * 4 + 3, none⟩ (.int .i64 t217))) ?hg ?ho ?hn ?hr ?_; (case ho => rfl); (case hg => rfl); (case hn => rfl); (case hr => first | (go_simp; done) | (go_simp; rfl)); intro w55 hw; have hg : w53.grownBy w55 (some go48) := (by rw [hw]; exact HP54.2); have hp_ : Kd.R k31 31 w55 w.heap.size (fun _ => True) (.slice (some ⟨go48, 0, none⟩) t191.length co50) y220 := (by rw [hw, Ny220.out]; exact HP54.1); clear HP54; have n0_ := Aside0.mk (IsS98.grown z3_2 hg (IsS98.own_ne HI0.out HO193.out (by decide))); have n1_ := Aside0.mk (hp_); have n2_ := Aside0.mk ((by rw [hw]; exact below_set (HB.out) (Nat.le_trans HL.out GB48.out) : Below w0.heap.size w0 w55)); have n3_ := Aside0.mk (KeepBut.trans z3_0 (KeepBut.of_grown hg g) (Kd.R_base2 HO193.out)); clear HI0; clear HO193; clear HB; clear HK; have HI0 := n0_; have HO193 := n1_; have HB := n2_; have HK := n3_; clear n0_ n1_ n2_ n3_; clear hg hw hp_))
        go_ret
        exact ⟨_, z3_5, by (with_reducible repeat (first | apply Kd.R_alloc | apply Kd.R_drewN | apply Kd.R_drew)); exact HO193.out, z3_2, z3_4, z3_0⟩
       ·rw [if_neg c47] at H
        exact absurd H (by simp)
      ·rw [if_neg c46] at H
       exact absurd H (by simp)
     ·rw [if_neg c44] at H
      have c44b0 : (t199 == 3) = false := beq_eq_false_iff_ne.mpr c44
      have c44b1 : (t199 != 3) = true := bne_iff_ne.mpr c44
      by_cases c56 : t199 = 4
      ·rw [if_pos c56] at H
       have c56b0 : (t199 == 4) = true := beq_iff_eq.mpr c56
       have c56b1 : (t199 != 4) = false := bne_eq_false_iff_eq.mpr c56
       clear c56
       simp only [Option.some.injEq, Prod.mk.injEq] at H
       obtain ⟨rfl, rfl, rfl⟩ := H
       go_enter Try.func50, Try.ntmps50
       go_wp2_with (first | ((with_reducible refine gate_callee (f := 83) rfl ?_); refine goesL_ (some 6) rfl rfl Try.func83 (by kernel_rfl) rfl #[.pointer (some ⟨g, 0, none⟩)] rfl z3_1 ?_; (with_reducible refine (spec_l15Draw.calls k g s0_0 s0_1 s0_2 t191 t194 t195 w0 _ ?side1 ?side2 A2.out).mono ?_); (case side1 => exact z3_2); (case side2 => exact z3_4); rintro e w57 ⟨v192, rfl, ho0, hi, hb, hk⟩; refine ⟨_, rfl, ?_⟩; have n0_ := Aside0.mk (Kd.R_lower ho0 (keep_size (w := w) (g := g) (row := none) z3_0)); have n1_ := Aside0.mk (KeepBut.trans z3_0 hk (.inl rfl)); have n2_ := Aside0.mk (hb); have n3_ := Aside0.mk (hi); clear HK; clear HB; clear HI0; have HO193 := n0_; have HK := n1_; have HB := n2_; have HI0 := n3_; clear n0_ n1_ n2_ n3_; (try clear hb); (try clear hb2); (try clear hk); (try clear hi); (try clear ho0); obtain ⟨Ao58, co58, eo58⟩ := Kd.R_slice HO193.out; subst eo58) | ((with_reducible refine gate_callee (f := 71) rfl ?_); refine goesL_ (some 10) rfl rfl Try.func71 (by kernel_rfl) rfl #[.pointer (some ⟨g, 0, none⟩), .int .i64 (t191.length : Int)] rfl z3_1 ?_; (with_reducible refine (spec_l1Below.calls g s0_0 t194 t195 (t191.length : Int) t196 t197 t198 w0 _ ?side1 ?side2 A3.out).mono ?_); (case side1 => exact z3_2); (case side2 => exact z3_4); rintro e w59 ⟨rfl, hi, hb, hk⟩; refine ⟨_, rfl, ?_⟩; have n0_ := Aside0.mk (Kd.R_mono (Kd.R_keep (IsS98.apart (show IsS98 w0 _ g s0_0 t194 t195 from by repeat (first | (with_reducible first | exact HI0.out | apply IsS98.alloc | apply IsS98.drewN | apply IsS98.drew | apply IsS98.set_1 | apply IsS98.set_2) | exact HI0.out)) (kd3_ HO193.out) (by decide)) hk (fun _ h => h.2)) (fun _ h => h.1)); have n1_ := Aside0.mk (KeepBut.trans z3_0 hk (.inl rfl)); have n2_ := Aside0.mk (hb); have n3_ := Aside0.mk (hi); clear HO193; clear HK; clear HB; clear HI0; have HO193 := n0_; have HK := n1_; have HB := n2_; have HI0 := n3_; clear n0_ n1_ n2_ n3_; (try clear hb); (try clear hb2); (try clear hk); (try clear hi)) | ((with_reducible refine gate_callee (f := 71) rfl ?_); refine goesL_ (some 12) rfl rfl Try.func71 (by kernel_rfl) rfl #[.pointer (some ⟨g, 0, none⟩), .int .i64 12] rfl z3_1 ?_; (with_reducible refine (spec_l1Below.calls g s0_0 t197 t198 12 t199 t200 t201 w0 _ ?side1 ?side2 A4.out).mono ?_); (case side1 => exact z3_2); (case side2 => exact z3_4); rintro e w60 ⟨rfl, hi, hb, hk⟩; refine ⟨_, rfl, ?_⟩; have n0_ := Aside0.mk (Kd.R_mono (Kd.R_keep (IsS98.apart (show IsS98 w0 _ g s0_0 t197 t198 from by repeat (first | (with_reducible first | exact HI0.out | apply IsS98.alloc | apply IsS98.drewN | apply IsS98.drew | apply IsS98.set_1 | apply IsS98.set_2) | exact HI0.out)) (kd3_ HO193.out) (by decide)) hk (fun _ h => h.2)) (fun _ h => h.1)); have n1_ := Aside0.mk (KeepBut.trans z3_0 hk (.inl rfl)); have n2_ := Aside0.mk (hb); have n3_ := Aside0.mk (hi); clear HO193; clear HK; clear HB; clear HI0; have HO193 := n0_; have HK := n1_; have HB := n2_; have HI0 := n3_; clear n0_ n1_ n2_ n3_; (try clear hb); (try clear hb2); (try clear hk); (try clear hi)))
       go_ret
       exact ⟨_, z3_5, by first | exact Kd.R_nil _ _ _ _ _ | exact Kd.N_nil _ _ _ _ _ | exact Kd.V_nil _ _ _ _ _ | exact Kd.Q_nil _ _ _ _ _ | exact Kd.S_nil _ _ _ _ _, z3_2, z3_4, z3_0⟩
      ·rw [if_neg c56] at H
       have c56b0 : (t199 == 4) = false := beq_eq_false_iff_ne.mpr c56
       have c56b1 : (t199 != 4) = true := bne_iff_ne.mpr c56
       simp only [Option.some.injEq, Prod.mk.injEq] at H
       obtain ⟨rfl, rfl, rfl⟩ := H
       go_enter Try.func50, Try.ntmps50
       go_wp2_with (first | ((with_reducible refine gate_callee (f := 83) rfl ?_); refine goesL_ (some 6) rfl rfl Try.func83 (by kernel_rfl) rfl #[.pointer (some ⟨g, 0, none⟩)] rfl z3_1 ?_; (with_reducible refine (spec_l15Draw.calls k g s0_0 s0_1 s0_2 t191 t194 t195 w0 _ ?side1 ?side2 A2.out).mono ?_); (case side1 => exact z3_2); (case side2 => exact z3_4); rintro e w61 ⟨v192, rfl, ho0, hi, hb, hk⟩; refine ⟨_, rfl, ?_⟩; have n0_ := Aside0.mk (Kd.R_lower ho0 (keep_size (w := w) (g := g) (row := none) z3_0)); have n1_ := Aside0.mk (KeepBut.trans z3_0 hk (.inl rfl)); have n2_ := Aside0.mk (hb); have n3_ := Aside0.mk (hi); clear HK; clear HB; clear HI0; have HO193 := n0_; have HK := n1_; have HB := n2_; have HI0 := n3_; clear n0_ n1_ n2_ n3_; (try clear hb); (try clear hb2); (try clear hk); (try clear hi); (try clear ho0); obtain ⟨Ao62, co62, eo62⟩ := Kd.R_slice HO193.out; subst eo62) | ((with_reducible refine gate_callee (f := 71) rfl ?_); refine goesL_ (some 10) rfl rfl Try.func71 (by kernel_rfl) rfl #[.pointer (some ⟨g, 0, none⟩), .int .i64 (t191.length : Int)] rfl z3_1 ?_; (with_reducible refine (spec_l1Below.calls g s0_0 t194 t195 (t191.length : Int) t196 t197 t198 w0 _ ?side1 ?side2 A3.out).mono ?_); (case side1 => exact z3_2); (case side2 => exact z3_4); rintro e w63 ⟨rfl, hi, hb, hk⟩; refine ⟨_, rfl, ?_⟩; have n0_ := Aside0.mk (Kd.R_mono (Kd.R_keep (IsS98.apart (show IsS98 w0 _ g s0_0 t194 t195 from by repeat (first | (with_reducible first | exact HI0.out | apply IsS98.alloc | apply IsS98.drewN | apply IsS98.drew | apply IsS98.set_1 | apply IsS98.set_2) | exact HI0.out)) (kd3_ HO193.out) (by decide)) hk (fun _ h => h.2)) (fun _ h => h.1)); have n1_ := Aside0.mk (KeepBut.trans z3_0 hk (.inl rfl)); have n2_ := Aside0.mk (hb); have n3_ := Aside0.mk (hi); clear HO193; clear HK; clear HB; clear HI0; have HO193 := n0_; have HK := n1_; have HB := n2_; have HI0 := n3_; clear n0_ n1_ n2_ n3_; (try clear hb); (try clear hb2); (try clear hk); (try clear hi)) | ((with_reducible refine gate_callee (f := 71) rfl ?_); refine goesL_ (some 12) rfl rfl Try.func71 (by kernel_rfl) rfl #[.pointer (some ⟨g, 0, none⟩), .int .i64 12] rfl z3_1 ?_; (with_reducible refine (spec_l1Below.calls g s0_0 t197 t198 12 t199 t200 t201 w0 _ ?side1 ?side2 A4.out).mono ?_); (case side1 => exact z3_2); (case side2 => exact z3_4); rintro e w64 ⟨rfl, hi, hb, hk⟩; refine ⟨_, rfl, ?_⟩; have n0_ := Aside0.mk (Kd.R_mono (Kd.R_keep (IsS98.apart (show IsS98 w0 _ g s0_0 t197 t198 from by repeat (first | (with_reducible first | exact HI0.out | apply IsS98.alloc | apply IsS98.drewN | apply IsS98.drew | apply IsS98.set_1 | apply IsS98.set_2) | exact HI0.out)) (kd3_ HO193.out) (by decide)) hk (fun _ h => h.2)) (fun _ h => h.1)); have n1_ := Aside0.mk (KeepBut.trans z3_0 hk (.inl rfl)); have n2_ := Aside0.mk (hb); have n3_ := Aside0.mk (hi); clear HO193; clear HK; clear HB; clear HI0; have HO193 := n0_; have HK := n1_; have HB := n2_; have HI0 := n3_; clear n0_ n1_ n2_ n3_; (try clear hb); (try clear hb2); (try clear hk); (try clear hi)))
       go_ret
       exact ⟨_, z3_5, by (with_reducible repeat (first | apply Kd.R_alloc | apply Kd.R_drewN | apply Kd.R_drew)); exact HO193.out, z3_2, z3_4, z3_0⟩

/-! ### spec_l1In: function 58 -/
def spec_l1In.f (a0 : Int) (a1 : Int) (a2 : Int) : Option (Bool) := if a0 ≥ a1 then (some (decide (a0 ≤ a2))) else (some false)
set_option maxHeartbeats 8000000 in
set_option maxRecDepth 100000 in
theorem spec_l1In.calls (a0 : Int) (a1 : Int) (a2 : Int) (r : Bool) (w : World) (h : spec_l1In.f a0 a1 a2 = some r) :
   Calls Try.prog 58 #[.int .i64 a0, .int .i64 a1, .int .i64 a2] w fun e w' => e = .returned (.bool r) ∧ Drawn0 w w' := by
  have H : (if a0 ≥ a1 then (some (decide (a0 ≤ a2))) else (some false)) = some r := h
  clear h
  by_cases c4 : a0 ≥ a1
  ·rw [if_pos c4] at H
   have c4b0 : decide (a1 ≤ a0) = true := decide_eq_true c4
   clear c4
   obtain rfl := Option.some.inj H
   go_enter Try.func58, Try.ntmps58
   go_wp2
   go_ret
   exact ⟨by first | rfl | (simp; done) | (simp [*]; done), by repeat (first | exact Drawn0.refl _ | apply Drawn0.step)⟩
  ·rw [if_neg c4] at H
   have c4b0 : decide (a1 ≤ a0) = false := decide_eq_false c4
   clear c4
   obtain rfl := Option.some.inj H
   go_enter Try.func58, Try.ntmps58
   go_wp2
   go_ret
   exact ⟨by first | rfl | (simp; done) | (simp [*]; done), by repeat (first | exact Drawn0.refl _ | apply Drawn0.step)⟩

/-! ### spec_IsWord: function 24 -/
def spec_IsWord.l0 : Nat → ByteArray → Int → Option (Bool)
  | 0, _, _ => none
  | k + 1, x0, x3 => if x3 < (x0.size : Int) then (if 0 ≤ x3 then (if (bt x0 x3) < 97 then (some false) else (if (bt x0 x3) > 122 then (some false) else (spec_IsWord.l0 k x0 (wrap64 (x3 + 1))))) else (none)) else (some true)
def spec_IsWord.f (k : Nat) (a0 : ByteArray) : Option (Bool) := (spec_l1In.f (a0.size : Int) 1 8).bind fun t221 => (if t221 = true then (spec_IsWord.l0 k a0 0) else (some false))
theorem spec_IsWord.mono_l : ∀ k, (∀ y0 y1, LeO (spec_IsWord.l0 k y0 y1) (spec_IsWord.l0 (k + 1) y0 y1))
  | 0 => fun _ _ r h => by simp [spec_IsWord.l0] at h
  | k + 1 => by
   have ih0 := spec_IsWord.mono_l k
   ·intro y0 y1
    unfold spec_IsWord.l0
    repeat' first
    | (with_reducible exact ih0 _ _)
    | (with_reducible exact LeO.refl _)
    | (with_reducible exact LeO.none _)
    | (with_reducible refine LeO.ite ?_ ?_)
    | (with_reducible refine LeO.bind ?_ (fun _ => ?_))
    | exact ih0 _ _
    | exact LeO.none _
    | refine LeO.ite ?_ ?_
    | refine LeO.bind ?_ (fun _ => ?_)
theorem spec_IsWord.mono : ∀ a0 k, LeO (spec_IsWord.f k a0) (spec_IsWord.f (k + 1) a0) := by
  intro a0 k
  have ih0 := spec_IsWord.mono_l k
  unfold spec_IsWord.f
  repeat' first
    | (with_reducible exact ih0 _ _)
    | (with_reducible exact LeO.refl _)
    | (with_reducible exact LeO.none _)
    | (with_reducible refine LeO.ite ?_ ?_)
    | (with_reducible refine LeO.bind ?_ (fun _ => ?_))
    | exact ih0 _ _
    | exact LeO.none _
    | refine LeO.ite ?_ ?_
    | refine LeO.bind ?_ (fun _ => ?_)
set_option maxHeartbeats 8000000 in
set_option maxRecDepth 100000 in
theorem spec_IsWord.calls (k : Nat) (a0 : ByteArray) (r : Bool) (w : World) (h : spec_IsWord.f k a0 = some r) :
   Calls Try.prog 24 #[.string a0] w fun e w' => e = .returned (.bool r) ∧ Drawn0 w w' := by
  have H : ((spec_l1In.f (a0.size : Int) 1 8).bind fun t221 => (if t221 = true then (spec_IsWord.l0 k a0 0) else (some false))) = some r := h
  clear h
  replace H := Option.bind_eq_some_iff.mp H
  obtain ⟨t221, A20, H⟩ := H
  replace H : (if t221 = true then (spec_IsWord.l0 k a0 0) else (some false)) = some r := H
  have A2 := Aside0.mk A20
  clear A20
  by_cases c3 : t221 = true
  ·subst c3
   have H1 : (spec_IsWord.l0 k a0 0) = some r := by rw [if_pos rfl] at H; exact H
   clear H
   have H := H1
   clear H1
   have H' := Aside0.mk H
   clear H
   go_enter Try.func24, Try.ntmps24
   go_wp2_with (first | ((with_reducible refine gate_callee (f := 58) rfl ?_); refine goesL_ (some 6) rfl rfl Try.func58 (by kernel_rfl) rfl #[.int .i64 (a0.size : Int), .int .i64 1, .int .i64 8] rfl z3_1 ?_; (with_reducible refine (spec_l1In.calls (a0.size : Int) 1 8 true _ A2.out).mono ?_); rintro e w' ⟨rfl, ⟨nd, rfl⟩⟩; refine ⟨_, rfl, ?_⟩))
   go_loopg [3] k (fun kq v3 w' => ∃ (x3_1 : Int), v3 = .int .i64 x3_1 ∧ Aside0 (spec_IsWord.l0 kq a0 x3_1 = some r) ∧ Aside0 (kq ≤ k) ∧ Drawn0 w w')
   case atStart => exact ⟨(0), (by first | rfl | (simp; done) | (simp [*]; done)), H', ⟨Nat.le_refl _⟩, by repeat (first | exact Drawn0.refl _ | apply Drawn0.step)⟩
   case round =>
    clear H'
    try clear c2
    try clear p2
    try clear c3
    obtain ⟨x3_1, rfl, HA, HK1, ⟨m1, rfl⟩⟩ := hrel
    cases gk with
    | zero => exact absurd HA.out (by simp [spec_IsWord.l0])
    | succ k1 =>
     have H := HA.out
     clear HA
     simp only [spec_IsWord.l0] at H
     by_cases c4 : x3_1 < (a0.size : Int)
     ·rw [if_pos c4] at H
      have c4b0 : decide (x3_1 < (a0.size : Int)) = true := decide_eq_true c4
      clear c4
      by_cases c5 : 0 ≤ x3_1
      ·rw [if_pos c5] at H
       have c5b0 : decide (0 ≤ x3_1) = true := decide_eq_true c5
       clear c5
       by_cases c7 : (bt a0 x3_1) < 97
       ·rw [if_pos c7] at H
        have c7b0 : decide ((bt a0 x3_1) < 97) = true := decide_eq_true c7
        clear c7
        obtain rfl := Option.some.inj H
        have p6 : 0 ≤ (x3_1 : Int) := of_decide_eq_true z3_3
        have q6 : x3_1 < (a0.size : Int) := of_decide_eq_true z3_3
        have hx6 := bt_at a0 x3_1
        replace p6 := eq_true p6
        replace q6 := eq_true q6
        go_wp2
        go_ret
        exact ⟨by first | rfl | (simp; done) | (simp [*]; done), by repeat (first | exact Drawn0.refl _ | apply Drawn0.step)⟩
       ·rw [if_neg c7] at H
        have c7b0 : decide ((bt a0 x3_1) < 97) = false := decide_eq_false c7
        clear c7
        by_cases c9 : (bt a0 x3_1) > 122
        ·rw [if_pos c9] at H
         have c9b0 : decide (122 < (bt a0 x3_1)) = true := decide_eq_true c9
         clear c9
         obtain rfl := Option.some.inj H
         have p6 : 0 ≤ (x3_1 : Int) := of_decide_eq_true z3_3
         have q6 : x3_1 < (a0.size : Int) := of_decide_eq_true z3_3
         have hx6 := bt_at a0 x3_1
         replace p6 := eq_true p6
         replace q6 := eq_true q6
         have p8 : 0 ≤ (x3_1 : Int) := of_decide_eq_true z3_3
         have q8 : x3_1 < (a0.size : Int) := of_decide_eq_true z3_3
         have hx8 := bt_at a0 x3_1
         replace p8 := eq_true p8
         replace q8 := eq_true q8
         go_wp2
         go_ret
         exact ⟨by first | rfl | (simp; done) | (simp [*]; done), by repeat (first | exact Drawn0.refl _ | apply Drawn0.step)⟩
        ·rw [if_neg c9] at H
         have c9b0 : decide (122 < (bt a0 x3_1)) = false := decide_eq_false c9
         clear c9
         have H' := Aside0.mk H
         clear H
         have p6 : 0 ≤ (x3_1 : Int) := of_decide_eq_true z3_3
         have q6 : x3_1 < (a0.size : Int) := of_decide_eq_true z3_3
         have hx6 := bt_at a0 x3_1
         replace p6 := eq_true p6
         replace q6 := eq_true q6
         have p8 : 0 ≤ (x3_1 : Int) := of_decide_eq_true z3_3
         have q8 : x3_1 < (a0.size : Int) := of_decide_eq_true z3_3
         have hx8 := bt_at a0 x3_1
         replace p8 := eq_true p8
         replace q8 := eq_true q8
         go_wp2
         go_roundg k1
         case measure => have := HK1.out; omega
         case rel => exact ⟨(wrap64 (x3_1 + 1)), (by first | rfl | (simp; done) | (simp [*]; done)), H', ⟨by have := HK1.out; omega⟩, by repeat (first | exact Drawn0.refl _ | apply Drawn0.step)⟩
      ·rw [if_neg c5] at H
       exact absurd H (by simp)
     ·rw [if_neg c4] at H
      have c4b0 : decide (x3_1 < (a0.size : Int)) = false := decide_eq_false c4
      clear c4
      obtain rfl := Option.some.inj H
      go_wp2
      go_ret
      exact ⟨by first | rfl | (simp; done) | (simp [*]; done), by repeat (first | exact Drawn0.refl _ | apply Drawn0.step)⟩
  ·replace c3 := Bool.eq_false_iff.mpr c3
   subst c3
   have H1 : (some false) = some r := by rw [if_neg (show ¬ (false = true) by decide)] at H; exact H
   clear H
   have H := H1
   clear H1
   obtain rfl := Option.some.inj H
   go_enter Try.func24, Try.ntmps24
   go_wp2_with (first | ((with_reducible refine gate_callee (f := 58) rfl ?_); refine goesL_ (some 6) rfl rfl Try.func58 (by kernel_rfl) rfl #[.int .i64 (a0.size : Int), .int .i64 1, .int .i64 8] rfl z3_1 ?_; (with_reducible refine (spec_l1In.calls (a0.size : Int) 1 8 false _ A2.out).mono ?_); rintro e w' ⟨rfl, ⟨nd, rfl⟩⟩; refine ⟨_, rfl, ?_⟩))
   go_ret
   exact ⟨by first | rfl | (simp; done) | (simp [*]; done), by repeat (first | exact Drawn0.refl _ | apply Drawn0.step)⟩

end Go.Proofs.Ytodcckiphdnjeab.QFnPlays
