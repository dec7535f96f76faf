-- Written by a changed copy of the kit's printer (wip/mp.py of this repo), for this claim; Lean checks it.
import Derived.Test.YtodcckiphdnjeabQFnPlaysx0
import Derived.Test.YtodcckiphdnjeabQFnPlaysx1
import Derived.Test.YtodcckiphdnjeabQFnPlaysx3
import Derived.Test.YtodcckiphdnjeabQFnPlaysx7
import Derived.Test.YtodcckiphdnjeabQFnPlaysx8
import Derived.Test.YtodcckiphdnjeabQFnPlaysx11
namespace Go.Proofs.Ytodcckiphdnjeab.QFnPlays
open Go.RowKit Go.Proofs.YtodcckiphdnjeabW.PrintWords Go.Proofs.YtodcckiphdnjeabW.PrintLast Go.Proofs.YtodcckiphdnjeabW.PrintMore
attribute [local go_sem] max2_int min2_int max_two min_two max_three min_three max_four min_four   -- for this text's walks alone
set_option linter.unusedVariables false
set_option linter.unusedSimpArgs false

theorem kd12_ {p q : Prop} (h0 : q) (h : q → p := by intro h_; (with_reducible repeat (first | apply Kd.R_alloc | apply Kd.R_drewN | apply Kd.R_drew)); exact h_) : p := h h0
theorem z12_0 {p : Prop} (h : p := by repeat (first | (with_reducible first | exact HB.out | apply below_alloc | apply pw_below_drewN | apply below_drew1) | exact HB.out)) : p := h
theorem z12_1 {p : Prop} (h : p := by (try simp only [List.map_toArray, List.map_cons, List.map_nil]); first | done | rfl | (simp only [List.length_drop, List.length_take]; rfl)) : p := h
theorem z12_2 {p : Prop} (h : p := by repeat (first | (with_reducible first | exact HK.out | apply KeepBut.set_ | apply keep_drewN | apply keep_drew | apply keep_alloc) | exact HK.out)) : p := h
theorem z12_3 {p : Prop} (h : p := by repeat (first | (with_reducible first | exact HB.out | apply below_alloc | apply pw_below_drewN | apply below_drew1 | refine below_set ?_ (IsS98.ge HI347.out)) | exact HB.out)) : p := h
theorem z12_4 {p : Prop} (h : p := by repeat (first | (with_reducible first | exact HB.out | apply below_alloc | apply pw_below_drewN | apply below_drew1 | refine below_set ?_ (IsS98.ge HI0.out)) | exact HB.out)) : p := h
theorem z12_5 {p : Prop} (h : p := by repeat (first | (with_reducible first | exact HI0.out | apply IsS98.alloc | apply IsS98.drewN | apply IsS98.drew | apply IsS98.set_1 | apply IsS98.set_2) | exact HI0.out)) : p := h
theorem z12_6 {p : Prop} (h : p := by first | rfl | (simp [errW_none, errW_some] <;> rfl) | (simp [*, errW_none, errW_some] <;> rfl)) : p := h
theorem pt12_ : (∀ (l : List Value) (i : Nat) (x : Value), l.toArray.setIfInBounds i x = (l.set i x).toArray) ∧ (∀ (a : Value) (l : List Value) (x : Value), (a :: l).set 0 x = x :: l) ∧ (∀ (a : Value) (l : List Value) (i : Nat) (x : Value), (a :: l).set (i + 1) x = a :: l.set i x) := ⟨fun _ _ _ => List.setIfInBounds_toArray .., fun _ _ _ => rfl, fun _ _ _ _ => rfl⟩
/-! ### impl_Makes: function 9 -/
def impl_Makes.f (k : Nat) (l0 : List (S31)) (a1 : ByteArray) : Option (Bool) := (impl_IsPlay.f k l0).bind fun t322 => (if t322 = true then ((impl_IsWord.f k a1).bind fun t323 => (if t323 = true then ((impl_makes.f k l0 (wrap64 ((l0.length : Int) - 1)) a1).bind fun t324 => (some t324)) else (some false))) else (some false))
theorem impl_Makes.mono : ∀ a0 a1 k, LeO (impl_Makes.f k a0 a1) (impl_Makes.f (k + 1) a0 a1) := by
  intro a0 a1 k
  unfold impl_Makes.f
  repeat' first
    | (with_reducible exact impl_IsPlay.mono _ _)
    | (with_reducible exact impl_IsWord.mono _ _)
    | (with_reducible exact impl_makes.mono _ _ _ _)
    | (with_reducible exact LeO.refl _)
    | (with_reducible exact LeO.none _)
    | (with_reducible refine LeO.ite ?_ ?_)
    | (with_reducible refine LeO.bind ?_ (fun _ => ?_))
    | exact impl_IsPlay.mono _ _
    | exact impl_IsWord.mono _ _
    | exact impl_makes.mono _ _ _ _
    | exact LeO.none _
    | refine LeO.ite ?_ ?_
    | refine LeO.bind ?_ (fun _ => ?_)
set_option maxHeartbeats 8000000 in
set_option maxRecDepth 100000 in
theorem impl_Makes.calls (k : Nat) (A0 : Option Addr) (c0 : Nat) (l0 : List (S31)) (a1 : ByteArray) (r : Bool) (w : World) (hr0 : Kd.C k31 w A0 l0.length l0) (hc0 : l0.length ≤ c0) (h : impl_Makes.f k l0 a1 = some r) :
   Calls Try.prog 9 #[.slice A0 l0.length c0, .string a1] w fun e w' => e = .returned (.bool r) ∧ Below w.heap.size w w' := by
  have HR0 := Aside0.mk hr0
  have HC0 := Aside0.mk hc0
  clear hr0 hc0
  have HB := Aside0.mk (Below.refl w.heap.size w)
  have H : ((impl_IsPlay.f k l0).bind fun t322 => (if t322 = true then ((impl_IsWord.f k a1).bind fun t323 => (if t323 = true then ((impl_makes.f k l0 (wrap64 ((l0.length : Int) - 1)) a1).bind fun t324 => (some t324)) else (some false))) else (some false))) = some r := h
  clear h
  replace H := Option.bind_eq_some_iff.mp H
  obtain ⟨t322, A30, H⟩ := H
  replace H : (if t322 = true then ((impl_IsWord.f k a1).bind fun t323 => (if t323 = true then ((impl_makes.f k l0 (wrap64 ((l0.length : Int) - 1)) a1).bind fun t324 => (some t324)) else (some false))) else (some false)) = some r := H
  have A3 := Aside0.mk A30
  clear A30
  by_cases c4 : t322 = true
  ·subst c4
   have H1 : ((impl_IsWord.f k a1).bind fun t323 => (if t323 = true then ((impl_makes.f k l0 (wrap64 ((l0.length : Int) - 1)) a1).bind fun t324 => (some t324)) else (some false))) = some r := by rw [if_pos rfl] at H; exact H
   clear H
   have H := H1
   clear H1
   replace H := Option.bind_eq_some_iff.mp H
   obtain ⟨t323, A50, H⟩ := H
   replace H : (if t323 = true then ((impl_makes.f k l0 (wrap64 ((l0.length : Int) - 1)) a1).bind fun t324 => (some t324)) else (some false)) = some r := H
   have A5 := Aside0.mk A50
   clear A50
   by_cases c6 : t323 = true
   ·subst c6
    have H1 : ((impl_makes.f k l0 (wrap64 ((l0.length : Int) - 1)) a1).bind fun t324 => (some t324)) = some r := by rw [if_pos rfl] at H; exact H
    clear H
    have H := H1
    clear H1
    replace H := Option.bind_eq_some_iff.mp H
    obtain ⟨t324, A70, H⟩ := H
    replace H : (some t324) = some r := H
    have A7 := Aside0.mk A70
    clear A70
    obtain rfl := Option.some.inj H
    go_enter Try.func9, Try.ntmps9
    go_wp2_with (first | ((with_reducible refine gate_callee (f := 10) rfl ?_); refine goesL_ (some 6) rfl rfl Try.func10 (by kernel_rfl) rfl #[.slice A0 l0.length c0] rfl z12_1 ?_; (with_reducible refine (impl_IsPlay.calls k _ _ l0 true _ ?side1 ?side2 A3.out).mono ?_); (case side1 => repeat (first | exact HR0.out | (with_reducible refine Kd.C_alloc ?_ _) | (with_reducible refine Kd.C_drewN ?_ _) | (with_reducible refine Kd.C_drew ?_))); (case side2 => exact HC0.out); rintro e w8 ⟨rfl, hb⟩; refine ⟨_, rfl, ?_⟩; have n0_ := Aside0.mk (below_step z12_0 hb); clear HB; have HB := n0_; clear n0_; (try clear hb); (try clear hb2); (try clear hk); (try clear hi)) | (go_at_call 12; (with_reducible refine (impl_IsWord.calls k a1 true _ A5.out).mono ?_); rintro e w' ⟨rfl, ⟨nd, rfl⟩⟩) | (go_at_call 52; (with_reducible refine (impl_makes.calls k _ _ l0 (wrap64 ((l0.length : Int) - 1)) a1 t324 _ ?side1 ?side2 A7.out).mono ?_); (case side1 => repeat (first | exact (Kd.C_below HR0.out z12_0) | (with_reducible refine Kd.C_alloc ?_ _) | (with_reducible refine Kd.C_drewN ?_ _) | (with_reducible refine Kd.C_drew ?_))); (case side2 => exact HC0.out); rintro e w9 ⟨rfl, hb⟩; have n0_ := Aside0.mk (below_step z12_0 hb); clear HB; have HB := n0_; clear n0_; (try clear hb); (try clear hb2); (try clear hk); (try clear hi)))
    go_ret
    exact ⟨z12_6, z12_0⟩
   ·replace c6 := Bool.eq_false_iff.mpr c6
    subst c6
    have H1 : (some false) = some r := by rw [if_neg (show ¬ (false = true) by decide)] at H; exact H
    clear H
    have H := H1
    clear H1
    obtain rfl := Option.some.inj H
    go_enter Try.func9, Try.ntmps9
    go_wp2_with (first | ((with_reducible refine gate_callee (f := 10) rfl ?_); refine goesL_ (some 6) rfl rfl Try.func10 (by kernel_rfl) rfl #[.slice A0 l0.length c0] rfl z12_1 ?_; (with_reducible refine (impl_IsPlay.calls k _ _ l0 true _ ?side1 ?side2 A3.out).mono ?_); (case side1 => repeat (first | exact HR0.out | (with_reducible refine Kd.C_alloc ?_ _) | (with_reducible refine Kd.C_drewN ?_ _) | (with_reducible refine Kd.C_drew ?_))); (case side2 => exact HC0.out); rintro e w10 ⟨rfl, hb⟩; refine ⟨_, rfl, ?_⟩; have n0_ := Aside0.mk (below_step z12_0 hb); clear HB; have HB := n0_; clear n0_; (try clear hb); (try clear hb2); (try clear hk); (try clear hi)) | (go_at_call 12; (with_reducible refine (impl_IsWord.calls k a1 false _ A5.out).mono ?_); rintro e w' ⟨rfl, ⟨nd, rfl⟩⟩))
    go_ret
    exact ⟨z12_6, z12_0⟩
  ·replace c4 := Bool.eq_false_iff.mpr c4
   subst c4
   have H1 : (some false) = some r := by rw [if_neg (show ¬ (false = true) by decide)] at H; exact H
   clear H
   have H := H1
   clear H1
   obtain rfl := Option.some.inj H
   go_enter Try.func9, Try.ntmps9
   go_wp2_with (first | ((with_reducible refine gate_callee (f := 10) rfl ?_); refine goesL_ (some 6) rfl rfl Try.func10 (by kernel_rfl) rfl #[.slice A0 l0.length c0] rfl z12_1 ?_; (with_reducible refine (impl_IsPlay.calls k _ _ l0 false _ ?side1 ?side2 A3.out).mono ?_); (case side1 => repeat (first | exact HR0.out | (with_reducible refine Kd.C_alloc ?_ _) | (with_reducible refine Kd.C_drewN ?_ _) | (with_reducible refine Kd.C_drew ?_))); (case side2 => exact HC0.out); rintro e w11 ⟨rfl, hb⟩; refine ⟨_, rfl, ?_⟩; have n0_ := Aside0.mk (below_step z12_0 hb); clear HB; have HB := n0_; clear n0_; (try clear hb); (try clear hb2); (try clear hk); (try clear hi)))
   go_ret
   exact ⟨z12_6, z12_0⟩

/-! ### impl_SplitsOf: function 15 -/
def impl_SplitsOf.l0 : Nat → ByteArray → List (List ByteArray) → Int → Option ((List (List ByteArray)))
  | 0, _, _, _ => none
  | k + 1, x0, x3, x4 => if x4 < (x0.size : Int) then (if 0 ≤ x4 then (if x4 ≤ (x0.size : Int) then (if x3.length < 5864062014805 then (impl_SplitsOf.l0 k x0 (x3 ++ [(([x0.extract 0 (x4 : Int).toNat, x0.extract (x4 : Int).toNat x0.size] : List ByteArray))]) (wrap64 (x4 + 1))) else (none)) else (none)) else (none)) else (some x3)
def impl_SplitsOf.f (k : Nat) (a0 : ByteArray) : Option ((List (List ByteArray))) := (impl_IsWord.f k a0).bind fun t325 => (if t325 = true then (impl_SplitsOf.l0 k a0 ([] : List (List ByteArray)) 1) else (some ([] : List (List ByteArray))))
theorem impl_SplitsOf.mono_l : ∀ k, (∀ y0 y1 y2, LeO (impl_SplitsOf.l0 k y0 y1 y2) (impl_SplitsOf.l0 (k + 1) y0 y1 y2))
  | 0 => fun _ _ _ r h => by simp [impl_SplitsOf.l0] at h
  | k + 1 => by
   have ih0 := impl_SplitsOf.mono_l k
   ·intro y0 y1 y2
    unfold impl_SplitsOf.l0
    repeat' first
    | (with_reducible exact ih0 _ _ _)
    | (with_reducible exact impl_IsWord.mono _ _)
    | (with_reducible exact LeO.refl _)
    | (with_reducible exact LeO.none _)
    | (with_reducible refine LeO.ite ?_ ?_)
    | (with_reducible refine LeO.bind ?_ (fun _ => ?_))
    | exact ih0 _ _ _
    | exact impl_IsWord.mono _ _
    | exact LeO.none _
    | refine LeO.ite ?_ ?_
    | refine LeO.bind ?_ (fun _ => ?_)
theorem impl_SplitsOf.mono : ∀ a0 k, LeO (impl_SplitsOf.f k a0) (impl_SplitsOf.f (k + 1) a0) := by
  intro a0 k
  have ih0 := impl_SplitsOf.mono_l k
  unfold impl_SplitsOf.f
  repeat' first
    | (with_reducible exact ih0 _ _ _)
    | (with_reducible exact impl_IsWord.mono _ _)
    | (with_reducible exact LeO.refl _)
    | (with_reducible exact LeO.none _)
    | (with_reducible refine LeO.ite ?_ ?_)
    | (with_reducible refine LeO.bind ?_ (fun _ => ?_))
    | exact ih0 _ _ _
    | exact impl_IsWord.mono _ _
    | exact LeO.none _
    | refine LeO.ite ?_ ?_
    | refine LeO.bind ?_ (fun _ => ?_)
def impl_SplitsOf.T7 : Bool × List (List Nat × List Nat) := (true, [([], []), ([], []), ([], []), ([1, 2], [1, 2]), ([], []), ([], []), ([4, 5], [4, 5]), ([3, 6], [3, 6]), ([7], [7]), ([0, 8], [0, 8]), ([9, 9, 0, 1, 2, 3, 4, 5, 6, 7, 8, 9], [0, 9])])
def impl_SplitsOf.B7 : List Nat := [0, 0, 0, 6, 0, 0, 48, 126, 254, 511, 1023]
theorem impl_SplitsOf.tab7 : rtab .any (opsOf Try.f15 7) = impl_SplitsOf.T7 := by kernel_rfl
theorem impl_SplitsOf.bits7 : waitsOk impl_SplitsOf.T7.2 impl_SplitsOf.B7 = true := by kernel_rfl
set_option maxHeartbeats 8000000 in
set_option maxRecDepth 100000 in
theorem impl_SplitsOf.calls (k : Nat) (a0 : ByteArray) (r : List (List ByteArray)) (w : World) (h : impl_SplitsOf.f k a0 = some r) :
   Calls Try.prog 15 #[.string a0] w fun e w' => ∃ v0_ : Value, e = .returned (v0_) ∧ Kd.S (Kd.slice 9 Kd.string) 36 w' w.heap.size (fun _ => True) v0_ r ∧ Below w.heap.size w w' := by
  have HB := Aside0.mk (Below.refl w.heap.size w)
  have H : ((impl_IsWord.f k a0).bind fun t325 => (if t325 = true then (impl_SplitsOf.l0 k a0 ([] : List (List ByteArray)) 1) else (some ([] : List (List ByteArray))))) = some r := h
  clear h
  replace H := Option.bind_eq_some_iff.mp H
  obtain ⟨t325, A20, H⟩ := H
  replace H : (if t325 = true then (impl_SplitsOf.l0 k a0 ([] : List (List ByteArray)) 1) else (some ([] : List (List ByteArray)))) = some r := H
  have A2 := Aside0.mk A20
  clear A20
  by_cases c3 : t325 = true
  ·subst c3
   have H1 : (impl_SplitsOf.l0 k a0 ([] : List (List ByteArray)) 1) = some r := by rw [if_pos rfl] at H; exact H
   clear H
   have H := H1
   clear H1
   have H' := Aside0.mk H
   clear H
   go_enter Try.func15, Try.ntmps15
   go_wp2_with (first | ((with_reducible refine gate_callee (f := 12) rfl ?_); refine goesL_ (some 6) rfl rfl Try.func12 (by kernel_rfl) rfl #[.string a0] rfl z12_1 ?_; (with_reducible refine (impl_IsWord.calls k a0 true _ A2.out).mono ?_); rintro e w' ⟨rfl, ⟨nd, rfl⟩⟩; refine ⟨_, rfl, ?_⟩))
   go_loopg [3, 4] k (fun kq v3 v4 w' => ∃ (x3_1 : List (List ByteArray)) (x4_1 : Int), v4 = .int .i64 x4_1 ∧ Aside0 (impl_SplitsOf.l0 kq a0 x3_1 x4_1 = some r) ∧ Aside0 (kq ≤ k) ∧ Aside0 (Kd.S (Kd.slice 9 Kd.string) 36 w' w.heap.size (fun _ => True) v3 x3_1) ∧ Aside0 (Below w.heap.size w w'))
   case atStart => exact ⟨(([] : List (List ByteArray))), (1), (by first | rfl | (simp; done) | (simp [*]; done)), H', ⟨Nat.le_refl _⟩, ⟨by first | exact Kd.S_nil _ _ _ _ _ | exact Kd.N_nil _ _ _ _ _ | exact Kd.V_nil _ _ _ _ _ | exact Kd.Q_nil _ _ _ _ _ | exact Kd.R_nil _ _ _ _ _⟩, ⟨z12_0⟩⟩
   case round =>
    clear H'
    try clear c1
    try clear p2
    try clear c3
    obtain ⟨x3_1, x4_1, rfl, HA, HK1, HO_3, HB⟩ := hrel
    cases gk with
    | zero => exact absurd HA.out (by simp [impl_SplitsOf.l0])
    | succ k1 =>
     have H := HA.out
     clear HA
     simp only [impl_SplitsOf.l0] at H
     by_cases c4 : x4_1 < (a0.size : Int)
     ·rw [if_pos c4] at H
      have c4b0 : decide (x4_1 < (a0.size : Int)) = true := decide_eq_true c4
      clear c4
      by_cases c5 : 0 ≤ x4_1
      ·rw [if_pos c5] at H
       have c5b0 := eq_true c5
       have c5b1 : decide (0 ≤ x4_1) = true := decide_eq_true c5
       clear c5
       by_cases c6 : x4_1 ≤ (a0.size : Int)
       ·rw [if_pos c6] at H
        have c6b0 := eq_true c6
        have c6b1 : decide (x4_1 ≤ (a0.size : Int)) = true := decide_eq_true c6
        clear c6
        have c7b0 := eq_true (of_decide_eq_true (by first | (with_reducible assumption) | assumption) : 0 ≤ x4_1)
        have c8b0 := eq_true (of_decide_eq_true (by first | (with_reducible assumption) | assumption) : x4_1 ≤ (a0.size : Int))
        obtain ⟨y326, hy326⟩ : ∃ y_ : List ByteArray, y_ = (([a0.extract 0 (x4_1 : Int).toNat, a0.extract (x4_1 : Int).toNat a0.size] : List ByteArray)) := ⟨_, rfl⟩
        replace H : (if x3_1.length < 5864062014805 then (impl_SplitsOf.l0 k1 a0 (x3_1 ++ [y326]) (wrap64 (x4_1 + 1))) else (none)) = some r := by first | (rw [hy326]; with_reducible exact H) | (have H2_ := (Option.bind_some _ _).symm.trans H; rw [hy326]; with_reducible exact H2_) | (have H2_ := (Option.bind_some _ _).symm.trans H; with_reducible exact H2_) | with_reducible exact H | (rw [hy326]; exact H) | exact H
        have Ny326 := Aside0.mk hy326
        clear hy326
        by_cases c9 : x3_1.length < 5864062014805
        ·rw [if_pos c9] at H
         have LMc9 := Aside0.mk c9
         clear c9
         obtain ⟨y329, hy329⟩ : ∃ y_ : List (List ByteArray), y_ = (x3_1 ++ [y326]) := ⟨_, rfl⟩
         replace H : (impl_SplitsOf.l0 k1 a0 y329 (wrap64 (x4_1 + 1))) = some r := by first | (rw [hy329]; with_reducible exact H) | (have H2_ := (Option.bind_some _ _).symm.trans H; rw [hy329]; with_reducible exact H2_) | (have H2_ := (Option.bind_some _ _).symm.trans H; with_reducible exact H2_) | with_reducible exact H | (rw [hy329]; exact H) | exact H
         have Ny329 := Aside0.mk hy329
         clear hy329
         have H' := Aside0.mk H
         clear H
         try go_wp2
         have n0_ := Aside0.mk (Kd.S_drew HO_3.out)
         have n1_ := Aside0.mk (below_drew1 HB.out)
         clear HO_3
         clear HB
         have HO_3 := n0_
         have HB := n1_
         clear n0_ n1_
         refine start_ (n := 11) (S := fun w' => True) (ds := []) #[false, false, false, false, false, false, false, false, false, false, false] (by kernel_rfl) rfl rfl trivial (fun hHeld => ?_); refine with_tabW impl_SplitsOf.tab7 impl_SplitsOf.bits7 (fun HT_ HW_ => ?_)
         generalize wr.drew = w10 at HO_3 HB hHeld ⊢
         refine pure_ (i := 0) (N := some 14) (v := ?_) (a' := ?_) #[true, false, false, false, false, false, false, false, false, false, false] rfl rfl (any_of HT_.out (by kernel_rfl)) (fun _ _ _ h => h) (Or.inl ⟨by rfl, ?_⟩) ?_ ?_
         rotate_left
         ·intro w'
          go_simp
          with_reducible rfl
         rotate_left
         ·simp only [Act.put, pt12_, i64_w, i32_w]
          rfl
         refine pure_ (i := 1) (N := some 15) (v := ?_) (a' := ?_) #[true, true, false, false, false, false, false, false, false, false, false] rfl rfl (any_of HT_.out (by kernel_rfl)) (fun _ _ _ h => h) (Or.inl ⟨by rfl, ?_⟩) ?_ ?_
         rotate_left
         ·intro w'
          go_simp
          with_reducible rfl
         rotate_left
         ·simp only [Act.put, pt12_, i64_w, i32_w]
          rfl
         refine pure_ (i := 2) (N := some 16) (v := ?_) (a' := ?_) #[true, true, true, false, false, false, false, false, false, false, false] rfl rfl (any_of HT_.out (by kernel_rfl)) (fun _ _ _ h => h) (Or.inl ⟨by rfl, ?_⟩) ?_ ?_
         rotate_left
         ·intro w'
          go_simp
          with_reducible rfl
         rotate_left
         ·simp only [Act.put, pt12_, i64_w, i32_w]
          rfl
         refine pure_ (i := 3) (N := some 17) (v := ?_) (a' := ?_) #[true, true, true, true, false, false, false, false, false, false, false] rfl rfl (any_of HT_.out (by kernel_rfl)) (fun _ _ _ h => h) (Or.inl ⟨by rfl, ?_⟩) ?_ ?_
         rotate_left
         ·intro w'
          go_simp
          with_reducible rfl
         rotate_left
         ·simp only [Act.put, pt12_, i64_w, i32_w]
          rfl
         refine pure_ (i := 4) (N := some 18) (v := ?_) (a' := ?_) #[true, true, true, true, true, false, false, false, false, false, false] rfl rfl (any_of HT_.out (by kernel_rfl)) (fun _ _ _ h => h) (Or.inl ⟨by rfl, ?_⟩) ?_ ?_
         rotate_left
         ·intro w'
          go_simp
          with_reducible rfl
         rotate_left
         ·simp only [Act.put, pt12_, i64_w, i32_w]
          rfl
         refine pure_ (i := 5) (N := some 19) (v := ?_) (a' := ?_) #[true, true, true, true, true, true, false, false, false, false, false] rfl rfl (any_of HT_.out (by kernel_rfl)) (fun _ _ _ h => h) (Or.inl ⟨by rfl, ?_⟩) ?_ ?_
         rotate_left
         ·intro w'
          go_simp
          with_reducible rfl
         rotate_left
         ·simp only [Act.put, pt12_, i64_w, i32_w]
          rfl
         refine pure_ (i := 6) (N := some 20) (v := ?_) (a' := ?_) #[true, true, true, true, true, true, true, false, false, false, false] rfl rfl (any_of HT_.out (by kernel_rfl)) (fun _ _ _ h => h) (Or.inl ⟨by rfl, ?_⟩) ?_ ?_
         rotate_left
         ·intro w'
          go_simp
          with_reducible rfl
         rotate_left
         ·simp only [Act.put, pt12_, i64_w, i32_w]
          rfl
         refine one_ (i := 7) (N := some 21) #[true, true, true, true, true, true, true, true, false, false, false] rfl rfl (one_of HT_.out (by kernel_rfl)) (by decide) (fun K hK => ?_)
         refine Kd.R_lit_step Kd.string _ 9 ?hg (N := 21) ?hd (xs := ([a0.extract 0 (x4_1 : Int).toNat, a0.extract (x4_1 : Int).toNat a0.size] : List ByteArray)) (inner := [.string (a0.extract 0 (x4_1 : Int).toNat), .string (a0.extract (x4_1 : Int).toNat a0.size)]) (ok := fun _ => True) (okp := fun _ => True) ?hr ?hp (fun _ hk => hk) trivial (Below.refl _ _) (Nat.le_refl _) (by simp) ?_; (case hd => rfl); (case hg => rfl); (case hr => first | (go_simp; done) | (go_simp; rfl)); (case hp => exact (Reps.one (show Kd.M Kd.string _ _ _ (a0.extract 0 (x4_1 : Int).toNat) [.string (a0.extract 0 (x4_1 : Int).toNat)] from rfl) (Reps.one (show Kd.M Kd.string _ _ _ (a0.extract (x4_1 : Int).toNat a0.size) [.string (a0.extract (x4_1 : Int).toNat a0.size)] from rfl) (Reps.none _ _))))
         intro v327 w11 ho12 hb hg_ hnew_
         clear hg_ hnew_
         (first | rw [← Ny326.out] at ho12 | (simp only [Int.reduceToNat] at ho12; rw [← Ny326.out] at ho12))
         have n0_ := Aside0.mk (Kd.S_elder' (by (with_reducible repeat (first | apply Kd.S_alloc | apply Kd.S_drewN | apply Kd.S_drew)); exact HO_3.out) (Kd.R_base ho12) hb)
         have n1_ := Aside0.mk (Kd.R_lower ho12 (below_size z12_0))
         have n2_ := Aside0.mk (below_step z12_0 hb)
         clear HO_3
         clear HB
         have HO_3 := n0_
         have HO328 := n1_
         have HB := n2_
         clear n0_ n1_ n2_
         clear hb ho12
         obtain ⟨Ao14, co14, eo14⟩ := Kd.R_slice HO328.out
         (first | subst eo14 | (injection eo14 with f1_ f2_ f3_; have f4_ := f1_.symm; have f5_ := f3_.symm; clear f1_ f2_ f3_; subst f4_; subst f5_))
         refine hK.out _ _ trivial (fun hHeld => ?_)
         clear hK K
         refine norm_ (a' := ?_) ?_ ?_
         rotate_left
         ·show Act.put _ (some 21) _ = _
          simp only [Act.put, pt12_, i64_w, i32_w]
          rfl
         refine one_ (i := 8) (N := some 22) #[true, true, true, true, true, true, true, true, true, false, false] rfl rfl (one_of HT_.out (by kernel_rfl)) (by decide) (fun K hK => ?_)
         refine value_ (w1 := ?_) (v := ?_) (by rfl) rfl ?_ ?_
         rotate_left 2
         ·go_simp
          constructor
          ·rfl
          ·rfl
         refine hK.out _ _ trivial (fun hHeld => ?_)
         clear hK K
         refine norm_ (a' := ?_) ?_ ?_
         rotate_left
         ·show Act.put _ (some 22) _ = _
          simp only [Act.put, pt12_, i64_w, i32_w]
          rfl
         refine one_ (i := 9) (N := some 23) #[true, true, true, true, true, true, true, true, true, true, false] rfl rfl (one_of HT_.out (by kernel_rfl)) (by decide) (fun K hK => ?_)
         refine Kd.S_append_step (Kd.slice 9 Kd.string) (w0 := w) w.heap.size (by rfl) (.tmp 14) (.tmp 22) 34 36 (.slice none 0 0) 24 rfl Try.underlying34 info36 rfl (by decide) (by omega) u3 x3_1 y326 [.slice Ao14 y326.length co14] (fun _ => True) (fun k_ => some k_ = (.slice Ao14 y326.length co14 : Value).ownBlock) rfl rfl ?aP (fun k_ hk_ => ((Kd.R_mono (ok' := fun k_ => ((fun _ => True)) k_ ∧ some k_ ≠ (u3 : Value).ownBlock) (Kd.R_apart' (HO328.out) (Kd.S_typed HO_3.out) (by decide)) (fun k_ hk => ⟨trivial, hk.2⟩))).1 k_ hk_.symm) ?aF ?aO ?aB ?aS ?aL ?_
         (case aP => exact Kd.M_row (Kd.R_mono (Kd.R_tight rfl (Kd.R_mono (ok' := fun k_ => ((fun _ => True)) k_ ∧ some k_ ≠ (u3 : Value).ownBlock) (Kd.R_apart' (HO328.out) (Kd.S_typed HO_3.out) (by decide)) (fun k_ hk => ⟨trivial, hk.2⟩))) (fun _ h_ => h_)))
         (case aB => exact z12_0)
         (case aF => exact (fun _ _ => trivial))
         (case aO => exact (by (with_reducible repeat (first | apply Kd.S_alloc | apply Kd.S_drewN | apply Kd.S_drew)); exact Kd.S_mono HO_3.out (fun k_ hk => ⟨trivial, fun e_ => hk.2 e_⟩)))
         (case aS => exact (below_size z12_0))
         (case aL => have := LMc9.out; omega)
         intro v330 w13 ho hb hg hat
         rw [← Ny329.out] at ho
         have n0_ := Aside0.mk (hb)
         have n1_ := Aside0.mk (ho)
         clear HB
         clear HO_3
         clear HO328
         have HB := n0_
         have HO331 := n1_
         clear n0_ n1_
         clear ho hb hg hat
         refine hK.out _ _ trivial (fun hHeld => ?_)
         clear hK K
         refine norm_ (a' := ?_) ?_ ?_
         rotate_left
         ·show Act.put _ (some 23) _ = _
          simp only [Act.put, pt12_, i64_w, i32_w]
          rfl
         refine pure_ (i := 10) (N := some 3) (v := ?_) (a' := ?_) #[true, true, true, true, true, true, true, true, true, true, true] rfl rfl (any_of HT_.out (by kernel_rfl)) (fun _ _ _ h => h) (Or.inl ⟨by rfl, ?_⟩) ?_ ?_
         rotate_left
         ·intro w'
          go_simp
          with_reducible rfl
         rotate_left
         ·simp only [Act.put, pt12_, i64_w, i32_w]
          rfl
         refine done_ (done_of HT_.out (by kernel_rfl)) ?_
         try go_wp2
         go_roundg k1
         case measure => have := HK1.out; omega
         case rel => exact ⟨(y329), (wrap64 (x4_1 + 1)), (by first | rfl | (simp; done) | (simp [*]; done)), H', ⟨by have := HK1.out; omega⟩, ⟨by (with_reducible repeat (first | apply Kd.S_alloc | apply Kd.S_drewN | apply Kd.S_drew)); exact HO331.out⟩, ⟨z12_0⟩⟩
        ·rw [if_neg c9] at H
         exact absurd H (by simp)
       ·rw [if_neg c6] at H
        exact absurd H (by simp)
      ·rw [if_neg c5] at H
       exact absurd H (by simp)
     ·rw [if_neg c4] at H
      have c4b0 : decide (x4_1 < (a0.size : Int)) = false := decide_eq_false c4
      clear c4
      obtain rfl := Option.some.inj H
      go_wp2
      go_ret
      exact ⟨_, z12_6, by (with_reducible repeat (first | apply Kd.S_alloc | apply Kd.S_drewN | apply Kd.S_drew)); exact HO_3.out, z12_0⟩
  ·replace c3 := Bool.eq_false_iff.mpr c3
   subst c3
   have H1 : (some ([] : List (List ByteArray))) = some r := by rw [if_neg (show ¬ (false = true) by decide)] at H; exact H
   clear H
   have H := H1
   clear H1
   obtain rfl := Option.some.inj H
   go_enter Try.func15, Try.ntmps15
   go_wp2_with (first | ((with_reducible refine gate_callee (f := 12) rfl ?_); refine goesL_ (some 6) rfl rfl Try.func12 (by kernel_rfl) rfl #[.string a0] rfl z12_1 ?_; (with_reducible refine (impl_IsWord.calls k a0 false _ A2.out).mono ?_); rintro e w' ⟨rfl, ⟨nd, rfl⟩⟩; refine ⟨_, rfl, ?_⟩))
   go_ret
   exact ⟨_, z12_6, by first | exact Kd.S_nil _ _ _ _ _ | exact Kd.N_nil _ _ _ _ _ | exact Kd.V_nil _ _ _ _ _ | exact Kd.Q_nil _ _ _ _ _ | exact Kd.R_nil _ _ _ _ _, z12_0⟩

/-! ### spec_l5Some: function 64 -/
def spec_l5Some.l0 : Nat → List ByteArray → Int → List Int → Int → Int → Option (List ByteArray × Int × Int)
  | 0, _, _, _, _, _ => none
  | k + 1, x3, x4, x1000, x1001, x1002 => if x4 > 0 then ((spec_l4Any.f x1000 x1001 x1002).bind fun bt338 => (if x3.length < 8796093022208 then (spec_l5Some.l0 k (x3 ++ [bt338.1]) (wrap64 (x4 - 1)) x1000 bt338.2.1 bt338.2.2) else (none))) else (some (x3, x1001, x1002))
def spec_l5Some.f (k : Nat) (s0_0 : List Int) (s0_1 : Int) (s0_2 : Int) : Option (List ByteArray × Int × Int) := (spec_l1Below.f s0_0 s0_1 s0_2 6).bind fun bt335 => (spec_l5Some.l0 k (([] : List ByteArray)) bt335.1 s0_0 bt335.2.1 bt335.2.2)
theorem spec_l5Some.mono_l : ∀ k, (∀ y0 y1 y2 y3 y4, LeO (spec_l5Some.l0 k y0 y1 y2 y3 y4) (spec_l5Some.l0 (k + 1) y0 y1 y2 y3 y4))
  | 0 => fun _ _ _ _ _ r h => by simp [spec_l5Some.l0] at h
  | k + 1 => by
   have ih0 := spec_l5Some.mono_l k
   ·intro y0 y1 y2 y3 y4
    unfold spec_l5Some.l0
    repeat' first
    | (with_reducible exact ih0 _ _ _ _ _)
    | (with_reducible exact LeO.refl _)
    | (with_reducible exact LeO.none _)
    | (with_reducible refine LeO.ite ?_ ?_)
    | (with_reducible refine LeO.bind ?_ (fun _ => ?_))
    | exact ih0 _ _ _ _ _
    | exact LeO.none _
    | refine LeO.ite ?_ ?_
    | refine LeO.bind ?_ (fun _ => ?_)
theorem spec_l5Some.mono : ∀ a0 a1 a2 k, LeO (spec_l5Some.f k a0 a1 a2) (spec_l5Some.f (k + 1) a0 a1 a2) := by
  intro a0 a1 a2 k
  have ih0 := spec_l5Some.mono_l k
  unfold spec_l5Some.f
  repeat' first
    | (with_reducible exact ih0 _ _ _ _ _)
    | (with_reducible exact LeO.refl _)
    | (with_reducible exact LeO.none _)
    | (with_reducible refine LeO.ite ?_ ?_)
    | (with_reducible refine LeO.bind ?_ (fun _ => ?_))
    | exact ih0 _ _ _ _ _
    | exact LeO.none _
    | refine LeO.ite ?_ ?_
    | refine LeO.bind ?_ (fun _ => ?_)
set_option maxHeartbeats 8000000 in
set_option maxRecDepth 100000 in
theorem spec_l5Some.calls (k : Nat) (g : Nat) (s0_0 : List Int) (s0_1 : Int) (s0_2 : Int) (r1 : List ByteArray) (r2 : Int) (r3 : Int) (w0 w : World) (hI : IsS98 w0 w g s0_0 s0_1 s0_2) (hB : Below w0.heap.size w0 w) (h : spec_l5Some.f k s0_0 s0_1 s0_2 = some (r1, r2, r3)) :
   Calls Try.prog 64 #[.pointer (some ⟨g, 0, none⟩)] w fun e w' => ∃ v0_ : Value, e = .returned (v0_) ∧ Kd.R Kd.string 9 w' w.heap.size (fun _ => True) v0_ r1 ∧ IsS98 w0 w' g s0_0 r2 r3 ∧ Below w0.heap.size w0 w' ∧ KeepBut w w' g none := by
  have HI0 := Aside0.mk hI
  have HK := Aside0.mk (KeepBut.refl w g none)
  have HL := Aside0.mk hB.size
  clear hI
  have HW0 := Aside0.mk hB.size
  have HB := Aside0.mk hB
  clear hB
  have H : ((spec_l1Below.f s0_0 s0_1 s0_2 6).bind fun bt335 => (spec_l5Some.l0 k (([] : List ByteArray)) bt335.1 s0_0 bt335.2.1 bt335.2.2)) = some (r1, r2, r3) := h
  clear h
  obtain ⟨y332, hy332⟩ : ∃ y_ : List ByteArray, y_ = (([] : List ByteArray)) := ⟨_, rfl⟩
  replace H : ((spec_l1Below.f s0_0 s0_1 s0_2 6).bind fun bt335 => (spec_l5Some.l0 k y332 bt335.1 s0_0 bt335.2.1 bt335.2.2)) = some (r1, r2, r3) := by first | (rw [hy332]; with_reducible exact H) | (have H2_ := (Option.bind_some _ _).symm.trans H; rw [hy332]; with_reducible exact H2_) | (have H2_ := (Option.bind_some _ _).symm.trans H; with_reducible exact H2_) | with_reducible exact H | (rw [hy332]; exact H) | exact H
  have Ny332 := Aside0.mk hy332
  clear hy332
  replace H := Option.bind_eq_some_iff.mp H
  obtain ⟨⟨t335, t336, t337⟩, A20, H⟩ := H
  replace H : (spec_l5Some.l0 k y332 t335 s0_0 t336 t337) = some (r1, r2, r3) := H
  have A2 := Aside0.mk A20
  clear A20
  have H' := Aside0.mk H
  clear H
  go_enter Try.func64, Try.ntmps64
  go_wp2_with (first | ((with_reducible refine gate_dst (N := 5) rfl ?_); refine Kd.R_lit Kd.string _ 9 ?hg (N := 5) ?hd (xs := ([] : List ByteArray)) (inner := []) (ok := fun _ => True) (okp := fun _ => True) ?hr ?hp (fun _ hk => hk) trivial (Below.refl _ _) (Nat.le_refl _) (by simp) ?_; (case hd => rfl); (case hg => rfl); (case hr => first | (go_simp; done) | (go_simp; rfl)); (case hp => exact (Reps.none _ _)); intro v333 w3 ho4 hb hg_ hnew_; clear hg_ hnew_; (first | rw [← Ny332.out] at ho4 | (simp only [Int.reduceToNat] at ho4; rw [← Ny332.out] at ho4)); have n0_ := Aside0.mk (Kd.R_lower ho4 (keep_size (w := w) (g := g) (row := none) z12_2)); have n1_ := Aside0.mk (IsS98.below z12_5 hb); have n2_ := Aside0.mk (KeepBut.trans z12_2 (KeepBut.of_below hb g none) (.inl rfl)); have n3_ := Aside0.mk (below_step z12_4 hb); clear HI0; clear HK; clear HB; have HO334 := n0_; have HI0 := n1_; have HK := n2_; have HB := n3_; clear n0_ n1_ n2_ n3_; clear hb ho4) | ((with_reducible refine gate_callee (f := 71) rfl ?_); refine goesL_ (some 7) rfl rfl Try.func71 (by kernel_rfl) rfl #[.pointer (some ⟨g, 0, none⟩), .int .i64 6] rfl z12_1 ?_; (with_reducible refine (spec_l1Below.calls g s0_0 s0_1 s0_2 6 t335 t336 t337 w0 _ ?side1 ?side2 A2.out).mono ?_); (case side1 => exact z12_5); (case side2 => exact z12_4); rintro e w5 ⟨rfl, hi, hb, hk⟩; refine ⟨_, rfl, ?_⟩; have n0_ := Aside0.mk (Kd.R_mono (Kd.R_keep (IsS98.apart (show IsS98 w0 _ g s0_0 s0_1 s0_2 from by repeat (first | (with_reducible first | exact HI0.out | apply IsS98.alloc | apply IsS98.drewN | apply IsS98.drew | apply IsS98.set_1 | apply IsS98.set_2) | exact HI0.out)) (kd12_ HO334.out) (by decide)) hk (fun _ h => h.2)) (fun _ h => h.1)); have n1_ := Aside0.mk (KeepBut.trans z12_2 hk (.inl rfl)); have n2_ := Aside0.mk (hb); have n3_ := Aside0.mk (hi); clear HO334; clear HK; clear HB; clear HI0; have HO334 := n0_; have HK := n1_; have HB := n2_; have HI0 := n3_; clear n0_ n1_ n2_ n3_; (try clear hb); (try clear hb2); (try clear hk); (try clear hi)))
  go_loopg [3, 4] k (fun kq v3 v4 w' => ∃ (x3_1 : List ByteArray) (x4_1 : Int) (x1001_1 : Int) (x1002_1 : Int), v4 = .int .i64 x4_1 ∧ Aside0 (spec_l5Some.l0 kq x3_1 x4_1 s0_0 x1001_1 x1002_1 = some (r1, r2, r3)) ∧ Aside0 (kq ≤ k) ∧ Aside0 (Kd.R Kd.string 9 w' w.heap.size (fun _ => True) v3 x3_1) ∧ Aside0 (IsS98 w0 w' g s0_0 x1001_1 x1002_1) ∧ Aside0 (KeepBut w w' g none) ∧ Aside0 (Below w0.heap.size w0 w'))
  case atStart => exact ⟨(y332), (t335), (t336), (t337), (by first | rfl | (simp; done) | (simp [*]; done)), H', ⟨Nat.le_refl _⟩, ⟨by (with_reducible repeat (first | apply Kd.R_alloc | apply Kd.R_drewN | apply Kd.R_drew)); exact HO334.out⟩, ⟨z12_5⟩, ⟨z12_2⟩, ⟨z12_4⟩⟩
  case round =>
   clear H'
   try clear p2
   obtain ⟨x3_1, x4_1, x1001_1, x1002_1, rfl, HA, HK1, HO_3, HI0, HK, HB⟩ := hrel
   cases gk with
   | zero => exact absurd HA.out (by simp [spec_l5Some.l0])
   | succ k1 =>
    have H := HA.out
    clear HA
    simp only [spec_l5Some.l0] at H
    by_cases c6 : x4_1 > 0
    ·rw [if_pos c6] at H
     have c6b0 : decide (0 < x4_1) = true := decide_eq_true c6
     clear c6
     replace H := Option.bind_eq_some_iff.mp H
     obtain ⟨⟨t338, t339, t340⟩, A70, H⟩ := H
     replace H : (if x3_1.length < 8796093022208 then (spec_l5Some.l0 k1 (x3_1 ++ [t338]) (wrap64 (x4_1 - 1)) s0_0 t339 t340) else (none)) = some (r1, r2, r3) := H
     have A7 := Aside0.mk A70
     clear A70
     by_cases c8 : x3_1.length < 8796093022208
     ·rw [if_pos c8] at H
      have LMc8 := Aside0.mk c8
      clear c8
      obtain ⟨y341, hy341⟩ : ∃ y_ : List ByteArray, y_ = (x3_1 ++ [t338]) := ⟨_, rfl⟩
      replace H : (spec_l5Some.l0 k1 y341 (wrap64 (x4_1 - 1)) s0_0 t339 t340) = some (r1, r2, r3) := by first | (rw [hy341]; with_reducible exact H) | (have H2_ := (Option.bind_some _ _).symm.trans H; rw [hy341]; with_reducible exact H2_) | (have H2_ := (Option.bind_some _ _).symm.trans H; with_reducible exact H2_) | with_reducible exact H | (rw [hy341]; exact H) | exact H
      have Ny341 := Aside0.mk hy341
      clear hy341
      have H' := Aside0.mk H
      clear H
      go_wp2_with (first | ((with_reducible refine gate_callee (f := 69) rfl ?_); refine goesL_ (some 14) rfl rfl Try.func69 (by kernel_rfl) rfl #[.pointer (some ⟨g, 0, none⟩)] rfl z12_1 ?_; (with_reducible refine (spec_l4Any.calls g s0_0 x1001_1 x1002_1 t338 t339 t340 w0 _ ?side1 ?side2 A7.out).mono ?_); (case side1 => exact z12_5); (case side2 => exact z12_4); rintro e w9 ⟨rfl, hi, hb, hk⟩; refine ⟨_, rfl, ?_⟩; have n0_ := Aside0.mk (Kd.R_mono (Kd.R_keep (IsS98.apart (show IsS98 w0 _ g s0_0 x1001_1 x1002_1 from by repeat (first | (with_reducible first | exact HI0.out | apply IsS98.alloc | apply IsS98.drewN | apply IsS98.drew | apply IsS98.set_1 | apply IsS98.set_2) | exact HI0.out)) (kd12_ HO_3.out) (by decide)) hk (fun _ h => h.2)) (fun _ h => h.1)); have n1_ := Aside0.mk (KeepBut.trans z12_2 hk (.inl rfl)); have n2_ := Aside0.mk (hb); have n3_ := Aside0.mk (hi); clear HO_3; clear HK; clear HB; clear HI0; have HO_3 := n0_; have HK := n1_; have HB := n2_; have HI0 := n3_; clear n0_ n1_ n2_ n3_; (try clear hb); (try clear hb2); (try clear hk); (try clear hi)) | ((with_reducible refine gate_builtin (b := .append) (xs := #[.tmp 12, .tmp 15]) rfl ?_); at_builtin; refine Kd.R_append Kd.string w.heap.size rfl (.tmp 12) (.tmp 15) 36 9 (.string ⟨#[]⟩) 16 rfl Try.underlying36 info9 rfl (by decide) (by omega) u3 x3_1 t338 [.string t338] (fun _ => True) (fun _ => False) rfl rfl ?aP (fun _ hk => hk.elim) ?aF ?aO (Below.refl _ _) ?aS ?aL ?_; (case aP => exact rfl); (case aF => exact (fun _ _ => trivial)); (case aO => exact (kd12_ HO_3.out)); (case aS => exact (keep_size (w := w) (g := g) (row := none) z12_2)); (case aL => have := LMc8.out; omega); intro v342 w10 ho hb hg hat; rw [← Ny341.out] at ho; have n0_ := Aside0.mk (IsS98.grown z12_5 hg (IsS98.own_ne HI0.out HO_3.out (by decide))); have n1_ := Aside0.mk (below_weaken z12_4 HL.out hb); have n2_ := Aside0.mk (KeepBut.trans z12_2 (KeepBut.of_grown hg g) (Kd.R_base2 HO_3.out)); have n3_ := Aside0.mk (ho); clear HI0; clear HB; clear HK; clear HO_3; have HI0 := n0_; have HB := n1_; have HK := n2_; have HO343 := n3_; clear n0_ n1_ n2_ n3_; clear ho hb hg hat))
      go_roundg k1
      case measure => have := HK1.out; omega
      case rel => exact ⟨(y341), (wrap64 (x4_1 - 1)), (t339), (t340), (by first | rfl | (simp; done) | (simp [*]; done)), H', ⟨by have := HK1.out; omega⟩, ⟨by (with_reducible repeat (first | apply Kd.R_alloc | apply Kd.R_drewN | apply Kd.R_drew)); exact HO343.out⟩, ⟨z12_5⟩, ⟨z12_2⟩, ⟨z12_4⟩⟩
     ·rw [if_neg c8] at H
      exact absurd H (by simp)
    ·rw [if_neg c6] at H
     have c6b0 : decide (0 < x4_1) = false := decide_eq_false c6
     clear c6
     simp only [Option.some.injEq, Prod.mk.injEq] at H
     obtain ⟨rfl, rfl, rfl⟩ := H
     go_wp2
     go_ret
     exact ⟨_, z12_6, by (with_reducible repeat (first | apply Kd.R_alloc | apply Kd.R_drewN | apply Kd.R_drew)); exact HO_3.out, z12_5, z12_4, z12_2⟩

/-! ### spec_DrawWordsMade: function 17 -/
def spec_DrawWordsMade.f (k : Nat) (l0 : List Int) : Option ((List (S31)) × List ByteArray) := (spec_l1New.f k l0).bind fun bt344 => ((spec_l15Any.f k bt344.1 bt344.2.1 bt344.2.2).bind fun bt348 => ((spec_l1Once.f bt344.1 bt348.2.1 bt348.2.2 2).bind fun bt353 => (if bt353.1 = true then ((spec_l4Words.f).bind fun t356 => (some (bt348.1, t356))) else ((spec_l5Some.f k bt344.1 bt353.2.1 bt353.2.2).bind fun bt359 => (some (bt348.1, bt359.1))))))
theorem spec_DrawWordsMade.mono : ∀ a0 k, LeO (spec_DrawWordsMade.f k a0) (spec_DrawWordsMade.f (k + 1) a0) := by
  intro a0 k
  unfold spec_DrawWordsMade.f
  repeat' first
    | (with_reducible exact spec_l15Any.mono _ _ _ _)
    | (with_reducible exact spec_l1New.mono _ _)
    | (with_reducible exact spec_l5Some.mono _ _ _ _)
    | (with_reducible exact LeO.refl _)
    | (with_reducible exact LeO.none _)
    | (with_reducible refine LeO.ite ?_ ?_)
    | (with_reducible refine LeO.bind ?_ (fun _ => ?_))
    | exact spec_l15Any.mono _ _ _ _
    | exact spec_l1New.mono _ _
    | exact spec_l5Some.mono _ _ _ _
    | exact LeO.none _
    | refine LeO.ite ?_ ?_
    | refine LeO.bind ?_ (fun _ => ?_)
set_option maxHeartbeats 8000000 in
set_option maxRecDepth 100000 in
theorem spec_DrawWordsMade.calls (k : Nat) (A0 : Option Addr) (c0 : Nat) (l0 : List Int) (r1 : List (S31)) (r2 : List ByteArray) (w : World) (hr0 : Kd.C (Kd.int .u8) w A0 l0.length l0) (hc0 : l0.length ≤ c0) (h : spec_DrawWordsMade.f k l0 = some (r1, r2)) :
   Calls Try.prog 17 #[.slice A0 l0.length c0] w fun e w' => ∃ v0_ v1_ : Value, e = .returned (.tuple #[v0_, v1_]) ∧ Kd.R k31 31 w' w.heap.size (fun _ => True) v0_ r1 ∧ Kd.R Kd.string 9 w' w.heap.size (fun _ => True) v1_ r2 ∧ Below w.heap.size w w' := by
  have HR0 := Aside0.mk hr0
  have HC0 := Aside0.mk hc0
  clear hr0 hc0
  have HB := Aside0.mk (Below.refl w.heap.size w)
  have H : ((spec_l1New.f k l0).bind fun bt344 => ((spec_l15Any.f k bt344.1 bt344.2.1 bt344.2.2).bind fun bt348 => ((spec_l1Once.f bt344.1 bt348.2.1 bt348.2.2 2).bind fun bt353 => (if bt353.1 = true then ((spec_l4Words.f).bind fun t356 => (some (bt348.1, t356))) else ((spec_l5Some.f k bt344.1 bt353.2.1 bt353.2.2).bind fun bt359 => (some (bt348.1, bt359.1))))))) = some (r1, r2) := h
  clear h
  replace H := Option.bind_eq_some_iff.mp H
  obtain ⟨⟨t344, t345, t346⟩, A20, H⟩ := H
  replace H : ((spec_l15Any.f k t344 t345 t346).bind fun bt348 => ((spec_l1Once.f t344 bt348.2.1 bt348.2.2 2).bind fun bt353 => (if bt353.1 = true then ((spec_l4Words.f).bind fun t356 => (some (bt348.1, t356))) else ((spec_l5Some.f k t344 bt353.2.1 bt353.2.2).bind fun bt359 => (some (bt348.1, bt359.1)))))) = some (r1, r2) := H
  have A2 := Aside0.mk A20
  clear A20
  replace H := Option.bind_eq_some_iff.mp H
  obtain ⟨⟨t348, t351, t352⟩, A30, H⟩ := H
  replace H : ((spec_l1Once.f t344 t351 t352 2).bind fun bt353 => (if bt353.1 = true then ((spec_l4Words.f).bind fun t356 => (some (t348, t356))) else ((spec_l5Some.f k t344 bt353.2.1 bt353.2.2).bind fun bt359 => (some (t348, bt359.1))))) = some (r1, r2) := H
  have A3 := Aside0.mk A30
  clear A30
  replace H := Option.bind_eq_some_iff.mp H
  obtain ⟨⟨t353, t354, t355⟩, A40, H⟩ := H
  replace H : (if t353 = true then ((spec_l4Words.f).bind fun t356 => (some (t348, t356))) else ((spec_l5Some.f k t344 t354 t355).bind fun bt359 => (some (t348, bt359.1)))) = some (r1, r2) := H
  have A4 := Aside0.mk A40
  clear A40
  by_cases c5 : t353 = true
  ·subst c5
   have H1 : ((spec_l4Words.f).bind fun t356 => (some (t348, t356))) = some (r1, r2) := by rw [if_pos rfl] at H; exact H
   clear H
   have H := H1
   clear H1
   replace H := Option.bind_eq_some_iff.mp H
   obtain ⟨t356, A60, H⟩ := H
   replace H : (some (t348, t356)) = some (r1, r2) := H
   have A6 := Aside0.mk A60
   clear A60
   simp only [Option.some.injEq, Prod.mk.injEq] at H
   obtain ⟨rfl, rfl⟩ := H
   go_enter Try.func17, Try.ntmps17
   go_wp2_with (first | ((with_reducible refine gate_callee (f := 49) rfl ?_); refine goesL_ (some 7) rfl rfl Try.func49 (by kernel_rfl) rfl #[.slice A0 l0.length c0] rfl z12_1 ?_; (with_reducible refine (spec_l1New.calls k _ _ l0 t344 t345 t346 w _ ?side1 ?side2 ?side3 A2.out).mono ?_); (case side1 => exact z12_0); (case side2 => exact HR0.out); (case side3 => exact HC0.out); rintro e w7 ⟨g347, rfl, hi, hb, hb2⟩; refine ⟨_, rfl, ?_⟩; have n0_ := Aside0.mk (hb); have n1_ := Aside0.mk (hi); clear HB; have HB := n0_; have HI347 := n1_; clear n0_ n1_; (try clear hb); (try clear hb2); (try clear hk); (try clear hi)) | ((with_reducible refine gate_callee (f := 50) rfl ?_); refine goesL_ (some 9) rfl rfl Try.func50 (by kernel_rfl) rfl #[.pointer (some ⟨g347, 0, none⟩)] rfl z12_1 ?_; (with_reducible refine (spec_l15Any.calls k g347 t344 t345 t346 t348 t351 t352 w _ ?side1 ?side2 A3.out).mono ?_); (case side1 => repeat (first | (with_reducible first | exact HI347.out | apply IsS98.alloc | apply IsS98.drewN | apply IsS98.drew | apply IsS98.set_1 | apply IsS98.set_2) | exact HI347.out)); (case side2 => exact z12_3); rintro e w8 ⟨v349, rfl, ho0, hi, hb, hk⟩; refine ⟨_, rfl, ?_⟩; have n0_ := Aside0.mk (Kd.R_lower ho0 (below_size z12_3)); have n1_ := Aside0.mk (hb); have n2_ := Aside0.mk (hi); clear HB; clear HI347; have HO350 := n0_; have HB := n1_; have HI347 := n2_; clear n0_ n1_ n2_; (try clear hb); (try clear hb2); (try clear hk); (try clear hi); (try clear ho0)) | ((with_reducible refine gate_callee (f := 62) rfl ?_); refine goesL_ (some 11) rfl rfl Try.func62 (by kernel_rfl) rfl #[.pointer (some ⟨g347, 0, none⟩), .int .i64 2] rfl z12_1 ?_; (with_reducible refine (spec_l1Once.calls g347 t344 t351 t352 2 true t354 t355 w _ ?side1 ?side2 A4.out).mono ?_); (case side1 => repeat (first | (with_reducible first | exact HI347.out | apply IsS98.alloc | apply IsS98.drewN | apply IsS98.drew | apply IsS98.set_1 | apply IsS98.set_2) | exact HI347.out)); (case side2 => exact z12_3); rintro e w9 ⟨rfl, hi, hb, hk⟩; refine ⟨_, rfl, ?_⟩; have n0_ := Aside0.mk (Kd.R_mono (Kd.R_keep (IsS98.apart (show IsS98 w _ g347 t344 t351 t352 from by repeat (first | (with_reducible first | exact HI347.out | apply IsS98.alloc | apply IsS98.drewN | apply IsS98.drew | apply IsS98.set_1 | apply IsS98.set_2) | exact HI347.out)) (kd12_ HO350.out) (by decide)) hk (fun _ h => h.2)) (fun _ h => h.1)); have n1_ := Aside0.mk (hb); have n2_ := Aside0.mk (hi); clear HO350; clear HB; clear HI347; have HO350 := n0_; have HB := n1_; have HI347 := n2_; clear n0_ n1_ n2_; (try clear hb); (try clear hb2); (try clear hk); (try clear hi)) | ((with_reducible refine gate_callee (f := 63) rfl ?_); refine goesL_ (some 13) rfl rfl Try.func63 (by kernel_rfl) rfl #[] rfl z12_1 ?_; (with_reducible refine (spec_l4Words.calls  t356 _ A6.out).mono ?_); rintro e w10 ⟨v357, rfl, ho0, hb⟩; refine ⟨_, rfl, ?_⟩; have n0_ := Aside0.mk (Kd.R_below (kd12_ HO350.out) hb); have n1_ := Aside0.mk (Kd.R_lower ho0 (below_size z12_3)); have n2_ := Aside0.mk (IsS98.below (by repeat (first | (with_reducible first | exact HI347.out | apply IsS98.alloc | apply IsS98.drewN | apply IsS98.drew | apply IsS98.set_1 | apply IsS98.set_2) | exact HI347.out)) hb); have n3_ := Aside0.mk (below_step z12_3 hb); clear HO350; clear HI347; clear HB; have HO350 := n0_; have HO358 := n1_; have HI347 := n2_; have HB := n3_; clear n0_ n1_ n2_ n3_; (try clear hb); (try clear hb2); (try clear hk); (try clear hi); (try clear ho0)))
   go_ret2
   exact ⟨_, _, z12_6, by (with_reducible repeat (first | apply Kd.R_alloc | apply Kd.R_drewN | apply Kd.R_drew)); exact HO350.out, by (with_reducible repeat (first | apply Kd.R_alloc | apply Kd.R_drewN | apply Kd.R_drew)); exact HO358.out, z12_3⟩
  ·replace c5 := Bool.eq_false_iff.mpr c5
   subst c5
   have H1 : ((spec_l5Some.f k t344 t354 t355).bind fun bt359 => (some (t348, bt359.1))) = some (r1, r2) := by rw [if_neg (show ¬ (false = true) by decide)] at H; exact H
   clear H
   have H := H1
   clear H1
   replace H := Option.bind_eq_some_iff.mp H
   obtain ⟨⟨t359, t362, t363⟩, A110, H⟩ := H
   replace H : (some (t348, t359)) = some (r1, r2) := H
   have A11 := Aside0.mk A110
   clear A110
   simp only [Option.some.injEq, Prod.mk.injEq] at H
   obtain ⟨rfl, rfl⟩ := H
   go_enter Try.func17, Try.ntmps17
   go_wp2_with (first | ((with_reducible refine gate_callee (f := 49) rfl ?_); refine goesL_ (some 7) rfl rfl Try.func49 (by kernel_rfl) rfl #[.slice A0 l0.length c0] rfl z12_1 ?_; (with_reducible refine (spec_l1New.calls k _ _ l0 t344 t345 t346 w _ ?side1 ?side2 ?side3 A2.out).mono ?_); (case side1 => exact z12_0); (case side2 => exact HR0.out); (case side3 => exact HC0.out); rintro e w12 ⟨g347, rfl, hi, hb, hb2⟩; refine ⟨_, rfl, ?_⟩; have n0_ := Aside0.mk (hb); have n1_ := Aside0.mk (hi); clear HB; have HB := n0_; have HI347 := n1_; clear n0_ n1_; (try clear hb); (try clear hb2); (try clear hk); (try clear hi)) | ((with_reducible refine gate_callee (f := 50) rfl ?_); refine goesL_ (some 9) rfl rfl Try.func50 (by kernel_rfl) rfl #[.pointer (some ⟨g347, 0, none⟩)] rfl z12_1 ?_; (with_reducible refine (spec_l15Any.calls k g347 t344 t345 t346 t348 t351 t352 w _ ?side1 ?side2 A3.out).mono ?_); (case side1 => repeat (first | (with_reducible first | exact HI347.out | apply IsS98.alloc | apply IsS98.drewN | apply IsS98.drew | apply IsS98.set_1 | apply IsS98.set_2) | exact HI347.out)); (case side2 => exact z12_3); rintro e w13 ⟨v349, rfl, ho0, hi, hb, hk⟩; refine ⟨_, rfl, ?_⟩; have n0_ := Aside0.mk (Kd.R_lower ho0 (below_size z12_3)); have n1_ := Aside0.mk (hb); have n2_ := Aside0.mk (hi); clear HB; clear HI347; have HO350 := n0_; have HB := n1_; have HI347 := n2_; clear n0_ n1_ n2_; (try clear hb); (try clear hb2); (try clear hk); (try clear hi); (try clear ho0)) | ((with_reducible refine gate_callee (f := 62) rfl ?_); refine goesL_ (some 11) rfl rfl Try.func62 (by kernel_rfl) rfl #[.pointer (some ⟨g347, 0, none⟩), .int .i64 2] rfl z12_1 ?_; (with_reducible refine (spec_l1Once.calls g347 t344 t351 t352 2 false t354 t355 w _ ?side1 ?side2 A4.out).mono ?_); (case side1 => repeat (first | (with_reducible first | exact HI347.out | apply IsS98.alloc | apply IsS98.drewN | apply IsS98.drew | apply IsS98.set_1 | apply IsS98.set_2) | exact HI347.out)); (case side2 => exact z12_3); rintro e w14 ⟨rfl, hi, hb, hk⟩; refine ⟨_, rfl, ?_⟩; have n0_ := Aside0.mk (Kd.R_mono (Kd.R_keep (IsS98.apart (show IsS98 w _ g347 t344 t351 t352 from by repeat (first | (with_reducible first | exact HI347.out | apply IsS98.alloc | apply IsS98.drewN | apply IsS98.drew | apply IsS98.set_1 | apply IsS98.set_2) | exact HI347.out)) (kd12_ HO350.out) (by decide)) hk (fun _ h => h.2)) (fun _ h => h.1)); have n1_ := Aside0.mk (hb); have n2_ := Aside0.mk (hi); clear HO350; clear HB; clear HI347; have HO350 := n0_; have HB := n1_; have HI347 := n2_; clear n0_ n1_ n2_; (try clear hb); (try clear hb2); (try clear hk); (try clear hi)) | ((with_reducible refine gate_callee (f := 64) rfl ?_); refine goesL_ (some 16) rfl rfl Try.func64 (by kernel_rfl) rfl #[.pointer (some ⟨g347, 0, none⟩)] rfl z12_1 ?_; (with_reducible refine (spec_l5Some.calls k g347 t344 t354 t355 t359 t362 t363 w _ ?side1 ?side2 A11.out).mono ?_); (case side1 => repeat (first | (with_reducible first | exact HI347.out | apply IsS98.alloc | apply IsS98.drewN | apply IsS98.drew | apply IsS98.set_1 | apply IsS98.set_2) | exact HI347.out)); (case side2 => exact z12_3); rintro e w15 ⟨v360, rfl, ho0, hi, hb, hk⟩; refine ⟨_, rfl, ?_⟩; have n0_ := Aside0.mk (Kd.R_mono (Kd.R_keep (IsS98.apart (show IsS98 w _ g347 t344 t354 t355 from by repeat (first | (with_reducible first | exact HI347.out | apply IsS98.alloc | apply IsS98.drewN | apply IsS98.drew | apply IsS98.set_1 | apply IsS98.set_2) | exact HI347.out)) (kd12_ HO350.out) (by decide)) hk (fun _ h => h.2)) (fun _ h => h.1)); have n1_ := Aside0.mk (Kd.R_lower ho0 (below_size z12_3)); have n2_ := Aside0.mk (hb); have n3_ := Aside0.mk (hi); clear HO350; clear HB; clear HI347; have HO350 := n0_; have HO361 := n1_; have HB := n2_; have HI347 := n3_; clear n0_ n1_ n2_ n3_; (try clear hb); (try clear hb2); (try clear hk); (try clear hi); (try clear ho0)))
   go_ret2
   exact ⟨_, _, z12_6, by (with_reducible repeat (first | apply Kd.R_alloc | apply Kd.R_drewN | apply Kd.R_drew)); exact HO350.out, by (with_reducible repeat (first | apply Kd.R_alloc | apply Kd.R_drewN | apply Kd.R_drew)); exact HO361.out, z12_3⟩

-- NOT PRINTED: function 65 (impl_those)

-- NOT PRINTED: function 66 (impl_WordsMade_1)

/-! ### impl_WordsMade: function 18 (given) -/
def madeGo (k : Nat) (p : List (S31)) : List ByteArray → Option (List ByteArray)
  | [] => some []
  | w :: l => (impl_Makes.f k p w).bind fun b => (madeGo k p l).bind fun r => some (if b = true then w :: r else r)
theorem madeGo_nil (k : Nat) (p : List (S31)) : madeGo k p [] = some [] := rfl
theorem madeGo_cons (k : Nat) (p : List (S31)) (w : ByteArray) (l : List ByteArray) : madeGo k p (w :: l) = (impl_Makes.f k p w).bind fun b => (madeGo k p l).bind fun r => some (if b = true then w :: r else r) := rfl
theorem madeGo_mono (p : List (S31)) (k : Nat) : ∀ l, LeO (madeGo k p l) (madeGo (k + 1) p l)
  | [] => LeO.refl _
  | w :: l => by
    rw [madeGo_cons, madeGo_cons]
    exact LeO.bind (impl_Makes.mono _ _ _) (fun _ => LeO.bind (madeGo_mono p k l) (fun _ => LeO.refl _))
theorem madeGo_length (k : Nat) (p : List (S31)) : ∀ (l r : List ByteArray), madeGo k p l = some r → r.length ≤ l.length
  | [], r, h => by
    rw [madeGo_nil] at h
    injection h with h
    subst h
    exact Nat.le_refl _
  | w :: l, r, h => by
    rw [madeGo_cons] at h
    obtain ⟨b, _, h⟩ := Option.bind_eq_some_iff.mp h
    obtain ⟨q, hq, h⟩ := Option.bind_eq_some_iff.mp h
    injection h with h
    subst h
    have := madeGo_length k p l q hq
    split <;> simp <;> omega
theorem made_keep_calls (k : Nat) (p : List (S31)) (Ap : Option Addr) (cp : Nat) (x : ByteArray) (b : Bool) (P : Nat) (w : World) (hp : w.cell? ⟨P, 0, none⟩ = some (.slice Ap p.length cp)) (hrp : Kd.C k31 w Ap p.length p) (hcp : p.length ≤ cp) (h : impl_Makes.f k p x = some b) :
    Calls Try.prog 66 #[.string x, .pointer (some ⟨P, 0, none⟩)] w fun e w' => e = .returned (.bool b) ∧ Below w.heap.size w w' := by
  have kf := fun W (hW : Kd.C k31 W Ap p.length p) => impl_Makes.calls k Ap cp p x b W hW hcp h
  have HRP := Aside0.mk hrp
  clear h hrp
  go_enter Try.func66, Try.ntmps66
  go_wp2_with fail
  go_at_call 9
  refine (kf _ (by repeat (first | exact HRP.out | (with_reducible refine Kd.C_alloc ?_ _) | (with_reducible refine Kd.C_drewN ?_ _) | (with_reducible refine Kd.C_drew ?_)))).mono ?_
  rintro e w' ⟨rfl, hb⟩
  have HB := Aside0.mk (show Below w.heap.size w w' from by first | exact hb | exact hb.below)
  clear hb
  go_wp2_with fail
  go_ret
  exact ⟨rfl, HB.out⟩
set_option maxHeartbeats 1600000 in
set_option maxRecDepth 100000 in
theorem made_those_calls (k : Nat) (p : List (S31)) (Ap : Option Addr) (cp : Nat) (P : Nat) (A0 : Option Addr) (c0 : Nat) (l0 : List ByteArray) (r : List ByteArray) (w : World) (hp : w.cell? ⟨P, 0, none⟩ = some (.slice Ap p.length cp)) (hrp : Kd.C k31 w Ap p.length p) (hcp : p.length ≤ cp) (hr0 : Kd.C Kd.string w A0 l0.length l0) (hl : l0.length ≤ 1048576) (h : madeGo k p l0 = some r) :
    Calls Try.prog 65 #[.slice A0 l0.length c0, .func (.func 66) #[] #[.pointer (some ⟨P, 0, none⟩)]] w fun e w' => ∃ v0_ : Value, e = .returned (v0_) ∧ Kd.R Kd.string 9 w' w.heap.size (fun _ => True) v0_ r ∧ Below w.heap.size w w' := by
  have HR0 := Aside0.mk hr0
  have HP := Aside0.mk hp
  have HRP := Aside0.mk hrp
  have HH := Aside0.mk h
  clear hr0 hp hrp h
  have HB := Aside0.mk (Below.refl w.heap.size w)
  go_enter Try.func65, Try.ntmps65
  go_wp2
  go_loopg [5, 10] l0.length (fun kq v5 v10 w' => ∃ (i : Nat) (acc : List ByteArray), v10 = .int .i64 (i : Int) ∧ Aside0 (i ≤ l0.length) ∧ Aside0 (l0.length - i ≤ kq) ∧ Aside0 (acc.length ≤ i) ∧ Aside0 (∃ q, madeGo k p (l0.drop i) = some q ∧ acc ++ q = r) ∧ Aside0 (Kd.R Kd.string 9 w' w.heap.size (fun _ => True) v5 acc) ∧ Aside0 (Below w.heap.size w w'))
  case atStart => exact ⟨0, [], rfl, ⟨Nat.zero_le _⟩, ⟨by omega⟩, ⟨Nat.le_refl _⟩, ⟨r, HH.out, rfl⟩, ⟨Kd.R_nil _ _ _ _ _⟩, ⟨z12_0⟩⟩
  case round =>
    clear HB
    obtain ⟨i, acc, rfl, hi, hk, hn, heq, HO, HB⟩ := hrel
    by_cases hlt : i < l0.length
    · have cb0 : decide ((i : Int) < (l0.length : Int)) = true := by simp; exact hlt
      have hcr : rdOf ByteArray.empty l0 (i : Int) = l0[i] := by
        unfold rdOf
        simp [hlt]
      obtain ⟨ad, e1, hx⟩ := Kd.at_string HR0.out (i : Int) (by omega) (by omega)
      cases e1
      replace hx := (HB.out.cell (World.block_lt_of_cell? w _ hx)).trans hx
      rw [hcr] at hx
      simp only [Int.toNat_natCast] at hx
      have p1 : (0 ≤ (i : Int)) = True := eq_true (by omega)
      have q1 : ((i : Int) < (l0.length : Int)) = True := eq_true (by omega)
      obtain ⟨q, heq', hq⟩ := heq.out
      rw [List.drop_eq_getElem_cons hlt, madeGo_cons] at heq'
      obtain ⟨b, hb, heq'⟩ := Option.bind_eq_some_iff.mp heq'
      obtain ⟨q', hq', heq'⟩ := Option.bind_eq_some_iff.mp heq'
      injection heq' with heq'
      have kk := fun W (hW : Below w.heap.size w W) => made_keep_calls k p Ap cp l0[i] b P W ((hW.cell (World.block_lt_of_cell? w _ HP.out)).trans HP.out) (Kd.C_below HRP.out hW) hcp hb
      generalize l0[i] = x at hx kk hb heq'
      obtain ⟨Ao9, co9, eo9⟩ := Kd.R_slice HO.out
      subst eo9
      have LM := Aside0.mk (show acc.length ≤ 1048576 by have := hn.out; omega)
      cases b with
      | true =>
        rw [if_pos rfl] at heq'
        have HE := Aside0.mk (show ∃ q, madeGo k p (l0.drop (i + 1)) = some q ∧ (acc ++ [x]) ++ q = r from ⟨q', hq', by rw [← hq, ← heq']; simp⟩)
        clear heq' hq hq' hb hcr heq
        go_wp2_with fail
        go_at_call 66
        refine (kk _ z12_0).mono ?_
        rintro e w2 ⟨rfl, hb2⟩
        have HO2 := Aside0.mk (Kd.R_below (kd12_ HO.out) hb2)
        have HB2 := Aside0.mk (below_step z12_0 hb2)
        clear HO HB hb2
        go_wp2_with ((with_reducible refine gate_builtin (b := .append) (xs := #[.tmp 17, .tmp 19]) rfl ?_); at_builtin; refine Kd.R_append Kd.string (w0 := w) w.heap.size rfl (.tmp 17) (.tmp 19) 36 9 (.string ⟨#[]⟩) 16 rfl Try.underlying36 info9 rfl (by decide) (by omega) (.slice Ao9 acc.length co9) acc x [.string x] (fun _ => True) (fun _ => False) rfl rfl ?aP (fun _ hk => hk.elim) ?aF ?aO ?aB ?aS ?aL ?_; (case aP => exact rfl); (case aB => exact (by repeat (first | (with_reducible first | exact HB2.out | apply below_alloc | apply pw_below_drewN | apply below_drew1) | exact HB2.out))); (case aF => exact (fun _ _ => trivial)); (case aO => exact (kd12_ HO2.out)); (case aS => exact (below_size (by repeat (first | (with_reducible first | exact HB2.out | apply below_alloc | apply pw_below_drewN | apply below_drew1) | exact HB2.out)))); (case aL => have := LM.out; omega); intro v128 w10 ho hb hg hat; have HB := Aside0.mk (hb); have HO129 := Aside0.mk (ho); clear HB2; clear HO2; clear ho hb hg hat)
        go_roundg (l0.length - (i + 1))
        case measure => have := hk.out; omega
        case rel => exact ⟨i + 1, acc ++ [x], by simp, ⟨by omega⟩, ⟨Nat.le_refl _⟩, ⟨by have := hn.out; simp; omega⟩, HE, ⟨by (with_reducible repeat (first | apply Kd.R_alloc | apply Kd.R_drewN | apply Kd.R_drew)); exact HO129.out⟩, ⟨z12_0⟩⟩
      | false =>
        rw [if_neg (by simp)] at heq'
        have HE := Aside0.mk (show ∃ q, madeGo k p (l0.drop (i + 1)) = some q ∧ acc ++ q = r from ⟨q', hq', by rw [← hq, ← heq']⟩)
        clear heq' hq hq' hb hcr heq
        go_wp2_with fail
        go_at_call 66
        refine (kk _ z12_0).mono ?_
        rintro e w2 ⟨rfl, hb2⟩
        have HO2 := Aside0.mk (Kd.R_below (kd12_ HO.out) hb2)
        have HB2 := Aside0.mk (below_step z12_0 hb2)
        clear HO HB hb2
        go_wp2_with fail
        go_roundg (l0.length - (i + 1))
        case measure => have := hk.out; omega
        case rel => exact ⟨i + 1, acc, by simp, ⟨by omega⟩, ⟨Nat.le_refl _⟩, ⟨by have := hn.out; omega⟩, HE, ⟨by (with_reducible repeat (first | apply Kd.R_alloc | apply Kd.R_drewN | apply Kd.R_drew)); exact HO2.out⟩, ⟨by repeat (first | (with_reducible first | exact HB2.out | apply below_alloc | apply pw_below_drewN | apply below_drew1) | exact HB2.out)⟩⟩
    · have cb0 : decide ((i : Int) < (l0.length : Int)) = false := by simp; omega
      obtain ⟨q, hq, HE⟩ := heq.out
      rw [List.drop_eq_nil_of_le (by omega), madeGo_nil] at hq
      injection hq with hq
      subst hq
      rw [List.append_nil] at HE
      subst HE
      clear heq
      go_wp2
      go_ret
      exact ⟨_, rfl, by (with_reducible repeat (first | apply Kd.R_alloc | apply Kd.R_drewN | apply Kd.R_drew)); exact HO.out, z12_0⟩
def impl_WordsMade.f (k : Nat) (l0 : List (S31)) (l1 : List ByteArray) : Option (List ByteArray) := if l1.length ≤ 1048576 then madeGo k l0 l1 else none
theorem impl_WordsMade.mono : ∀ a0 a1 k, LeO (impl_WordsMade.f k a0 a1) (impl_WordsMade.f (k + 1) a0 a1) := by
  intro a0 a1 k
  unfold impl_WordsMade.f
  exact LeO.ite (madeGo_mono _ _ _) (LeO.none _)
theorem impl_WordsMade.calls (k : Nat) (A0 : Option Addr) (c0 : Nat) (l0 : List (S31)) (A1 : Option Addr) (c1 : Nat) (l1 : List ByteArray) (r : List ByteArray) (w : World) (hr0 : Kd.C k31 w A0 l0.length l0) (hc0 : l0.length ≤ c0) (hr1 : Kd.C Kd.string w A1 l1.length l1) (hc1 : l1.length ≤ c1) (h : impl_WordsMade.f k l0 l1 = some r) :
    Calls Try.prog 18 #[.slice A0 l0.length c0, .slice A1 l1.length c1] w fun e w' => ∃ v0_ : Value, e = .returned (v0_) ∧ Kd.R Kd.string 9 w' w.heap.size (fun _ => True) v0_ r ∧ Below w.heap.size w w' := by
  unfold impl_WordsMade.f at h
  by_cases hl : l1.length ≤ 1048576
  · rw [if_pos hl] at h
    have kt := made_those_calls k l0 A0 c0 w.heap.size A1 c1 l1 r (w.alloc (.cells #[.slice A0 l0.length c0] 24)) (by simp [World.cell?, World.alloc, -World.alloc_eq]) (Kd.C_below hr0 (below_alloc (Below.refl _ _) _)) hc0 (Kd.C_below hr1 (below_alloc (Below.refl _ _) _)) hl h
    clear hr0 hr1 h
    go_enter Try.func18, Try.ntmps18
    go_wp2_with fail
    go_at_call 65
    refine kt.mono ?_
    rintro e w2 ⟨v1, rfl, ho1, hb1⟩
    obtain ⟨A2, c2, rfl⟩ := Kd.R_slice ho1
    have HO := Aside0.mk ho1
    have HB := Aside0.mk hb1
    clear ho1 hb1
    go_wp2_with fail
    go_ret
    exact ⟨_, rfl, Kd.R_lower HO.out (by simp), below_step (w := w) (below_alloc (Below.refl _ _) _) HB.out⟩
  · rw [if_neg hl] at h
    cases h


/-! ### slices_Index_string_string: function 88 -/
def slices_Index_string_string.l0 : Nat → List ByteArray → ByteArray → Int → Int → Option (Int)
  | 0, _, _, _, _ => none
  | k + 1, x0, x1, x7, x8 => if x8 < x7 then (if 0 ≤ x8 then (if x8 < (x0.length : Int) then (if x1.toList = (rdOf ByteArray.empty x0 x8).toList then (some x8) else (slices_Index_string_string.l0 k x0 x1 x7 (wrap64 (x8 + 1)))) else (none)) else (none)) else (some (-1))
def slices_Index_string_string.f (k : Nat) (l0 : List ByteArray) (a1 : ByteArray) : Option (Int) := slices_Index_string_string.l0 k l0 a1 (l0.length : Int) 0
theorem slices_Index_string_string.mono_l : ∀ k, (∀ y0 y1 y2 y3, LeO (slices_Index_string_string.l0 k y0 y1 y2 y3) (slices_Index_string_string.l0 (k + 1) y0 y1 y2 y3))
  | 0 => fun _ _ _ _ r h => by simp [slices_Index_string_string.l0] at h
  | k + 1 => by
   have ih0 := slices_Index_string_string.mono_l k
   ·intro y0 y1 y2 y3
    unfold slices_Index_string_string.l0
    repeat' first
    | (with_reducible exact ih0 _ _ _ _)
    | (with_reducible exact LeO.refl _)
    | (with_reducible exact LeO.none _)
    | (with_reducible refine LeO.ite ?_ ?_)
    | (with_reducible refine LeO.bind ?_ (fun _ => ?_))
    | exact ih0 _ _ _ _
    | exact LeO.none _
    | refine LeO.ite ?_ ?_
    | refine LeO.bind ?_ (fun _ => ?_)
theorem slices_Index_string_string.mono : ∀ a0 a1 k, LeO (slices_Index_string_string.f k a0 a1) (slices_Index_string_string.f (k + 1) a0 a1) := by
  intro a0 a1 k
  have ih0 := slices_Index_string_string.mono_l k
  unfold slices_Index_string_string.f
  repeat' first
    | (with_reducible exact ih0 _ _ _ _)
    | (with_reducible exact LeO.refl _)
    | (with_reducible exact LeO.none _)
    | (with_reducible refine LeO.ite ?_ ?_)
    | (with_reducible refine LeO.bind ?_ (fun _ => ?_))
    | exact ih0 _ _ _ _
    | exact LeO.none _
    | refine LeO.ite ?_ ?_
    | refine LeO.bind ?_ (fun _ => ?_)
set_option maxHeartbeats 8000000 in
set_option maxRecDepth 100000 in
theorem slices_Index_string_string.calls (k : Nat) (A0 : Option Addr) (c0 : Nat) (l0 : List ByteArray) (a1 : ByteArray) (r : Int) (w : World) (hr0 : Kd.C Kd.string w A0 l0.length l0) (hc0 : l0.length ≤ c0) (h : slices_Index_string_string.f k l0 a1 = some r) :
   Calls Try.prog 88 #[.slice A0 l0.length c0, .string a1] w fun e w' => e = .returned (.int .i64 r) ∧ Drawn0 w w' := by
  have HR0 := Aside0.mk hr0
  have HC0 := Aside0.mk hc0
  clear hr0 hc0
  have H : (slices_Index_string_string.l0 k l0 a1 (l0.length : Int) 0) = some r := h
  clear h
  have H' := Aside0.mk H
  clear H
  go_enter Try.func88, Try.ntmps88
  go_wp2
  go_loopg [8] k (fun kq v8 w' => ∃ (x8_1 : Int), v8 = .int .i64 x8_1 ∧ Aside0 (slices_Index_string_string.l0 kq l0 a1 (l0.length : Int) x8_1 = some r) ∧ Aside0 (kq ≤ k) ∧ Drawn0 w w')
  case atStart => exact ⟨(0), (by first | rfl | (simp; done) | (simp [*]; done)), H', ⟨Nat.le_refl _⟩, by repeat (first | exact Drawn0.refl _ | apply Drawn0.step)⟩
  case round =>
   clear H'
   try clear p2
   obtain ⟨x8_1, rfl, HA, HK1, ⟨m1, rfl⟩⟩ := hrel
   cases gk with
   | zero => exact absurd HA.out (by simp [slices_Index_string_string.l0])
   | succ k1 =>
    have H := HA.out
    clear HA
    simp only [slices_Index_string_string.l0] at H
    by_cases c3 : x8_1 < (l0.length : Int)
    ·rw [if_pos c3] at H
     have c3b0 : decide (x8_1 < (l0.length : Int)) = true := decide_eq_true c3
     clear c3
     by_cases c4 : 0 ≤ x8_1
     ·rw [if_pos c4] at H
      have c4b0 : decide (0 ≤ x8_1) = true := decide_eq_true c4
      clear c4
      by_cases c5 : x8_1 < (l0.length : Int)
      ·rw [if_pos c5] at H
       have c5b0 : decide (x8_1 < (l0.length : Int)) = true := decide_eq_true c5
       clear c5
       by_cases c6 : a1.toList = (rdOf ByteArray.empty l0 x8_1).toList
       ·rw [if_pos c6] at H
        have c6b0 : (a1.toList == (rdOf ByteArray.empty l0 x8_1).toList) = true := beq_iff_eq.mpr c6
        have c6b1 : (a1.toList != (rdOf ByteArray.empty l0 x8_1).toList) = false := bne_eq_false_iff_eq.mpr c6
        clear c6
        obtain rfl := Option.some.inj H
        have p364 : 0 ≤ (x8_1 : Int) := of_decide_eq_true (by first | (with_reducible assumption) | assumption)
        have q364 : x8_1 < (l0.length : Int) := of_decide_eq_true (by first | (with_reducible assumption) | assumption)
        obtain ⟨ad364, e364, hx364_0⟩ := Kd.at_string HR0.out x8_1 p364 q364
        cases e364
        replace p364 := eq_true p364
        replace q364 := eq_true q364
        go_wp2
        go_ret
        exact ⟨by first | rfl | (simp; done) | (simp [*]; done), by repeat (first | exact Drawn0.refl _ | apply Drawn0.step)⟩
       ·rw [if_neg c6] at H
        have c6b0 : (a1.toList == (rdOf ByteArray.empty l0 x8_1).toList) = false := beq_eq_false_iff_ne.mpr c6
        have c6b1 : (a1.toList != (rdOf ByteArray.empty l0 x8_1).toList) = true := bne_iff_ne.mpr c6
        have H' := Aside0.mk H
        clear H
        have p364 : 0 ≤ (x8_1 : Int) := of_decide_eq_true (by first | (with_reducible assumption) | assumption)
        have q364 : x8_1 < (l0.length : Int) := of_decide_eq_true (by first | (with_reducible assumption) | assumption)
        obtain ⟨ad364, e364, hx364_0⟩ := Kd.at_string HR0.out x8_1 p364 q364
        cases e364
        replace p364 := eq_true p364
        replace q364 := eq_true q364
        go_wp2
        go_roundg k1
        case measure => have := HK1.out; omega
        case rel => exact ⟨(wrap64 (x8_1 + 1)), (by first | rfl | (simp; done) | (simp [*]; done)), H', ⟨by have := HK1.out; omega⟩, by repeat (first | exact Drawn0.refl _ | apply Drawn0.step)⟩
      ·rw [if_neg c5] at H
       exact absurd H (by simp)
     ·rw [if_neg c4] at H
      exact absurd H (by simp)
    ·rw [if_neg c3] at H
     have c3b0 : decide (x8_1 < (l0.length : Int)) = false := decide_eq_false c3
     clear c3
     obtain rfl := Option.some.inj H
     go_wp2
     go_ret
     exact ⟨by first | rfl | (simp; done) | (simp [*]; done), by repeat (first | exact Drawn0.refl _ | apply Drawn0.step)⟩

/-! ### slices_Contains_string_string: function 67 -/
def slices_Contains_string_string.f (k : Nat) (l0 : List ByteArray) (a1 : ByteArray) : Option (Bool) := (slices_Index_string_string.f k l0 a1).bind fun t365 => (some (decide (t365 ≥ 0)))
theorem slices_Contains_string_string.mono : ∀ a0 a1 k, LeO (slices_Contains_string_string.f k a0 a1) (slices_Contains_string_string.f (k + 1) a0 a1) := by
  intro a0 a1 k
  unfold slices_Contains_string_string.f
  repeat' first
    | (with_reducible exact slices_Index_string_string.mono _ _ _)
    | (with_reducible exact LeO.refl _)
    | (with_reducible exact LeO.none _)
    | (with_reducible refine LeO.ite ?_ ?_)
    | (with_reducible refine LeO.bind ?_ (fun _ => ?_))
    | exact slices_Index_string_string.mono _ _ _
    | exact LeO.none _
    | refine LeO.ite ?_ ?_
    | refine LeO.bind ?_ (fun _ => ?_)
set_option maxHeartbeats 8000000 in
set_option maxRecDepth 100000 in
theorem slices_Contains_string_string.calls (k : Nat) (A0 : Option Addr) (c0 : Nat) (l0 : List ByteArray) (a1 : ByteArray) (r : Bool) (w : World) (hr0 : Kd.C Kd.string w A0 l0.length l0) (hc0 : l0.length ≤ c0) (h : slices_Contains_string_string.f k l0 a1 = some r) :
   Calls Try.prog 67 #[.slice A0 l0.length c0, .string a1] w fun e w' => e = .returned (.bool r) ∧ Drawn0 w w' := by
  have HR0 := Aside0.mk hr0
  have HC0 := Aside0.mk hc0
  clear hr0 hc0
  have H : ((slices_Index_string_string.f k l0 a1).bind fun t365 => (some (decide (t365 ≥ 0)))) = some r := h
  clear h
  replace H := Option.bind_eq_some_iff.mp H
  obtain ⟨t365, A30, H⟩ := H
  replace H : (some (decide (t365 ≥ 0))) = some r := H
  have A3 := Aside0.mk A30
  clear A30
  obtain rfl := Option.some.inj H
  go_enter Try.func67, Try.ntmps67
  go_wp2_with (first | ((with_reducible refine gate_callee (f := 88) rfl ?_); refine goesL_ (some 7) rfl rfl Try.func88 (by kernel_rfl) rfl #[.slice A0 l0.length c0, .string a1] rfl z12_1 ?_; (with_reducible refine (slices_Index_string_string.calls k _ _ l0 a1 t365 _ ?side1 ?side2 A3.out).mono ?_); (case side1 => repeat (first | exact HR0.out | (with_reducible refine Kd.C_alloc ?_ _) | (with_reducible refine Kd.C_drewN ?_ _) | (with_reducible refine Kd.C_drew ?_))); (case side2 => exact HC0.out); rintro e w' ⟨rfl, ⟨nd, rfl⟩⟩; refine ⟨_, rfl, ?_⟩))
  go_ret
  exact ⟨by first | rfl | (simp; done) | (simp [*]; done), by repeat (first | exact Drawn0.refl _ | apply Drawn0.step)⟩

/-! ### impl_HasWord: function 19 -/
def impl_HasWord.f (k : Nat) (l0 : List ByteArray) (a1 : ByteArray) : Option (Bool) := (slices_Contains_string_string.f k l0 a1).bind fun t366 => (some t366)
theorem impl_HasWord.mono : ∀ a0 a1 k, LeO (impl_HasWord.f k a0 a1) (impl_HasWord.f (k + 1) a0 a1) := by
  intro a0 a1 k
  unfold impl_HasWord.f
  repeat' first
    | (with_reducible exact slices_Contains_string_string.mono _ _ _)
    | (with_reducible exact LeO.refl _)
    | (with_reducible exact LeO.none _)
    | (with_reducible refine LeO.ite ?_ ?_)
    | (with_reducible refine LeO.bind ?_ (fun _ => ?_))
    | exact slices_Contains_string_string.mono _ _ _
    | exact LeO.none _
    | refine LeO.ite ?_ ?_
    | refine LeO.bind ?_ (fun _ => ?_)
set_option maxHeartbeats 8000000 in
set_option maxRecDepth 100000 in
theorem impl_HasWord.calls (k : Nat) (A0 : Option Addr) (c0 : Nat) (l0 : List ByteArray) (a1 : ByteArray) (r : Bool) (w : World) (hr0 : Kd.C Kd.string w A0 l0.length l0) (hc0 : l0.length ≤ c0) (h : impl_HasWord.f k l0 a1 = some r) :
   Calls Try.prog 19 #[.slice A0 l0.length c0, .string a1] w fun e w' => e = .returned (.bool r) ∧ Drawn0 w w' := by
  have HR0 := Aside0.mk hr0
  have HC0 := Aside0.mk hc0
  clear hr0 hc0
  have H : ((slices_Contains_string_string.f k l0 a1).bind fun t366 => (some t366)) = some r := h
  clear h
  replace H := Option.bind_eq_some_iff.mp H
  obtain ⟨t366, A30, H⟩ := H
  replace H : (some t366) = some r := H
  have A3 := Aside0.mk A30
  clear A30
  obtain rfl := Option.some.inj H
  go_enter Try.func19, Try.ntmps19
  go_wp2_with (first | ((with_reducible refine gate_callee (f := 67) rfl ?_); refine goesL_ (some 7) rfl rfl Try.func67 (by kernel_rfl) rfl #[.slice A0 l0.length c0, .string a1] rfl z12_1 ?_; (with_reducible refine (slices_Contains_string_string.calls k _ _ l0 a1 t366 _ ?side1 ?side2 A3.out).mono ?_); (case side1 => repeat (first | exact HR0.out | (with_reducible refine Kd.C_alloc ?_ _) | (with_reducible refine Kd.C_drewN ?_ _) | (with_reducible refine Kd.C_drew ?_))); (case side2 => exact HC0.out); rintro e w' ⟨rfl, ⟨nd, rfl⟩⟩; refine ⟨_, rfl, ?_⟩))
  go_ret
  exact ⟨by first | rfl | (simp; done) | (simp [*]; done), by repeat (first | exact Drawn0.refl _ | apply Drawn0.step)⟩

end Go.Proofs.Ytodcckiphdnjeab.QFnPlays
