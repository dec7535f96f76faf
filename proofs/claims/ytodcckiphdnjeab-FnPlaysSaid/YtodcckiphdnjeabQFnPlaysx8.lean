-- Written by a changed copy of the kit's printer (wip/mp.py of this repo), for this claim; Lean checks it.
import Derived.Test.YtodcckiphdnjeabQFnPlaysx0
import Derived.Test.YtodcckiphdnjeabQFnPlaysx7
namespace Go.Proofs.Ytodcckiphdnjeab.QFnPlays
@[simp] theorem bne_nil_8 (l : List UInt8) : (l != ([] : List UInt8)) = !l.isEmpty := by cases l <;> rfl
open Go.RowKit Go.Proofs.YtodcckiphdnjeabW.PrintWords Go.Proofs.YtodcckiphdnjeabW.PrintLast Go.Proofs.YtodcckiphdnjeabW.PrintMore
attribute [local go_sem] max2_int min2_int max_two min_two max_three min_three max_four min_four   -- for this text's walks alone
set_option linter.unusedVariables false
set_option linter.unusedSimpArgs false

theorem ab8_ {p q : Prop} (h0 : q) (h : q → p := by intro h_; first | (rw [add_block]; exact h_) | (show (Addr.add _ _).block ≠ _; rw [add_block]; exact h_) | exact h_) : p := h h0
theorem bl8_ {p q : Prop} (h0 : q) (h : q → p := by intro h_; have := World.block_lt_of_cell? _ _ h_; first | rwa [add_block] at this | exact this) : p := h h0
theorem z8_0 {p : Prop} (h : p := by (with_reducible repeat (first | refine blk_drewN ?_ _ | refine blk_drew ?_ | refine blk_alloc ?_ _)); refine blk_put (cs := #[.int .i64 ((rd_T31 l0 x11_1).f0), .string ((rd_T31 l0 x11_1).f1), .int .i64 ((rd_T31 l0 x11_1).f2), .int .i64 0]) ?_ 3 _ rfl; (with_reducible repeat (first | refine blk_drewN ?_ _ | refine blk_drew ?_ | refine blk_alloc ?_ _)); refine blk_put (cs := #[.int .i64 ((rd_T31 l0 x11_1).f0), .string ((rd_T31 l0 x11_1).f1), .int .i64 0, .int .i64 0]) ?_ 2 _ rfl; (with_reducible repeat (first | refine blk_drewN ?_ _ | refine blk_drew ?_ | refine blk_alloc ?_ _)); refine blk_put (cs := #[.int .i64 ((rd_T31 l0 x11_1).f0), .string (⟨#[]⟩ : ByteArray), .int .i64 0, .int .i64 0]) ?_ 1 _ rfl; (with_reducible repeat (first | refine blk_drewN ?_ _ | refine blk_drew ?_ | refine blk_alloc ?_ _)); refine blk_put (cs := #[.int .i64 0, .string (⟨#[]⟩ : ByteArray), .int .i64 0, .int .i64 0]) ?_ 0 _ rfl; (with_reducible repeat (first | refine blk_drewN ?_ _ | refine blk_drew ?_ | refine blk_alloc ?_ _)); exact BK285.out) : p := h
theorem z8_1 {p : Prop} (h : p := by repeat (first | (with_reducible first | exact HB.out | apply below_alloc | apply pw_below_drewN | apply below_drew1) | exact HB.out)) : p := h
theorem z8_2 {p : Prop} (h : p := by repeat (first | (with_reducible first | exact HB.out | apply below_alloc | apply pw_below_drewN | apply below_drew1 | refine below_set ?_ GE285.out) | exact HB.out)) : p := h
theorem z8_3 {p : Prop} (h : p := by (try simp only [List.map_toArray, List.map_cons, List.map_nil]); first | done | rfl | (simp only [List.length_drop, List.length_take]; rfl)) : p := h
theorem z8_4 {p : Prop} (h : p := by first | rfl | (simp [errW_none, errW_some] <;> rfl) | (simp [*, errW_none, errW_some] <;> rfl)) : p := h
theorem z8_5 {p : Prop} (h : p := by first | (with_reducible assumption) | assumption) : p := h
/-! ### impl_IsPlay: function 10 -/
mutual
def impl_IsPlay.l0 : Nat → List (S31) → List (S31) → Int → Int → Option (Bool)
  | 0, _, _, _, _ => none
  | k + 1, x0, x9, x10, x11 => if x11 < x10 then (if 0 ≤ x11 then (if x11 < (x9.length : Int) then ((impl_InRange.f ((rd_T31 x9 x11).f0) 1 9).bind fun t286 => (if t286 = true then (if ((rd_T31 x9 x11).f0) = 1 then ((impl_IsWord.f k ((rd_T31 x9 x11).f1)).bind fun t287 => (if t287 = true then (if ((rd_T31 x9 x11).f2) = 0 then (if ((rd_T31 x9 x11).f3) = 0 then (impl_IsPlay.l0 k x0 x9 x10 (wrap64 (x11 + 1))) else (some false)) else (some false)) else (some false))) else (if ((rd_T31 x9 x11).f1).toList = ([] : List UInt8) then ((impl_at.f ((rd_T31 x9 x11).f2) x11).bind fun t288 => (if t288 = true then ((impl_needsWord.f ((rd_T31 x9 x11).f0)).bind fun t289 => (if t289 = true then (if 0 ≤ ((rd_T31 x9 x11).f2) then (if ((rd_T31 x9 x11).f2) < (x0.length : Int) then (impl_IsPlay.j1 k x0 x11 x9 x10 x11 (((rd_T31 x0 ((rd_T31 x9 x11).f2)).f0) != 1) ((rd_T31 x9 x11).f0) ((rd_T31 x9 x11).f1) ((rd_T31 x9 x11).f2) ((rd_T31 x9 x11).f3)) else (none)) else (none)) else (impl_IsPlay.j1 k x0 x11 x9 x10 x11 false ((rd_T31 x9 x11).f0) ((rd_T31 x9 x11).f1) ((rd_T31 x9 x11).f2) ((rd_T31 x9 x11).f3)))) else (impl_IsPlay.j1 k x0 x11 x9 x10 x11 true ((rd_T31 x9 x11).f0) ((rd_T31 x9 x11).f1) ((rd_T31 x9 x11).f2) ((rd_T31 x9 x11).f3)))) else (impl_IsPlay.j1 k x0 x11 x9 x10 x11 true ((rd_T31 x9 x11).f0) ((rd_T31 x9 x11).f1) ((rd_T31 x9 x11).f2) ((rd_T31 x9 x11).f3)))) else (some false))) else (none)) else (none)) else (some true)
def impl_IsPlay.j1 : Nat → List (S31) → Int → List (S31) → Int → Int → Bool → Int → ByteArray → Int → Int → Option (Bool)
  | 0, _, _, _, _, _, _, _, _, _, _ => none
  | k + 1, x0, x3, x9, x10, x11, x60, x286000, x286001, x286002, x286003 => if x60 = true then (some false) else ((impl_isPair.f x286000).bind fun t291 => (if t291 = true then ((impl_at.f x286003 x3).bind fun t292 => (if t292 = true then ((impl_isPair.f x286000).bind fun t293 => (if t293 = true then (impl_IsPlay.l0 k x0 x9 x10 (wrap64 (x11 + 1))) else (if x286003 = 0 then (impl_IsPlay.l0 k x0 x9 x10 (wrap64 (x11 + 1))) else (some false)))) else (some false))) else ((impl_isPair.f x286000).bind fun t294 => (if t294 = true then (impl_IsPlay.l0 k x0 x9 x10 (wrap64 (x11 + 1))) else (if x286003 = 0 then (impl_IsPlay.l0 k x0 x9 x10 (wrap64 (x11 + 1))) else (some false))))))
end
def impl_IsPlay.f (k : Nat) (l0 : List (S31)) : Option (Bool) := (impl_InRange.f (l0.length : Int) 1 9).bind fun t283 => (if t283 = true then (impl_IsPlay.l0 k l0 l0 (l0.length : Int) 0) else (some false))
theorem impl_IsPlay.mono_l : ∀ k, (∀ y0 y1 y2 y3, LeO (impl_IsPlay.l0 k y0 y1 y2 y3) (impl_IsPlay.l0 (k + 1) y0 y1 y2 y3)) ∧ (∀ y0 y1 y2 y3 y4 y5 y6 y7 y8 y9, LeO (impl_IsPlay.j1 k y0 y1 y2 y3 y4 y5 y6 y7 y8 y9) (impl_IsPlay.j1 (k + 1) y0 y1 y2 y3 y4 y5 y6 y7 y8 y9))
  | 0 => ⟨fun _ _ _ _ r h => by simp [impl_IsPlay.l0] at h, fun _ _ _ _ _ _ _ _ _ _ r h => by simp [impl_IsPlay.j1] at h⟩
  | k + 1 => by
   obtain ⟨ih0, ih1⟩ := impl_IsPlay.mono_l k
   refine ⟨?_, ?_⟩
   ·intro y0 y1 y2 y3
    unfold impl_IsPlay.l0
    repeat' first
    | (with_reducible exact ih0 _ _ _ _)
    | (with_reducible exact ih1 _ _ _ _ _ _ _ _ _ _)
    | (with_reducible exact impl_IsWord.mono _ _)
    | (with_reducible exact LeO.refl _)
    | (with_reducible exact LeO.none _)
    | (with_reducible refine LeO.ite ?_ ?_)
    | (with_reducible refine LeO.bind ?_ (fun _ => ?_))
    | exact ih0 _ _ _ _
    | exact ih1 _ _ _ _ _ _ _ _ _ _
    | exact impl_IsWord.mono _ _
    | exact LeO.none _
    | refine LeO.ite ?_ ?_
    | refine LeO.bind ?_ (fun _ => ?_)
   ·intro y0 y1 y2 y3 y4 y5 y6 y7 y8 y9
    unfold impl_IsPlay.j1
    repeat' first
    | (with_reducible exact ih0 _ _ _ _)
    | (with_reducible exact ih1 _ _ _ _ _ _ _ _ _ _)
    | (with_reducible exact impl_IsWord.mono _ _)
    | (with_reducible exact LeO.refl _)
    | (with_reducible exact LeO.none _)
    | (with_reducible refine LeO.ite ?_ ?_)
    | (with_reducible refine LeO.bind ?_ (fun _ => ?_))
    | exact ih0 _ _ _ _
    | exact ih1 _ _ _ _ _ _ _ _ _ _
    | exact impl_IsWord.mono _ _
    | exact LeO.none _
    | refine LeO.ite ?_ ?_
    | refine LeO.bind ?_ (fun _ => ?_)
theorem impl_IsPlay.mono : ∀ a0 k, LeO (impl_IsPlay.f k a0) (impl_IsPlay.f (k + 1) a0) := by
  intro a0 k
  obtain ⟨ih0, ih1⟩ := impl_IsPlay.mono_l k
  unfold impl_IsPlay.f
  repeat' first
    | (with_reducible exact ih0 _ _ _ _)
    | (with_reducible exact ih1 _ _ _ _ _ _ _ _ _ _)
    | (with_reducible exact impl_IsWord.mono _ _)
    | (with_reducible exact LeO.refl _)
    | (with_reducible exact LeO.none _)
    | (with_reducible refine LeO.ite ?_ ?_)
    | (with_reducible refine LeO.bind ?_ (fun _ => ?_))
    | exact ih0 _ _ _ _
    | exact ih1 _ _ _ _ _ _ _ _ _ _
    | exact impl_IsWord.mono _ _
    | exact LeO.none _
    | refine LeO.ite ?_ ?_
    | refine LeO.bind ?_ (fun _ => ?_)
set_option maxHeartbeats 8000000 in
set_option maxRecDepth 100000 in
theorem impl_IsPlay.calls (k : Nat) (A0 : Option Addr) (c0 : Nat) (l0 : List (S31)) (r : Bool) (w : World) (hr0 : Kd.C k31 w A0 l0.length l0) (hc0 : l0.length ≤ c0) (h : impl_IsPlay.f k l0 = some r) :
   Calls Try.prog 10 #[.slice A0 l0.length c0] w fun e w' => e = .returned (.bool r) ∧ Below w.heap.size w w' := by
  have hu31 := Try.underlying31
  have HR0 := Aside0.mk hr0
  have HC0 := Aside0.mk hc0
  clear hr0 hc0
  have HB := Aside0.mk (Below.refl w.heap.size w)
  have H : ((impl_InRange.f (l0.length : Int) 1 9).bind fun t283 => (if t283 = true then (impl_IsPlay.l0 k l0 l0 (l0.length : Int) 0) else (some false))) = some r := h
  clear h
  replace H := Option.bind_eq_some_iff.mp H
  obtain ⟨t283, A20, H⟩ := H
  replace H : (if t283 = true then (impl_IsPlay.l0 k l0 l0 (l0.length : Int) 0) else (some false)) = some r := H
  have A2 := Aside0.mk A20
  clear A20
  by_cases c3 : t283 = true
  ·subst c3
   have H1 : (impl_IsPlay.l0 k l0 l0 (l0.length : Int) 0) = some r := by rw [if_pos rfl] at H; exact H
   clear H
   have H := H1
   clear H1
   have H' := Aside0.mk H
   clear H
   go_enter Try.func10, Try.ntmps10
   go_wp2_with (first | ((with_reducible refine gate_callee (f := 53) rfl ?_); refine goesL_ (some 7) rfl rfl Try.func53 (by kernel_rfl) rfl #[.int .i64 (l0.length : Int), .int .i64 1, .int .i64 9] rfl z8_3 ?_; (with_reducible refine (impl_InRange.calls (l0.length : Int) 1 9 true _ A2.out).mono ?_); rintro e w' ⟨rfl, ⟨nd, rfl⟩⟩; refine ⟨_, rfl, ?_⟩))
   go_loopg [11] k (fun kq v11 w' => ∃ (x11_1 : Int), v11 = .int .i64 x11_1 ∧ Aside0 (impl_IsPlay.l0 kq l0 l0 (l0.length : Int) x11_1 = some r) ∧ Aside0 (kq ≤ k) ∧ Aside0 (Below w.heap.size w w'))
   case atStart => exact ⟨(0), (by first | rfl | (simp; done) | (simp [*]; done)), H', ⟨Nat.le_refl _⟩, ⟨z8_1⟩⟩
   case round =>
    clear H'
    try clear c1
    try clear p2
    try clear c3
    obtain ⟨x11_1, rfl, HA, HK1, HB⟩ := hrel
    cases gk with
    | zero => exact absurd HA.out (by simp [impl_IsPlay.l0])
    | succ k1 =>
     have H := HA.out
     clear HA
     simp only [impl_IsPlay.l0] at H
     by_cases c4 : x11_1 < (l0.length : Int)
     ·rw [if_pos c4] at H
      have c4b0 : decide (x11_1 < (l0.length : Int)) = true := decide_eq_true c4
      clear c4
      by_cases c5 : 0 ≤ x11_1
      ·rw [if_pos c5] at H
       have c5b0 : decide (0 ≤ x11_1) = true := decide_eq_true c5
       clear c5
       by_cases c6 : x11_1 < (l0.length : Int)
       ·rw [if_pos c6] at H
        have c6b0 : decide (x11_1 < (l0.length : Int)) = true := decide_eq_true c6
        clear c6
        replace H := Option.bind_eq_some_iff.mp H
        obtain ⟨t286, A70, H⟩ := H
        replace H : (if t286 = true then (if ((rd_T31 l0 x11_1).f0) = 1 then ((impl_IsWord.f k1 ((rd_T31 l0 x11_1).f1)).bind fun t287 => (if t287 = true then (if ((rd_T31 l0 x11_1).f2) = 0 then (if ((rd_T31 l0 x11_1).f3) = 0 then (impl_IsPlay.l0 k1 l0 l0 (l0.length : Int) (wrap64 (x11_1 + 1))) else (some false)) else (some false)) else (some false))) else (if ((rd_T31 l0 x11_1).f1).toList = ([] : List UInt8) then ((impl_at.f ((rd_T31 l0 x11_1).f2) x11_1).bind fun t288 => (if t288 = true then ((impl_needsWord.f ((rd_T31 l0 x11_1).f0)).bind fun t289 => (if t289 = true then (if 0 ≤ ((rd_T31 l0 x11_1).f2) then (if ((rd_T31 l0 x11_1).f2) < (l0.length : Int) then (impl_IsPlay.j1 k1 l0 x11_1 l0 (l0.length : Int) x11_1 (((rd_T31 l0 ((rd_T31 l0 x11_1).f2)).f0) != 1) ((rd_T31 l0 x11_1).f0) ((rd_T31 l0 x11_1).f1) ((rd_T31 l0 x11_1).f2) ((rd_T31 l0 x11_1).f3)) else (none)) else (none)) else (impl_IsPlay.j1 k1 l0 x11_1 l0 (l0.length : Int) x11_1 false ((rd_T31 l0 x11_1).f0) ((rd_T31 l0 x11_1).f1) ((rd_T31 l0 x11_1).f2) ((rd_T31 l0 x11_1).f3)))) else (impl_IsPlay.j1 k1 l0 x11_1 l0 (l0.length : Int) x11_1 true ((rd_T31 l0 x11_1).f0) ((rd_T31 l0 x11_1).f1) ((rd_T31 l0 x11_1).f2) ((rd_T31 l0 x11_1).f3)))) else (impl_IsPlay.j1 k1 l0 x11_1 l0 (l0.length : Int) x11_1 true ((rd_T31 l0 x11_1).f0) ((rd_T31 l0 x11_1).f1) ((rd_T31 l0 x11_1).f2) ((rd_T31 l0 x11_1).f3)))) else (some false)) = some r := H
        have A7 := Aside0.mk A70
        clear A70
        by_cases c8 : t286 = true
        ·subst c8
         have H1 : (if ((rd_T31 l0 x11_1).f0) = 1 then ((impl_IsWord.f k1 ((rd_T31 l0 x11_1).f1)).bind fun t287 => (if t287 = true then (if ((rd_T31 l0 x11_1).f2) = 0 then (if ((rd_T31 l0 x11_1).f3) = 0 then (impl_IsPlay.l0 k1 l0 l0 (l0.length : Int) (wrap64 (x11_1 + 1))) else (some false)) else (some false)) else (some false))) else (if ((rd_T31 l0 x11_1).f1).toList = ([] : List UInt8) then ((impl_at.f ((rd_T31 l0 x11_1).f2) x11_1).bind fun t288 => (if t288 = true then ((impl_needsWord.f ((rd_T31 l0 x11_1).f0)).bind fun t289 => (if t289 = true then (if 0 ≤ ((rd_T31 l0 x11_1).f2) then (if ((rd_T31 l0 x11_1).f2) < (l0.length : Int) then (impl_IsPlay.j1 k1 l0 x11_1 l0 (l0.length : Int) x11_1 (((rd_T31 l0 ((rd_T31 l0 x11_1).f2)).f0) != 1) ((rd_T31 l0 x11_1).f0) ((rd_T31 l0 x11_1).f1) ((rd_T31 l0 x11_1).f2) ((rd_T31 l0 x11_1).f3)) else (none)) else (none)) else (impl_IsPlay.j1 k1 l0 x11_1 l0 (l0.length : Int) x11_1 false ((rd_T31 l0 x11_1).f0) ((rd_T31 l0 x11_1).f1) ((rd_T31 l0 x11_1).f2) ((rd_T31 l0 x11_1).f3)))) else (impl_IsPlay.j1 k1 l0 x11_1 l0 (l0.length : Int) x11_1 true ((rd_T31 l0 x11_1).f0) ((rd_T31 l0 x11_1).f1) ((rd_T31 l0 x11_1).f2) ((rd_T31 l0 x11_1).f3)))) else (impl_IsPlay.j1 k1 l0 x11_1 l0 (l0.length : Int) x11_1 true ((rd_T31 l0 x11_1).f0) ((rd_T31 l0 x11_1).f1) ((rd_T31 l0 x11_1).f2) ((rd_T31 l0 x11_1).f3)))) = some r := by rw [if_pos rfl] at H; exact H
         clear H
         have H := H1
         clear H1
         by_cases c9 : ((rd_T31 l0 x11_1).f0) = 1
         ·rw [if_pos c9] at H
          have c9b0 : (((rd_T31 l0 x11_1).f0) == 1) = true := beq_iff_eq.mpr c9
          have c9b1 : (((rd_T31 l0 x11_1).f0) != 1) = false := bne_eq_false_iff_eq.mpr c9
          clear c9
          replace H := Option.bind_eq_some_iff.mp H
          obtain ⟨t287, A100, H⟩ := H
          replace H : (if t287 = true then (if ((rd_T31 l0 x11_1).f2) = 0 then (if ((rd_T31 l0 x11_1).f3) = 0 then (impl_IsPlay.l0 k1 l0 l0 (l0.length : Int) (wrap64 (x11_1 + 1))) else (some false)) else (some false)) else (some false)) = some r := H
          have A10 := Aside0.mk A100
          clear A100
          by_cases c11 : t287 = true
          ·subst c11
           have H1 : (if ((rd_T31 l0 x11_1).f2) = 0 then (if ((rd_T31 l0 x11_1).f3) = 0 then (impl_IsPlay.l0 k1 l0 l0 (l0.length : Int) (wrap64 (x11_1 + 1))) else (some false)) else (some false)) = some r := by rw [if_pos rfl] at H; exact H
           clear H
           have H := H1
           clear H1
           by_cases c12 : ((rd_T31 l0 x11_1).f2) = 0
           ·rw [if_pos c12] at H
            have c12b0 : (((rd_T31 l0 x11_1).f2) == 0) = true := beq_iff_eq.mpr c12
            have c12b1 : (((rd_T31 l0 x11_1).f2) != 0) = false := bne_eq_false_iff_eq.mpr c12
            clear c12
            by_cases c13 : ((rd_T31 l0 x11_1).f3) = 0
            ·rw [if_pos c13] at H
             have c13b0 : (((rd_T31 l0 x11_1).f3) == 0) = true := beq_iff_eq.mpr c13
             have c13b1 : (((rd_T31 l0 x11_1).f3) != 0) = false := bne_eq_false_iff_eq.mpr c13
             clear c13
             have H' := Aside0.mk H
             clear H
             have p284 : 0 ≤ (x11_1 : Int) := of_decide_eq_true z8_5
             have q284 : x11_1 < (l0.length : Int) := of_decide_eq_true z8_5
             obtain ⟨ad284, e284, hx284_0, hx284_1, hx284_2, hx284_3⟩ := at_T31 HR0.out x11_1 p284 q284
             cases e284
             try replace hx284_0 := (HB.out.cell (World.block_lt_of_cell? w _ hx284_0)).trans hx284_0
             try replace hx284_1 := (HB.out.cell (World.block_lt_of_cell? w _ hx284_1)).trans hx284_1
             try replace hx284_2 := (HB.out.cell (World.block_lt_of_cell? w _ hx284_2)).trans hx284_2
             try replace hx284_3 := (HB.out.cell (World.block_lt_of_cell? w _ hx284_3)).trans hx284_3
             replace p284 := eq_true p284
             replace q284 := eq_true q284
             go_wp2_with (first | ((with_reducible refine gate_dst (N := 4) rfl ?_); refine box_event ?hg (N := 4) ?hd (cs := #[.int .i64 0, .string (⟨#[]⟩ : ByteArray), .int .i64 0, .int .i64 0]) (t := 31) ?hr ?_; (case hd => rfl); (case hg => rfl); (case hr => first | (go_simp; done) | (go_simp; rfl)); intro gb285 hg w14 hbox hb; have n0_ := Aside0.mk (below_step z8_1 hb); have n1_ := Aside0.mk (hbox); have n2_ := Aside0.mk ((by rw [hg]; exact (below_size z8_1) : w.heap.size ≤ gb285)); have n3_ := Aside0.mk ((by rw [hg]; exact (below_size z8_1) : w.heap.size ≤ gb285)); clear HB; have HB := n0_; have BK285 := n1_; have GW285 := n2_; have GE285 := n3_; clear n0_ n1_ n2_ n3_; clear hb hbox hg; have hcz15_0 : w14.cell? ⟨gb285, 0, none⟩ = some (.int .i64 0) := (blk_cell BK285.out 0).trans rfl; have hcz15_1 : w14.cell? ⟨gb285, 1, none⟩ = some (.string (⟨#[]⟩ : ByteArray)) := (blk_cell BK285.out 1).trans rfl; have hcz15_2 : w14.cell? ⟨gb285, 2, none⟩ = some (.int .i64 0) := (blk_cell BK285.out 2).trans rfl; have hcz15_3 : w14.cell? ⟨gb285, 3, none⟩ = some (.int .i64 0) := (blk_cell BK285.out 3).trans rfl; have hfz15_0 := blk_frozen BK285.out 0; have hfz15_1 := blk_frozen BK285.out 1; have hfz15_2 := blk_frozen BK285.out 2; have hfz15_3 := blk_frozen BK285.out 3) | ((with_reducible refine gate_callee (f := 53) rfl ?_); refine goesL_ (some 18) rfl rfl Try.func53 (by kernel_rfl) rfl #[.int .i64 ((rd_T31 l0 x11_1).f0), .int .i64 1, .int .i64 9] rfl z8_3 ?_; (with_reducible refine (impl_InRange.calls ((rd_T31 l0 x11_1).f0) 1 9 true _ A7.out).mono ?_); rintro e w' ⟨rfl, ⟨nd, rfl⟩⟩; refine ⟨_, rfl, ?_⟩) | ((with_reducible refine gate_callee (f := 12) rfl ?_); refine goesL_ (some 25) rfl rfl Try.func12 (by kernel_rfl) rfl #[.string ((rd_T31 l0 x11_1).f1)] rfl z8_3 ?_; (with_reducible refine (impl_IsWord.calls k1 ((rd_T31 l0 x11_1).f1) true _ A10.out).mono ?_); rintro e w' ⟨rfl, ⟨nd, rfl⟩⟩; refine ⟨_, rfl, ?_⟩))
             go_roundg k1
             case measure => have := HK1.out; omega
             case rel => exact ⟨(wrap64 (x11_1 + 1)), (by first | rfl | (simp; done) | (simp [*]; done)), H', ⟨by have := HK1.out; omega⟩, ⟨z8_2⟩⟩
            ·rw [if_neg c13] at H
             have c13b0 : (((rd_T31 l0 x11_1).f3) == 0) = false := beq_eq_false_iff_ne.mpr c13
             have c13b1 : (((rd_T31 l0 x11_1).f3) != 0) = true := bne_iff_ne.mpr c13
             obtain rfl := Option.some.inj H
             have p284 : 0 ≤ (x11_1 : Int) := of_decide_eq_true z8_5
             have q284 : x11_1 < (l0.length : Int) := of_decide_eq_true z8_5
             obtain ⟨ad284, e284, hx284_0, hx284_1, hx284_2, hx284_3⟩ := at_T31 HR0.out x11_1 p284 q284
             cases e284
             try replace hx284_0 := (HB.out.cell (World.block_lt_of_cell? w _ hx284_0)).trans hx284_0
             try replace hx284_1 := (HB.out.cell (World.block_lt_of_cell? w _ hx284_1)).trans hx284_1
             try replace hx284_2 := (HB.out.cell (World.block_lt_of_cell? w _ hx284_2)).trans hx284_2
             try replace hx284_3 := (HB.out.cell (World.block_lt_of_cell? w _ hx284_3)).trans hx284_3
             replace p284 := eq_true p284
             replace q284 := eq_true q284
             go_wp2_with (first | ((with_reducible refine gate_dst (N := 4) rfl ?_); refine box_event ?hg (N := 4) ?hd (cs := #[.int .i64 0, .string (⟨#[]⟩ : ByteArray), .int .i64 0, .int .i64 0]) (t := 31) ?hr ?_; (case hd => rfl); (case hg => rfl); (case hr => first | (go_simp; done) | (go_simp; rfl)); intro gb285 hg w16 hbox hb; have n0_ := Aside0.mk (below_step z8_1 hb); have n1_ := Aside0.mk (hbox); have n2_ := Aside0.mk ((by rw [hg]; exact (below_size z8_1) : w.heap.size ≤ gb285)); have n3_ := Aside0.mk ((by rw [hg]; exact (below_size z8_1) : w.heap.size ≤ gb285)); clear HB; have HB := n0_; have BK285 := n1_; have GW285 := n2_; have GE285 := n3_; clear n0_ n1_ n2_ n3_; clear hb hbox hg; have hcz17_0 : w16.cell? ⟨gb285, 0, none⟩ = some (.int .i64 0) := (blk_cell BK285.out 0).trans rfl; have hcz17_1 : w16.cell? ⟨gb285, 1, none⟩ = some (.string (⟨#[]⟩ : ByteArray)) := (blk_cell BK285.out 1).trans rfl; have hcz17_2 : w16.cell? ⟨gb285, 2, none⟩ = some (.int .i64 0) := (blk_cell BK285.out 2).trans rfl; have hcz17_3 : w16.cell? ⟨gb285, 3, none⟩ = some (.int .i64 0) := (blk_cell BK285.out 3).trans rfl; have hfz17_0 := blk_frozen BK285.out 0; have hfz17_1 := blk_frozen BK285.out 1; have hfz17_2 := blk_frozen BK285.out 2; have hfz17_3 := blk_frozen BK285.out 3) | ((with_reducible refine gate_callee (f := 53) rfl ?_); refine goesL_ (some 18) rfl rfl Try.func53 (by kernel_rfl) rfl #[.int .i64 ((rd_T31 l0 x11_1).f0), .int .i64 1, .int .i64 9] rfl z8_3 ?_; (with_reducible refine (impl_InRange.calls ((rd_T31 l0 x11_1).f0) 1 9 true _ A7.out).mono ?_); rintro e w' ⟨rfl, ⟨nd, rfl⟩⟩; refine ⟨_, rfl, ?_⟩) | ((with_reducible refine gate_callee (f := 12) rfl ?_); refine goesL_ (some 25) rfl rfl Try.func12 (by kernel_rfl) rfl #[.string ((rd_T31 l0 x11_1).f1)] rfl z8_3 ?_; (with_reducible refine (impl_IsWord.calls k1 ((rd_T31 l0 x11_1).f1) true _ A10.out).mono ?_); rintro e w' ⟨rfl, ⟨nd, rfl⟩⟩; refine ⟨_, rfl, ?_⟩))
             go_ret
             exact ⟨z8_4, z8_2⟩
           ·rw [if_neg c12] at H
            have c12b0 : (((rd_T31 l0 x11_1).f2) == 0) = false := beq_eq_false_iff_ne.mpr c12
            have c12b1 : (((rd_T31 l0 x11_1).f2) != 0) = true := bne_iff_ne.mpr c12
            obtain rfl := Option.some.inj H
            have p284 : 0 ≤ (x11_1 : Int) := of_decide_eq_true z8_5
            have q284 : x11_1 < (l0.length : Int) := of_decide_eq_true z8_5
            obtain ⟨ad284, e284, hx284_0, hx284_1, hx284_2, hx284_3⟩ := at_T31 HR0.out x11_1 p284 q284
            cases e284
            try replace hx284_0 := (HB.out.cell (World.block_lt_of_cell? w _ hx284_0)).trans hx284_0
            try replace hx284_1 := (HB.out.cell (World.block_lt_of_cell? w _ hx284_1)).trans hx284_1
            try replace hx284_2 := (HB.out.cell (World.block_lt_of_cell? w _ hx284_2)).trans hx284_2
            try replace hx284_3 := (HB.out.cell (World.block_lt_of_cell? w _ hx284_3)).trans hx284_3
            replace p284 := eq_true p284
            replace q284 := eq_true q284
            go_wp2_with (first | ((with_reducible refine gate_dst (N := 4) rfl ?_); refine box_event ?hg (N := 4) ?hd (cs := #[.int .i64 0, .string (⟨#[]⟩ : ByteArray), .int .i64 0, .int .i64 0]) (t := 31) ?hr ?_; (case hd => rfl); (case hg => rfl); (case hr => first | (go_simp; done) | (go_simp; rfl)); intro gb285 hg w18 hbox hb; have n0_ := Aside0.mk (below_step z8_1 hb); have n1_ := Aside0.mk (hbox); have n2_ := Aside0.mk ((by rw [hg]; exact (below_size z8_1) : w.heap.size ≤ gb285)); have n3_ := Aside0.mk ((by rw [hg]; exact (below_size z8_1) : w.heap.size ≤ gb285)); clear HB; have HB := n0_; have BK285 := n1_; have GW285 := n2_; have GE285 := n3_; clear n0_ n1_ n2_ n3_; clear hb hbox hg; have hcz19_0 : w18.cell? ⟨gb285, 0, none⟩ = some (.int .i64 0) := (blk_cell BK285.out 0).trans rfl; have hcz19_1 : w18.cell? ⟨gb285, 1, none⟩ = some (.string (⟨#[]⟩ : ByteArray)) := (blk_cell BK285.out 1).trans rfl; have hcz19_2 : w18.cell? ⟨gb285, 2, none⟩ = some (.int .i64 0) := (blk_cell BK285.out 2).trans rfl; have hcz19_3 : w18.cell? ⟨gb285, 3, none⟩ = some (.int .i64 0) := (blk_cell BK285.out 3).trans rfl; have hfz19_0 := blk_frozen BK285.out 0; have hfz19_1 := blk_frozen BK285.out 1; have hfz19_2 := blk_frozen BK285.out 2; have hfz19_3 := blk_frozen BK285.out 3) | ((with_reducible refine gate_callee (f := 53) rfl ?_); refine goesL_ (some 18) rfl rfl Try.func53 (by kernel_rfl) rfl #[.int .i64 ((rd_T31 l0 x11_1).f0), .int .i64 1, .int .i64 9] rfl z8_3 ?_; (with_reducible refine (impl_InRange.calls ((rd_T31 l0 x11_1).f0) 1 9 true _ A7.out).mono ?_); rintro e w' ⟨rfl, ⟨nd, rfl⟩⟩; refine ⟨_, rfl, ?_⟩) | ((with_reducible refine gate_callee (f := 12) rfl ?_); refine goesL_ (some 25) rfl rfl Try.func12 (by kernel_rfl) rfl #[.string ((rd_T31 l0 x11_1).f1)] rfl z8_3 ?_; (with_reducible refine (impl_IsWord.calls k1 ((rd_T31 l0 x11_1).f1) true _ A10.out).mono ?_); rintro e w' ⟨rfl, ⟨nd, rfl⟩⟩; refine ⟨_, rfl, ?_⟩))
            go_ret
            exact ⟨z8_4, z8_2⟩
          ·replace c11 := Bool.eq_false_iff.mpr c11
           subst c11
           have H1 : (some false) = some r := by rw [if_neg (show ¬ (false = true) by decide)] at H; exact H
           clear H
           have H := H1
           clear H1
           obtain rfl := Option.some.inj H
           have p284 : 0 ≤ (x11_1 : Int) := of_decide_eq_true z8_5
           have q284 : x11_1 < (l0.length : Int) := of_decide_eq_true z8_5
           obtain ⟨ad284, e284, hx284_0, hx284_1, hx284_2, hx284_3⟩ := at_T31 HR0.out x11_1 p284 q284
           cases e284
           try replace hx284_0 := (HB.out.cell (World.block_lt_of_cell? w _ hx284_0)).trans hx284_0
           try replace hx284_1 := (HB.out.cell (World.block_lt_of_cell? w _ hx284_1)).trans hx284_1
           try replace hx284_2 := (HB.out.cell (World.block_lt_of_cell? w _ hx284_2)).trans hx284_2
           try replace hx284_3 := (HB.out.cell (World.block_lt_of_cell? w _ hx284_3)).trans hx284_3
           replace p284 := eq_true p284
           replace q284 := eq_true q284
           go_wp2_with (first | ((with_reducible refine gate_dst (N := 4) rfl ?_); refine box_event ?hg (N := 4) ?hd (cs := #[.int .i64 0, .string (⟨#[]⟩ : ByteArray), .int .i64 0, .int .i64 0]) (t := 31) ?hr ?_; (case hd => rfl); (case hg => rfl); (case hr => first | (go_simp; done) | (go_simp; rfl)); intro gb285 hg w20 hbox hb; have n0_ := Aside0.mk (below_step z8_1 hb); have n1_ := Aside0.mk (hbox); have n2_ := Aside0.mk ((by rw [hg]; exact (below_size z8_1) : w.heap.size ≤ gb285)); have n3_ := Aside0.mk ((by rw [hg]; exact (below_size z8_1) : w.heap.size ≤ gb285)); clear HB; have HB := n0_; have BK285 := n1_; have GW285 := n2_; have GE285 := n3_; clear n0_ n1_ n2_ n3_; clear hb hbox hg; have hcz21_0 : w20.cell? ⟨gb285, 0, none⟩ = some (.int .i64 0) := (blk_cell BK285.out 0).trans rfl; have hcz21_1 : w20.cell? ⟨gb285, 1, none⟩ = some (.string (⟨#[]⟩ : ByteArray)) := (blk_cell BK285.out 1).trans rfl; have hcz21_2 : w20.cell? ⟨gb285, 2, none⟩ = some (.int .i64 0) := (blk_cell BK285.out 2).trans rfl; have hcz21_3 : w20.cell? ⟨gb285, 3, none⟩ = some (.int .i64 0) := (blk_cell BK285.out 3).trans rfl; have hfz21_0 := blk_frozen BK285.out 0; have hfz21_1 := blk_frozen BK285.out 1; have hfz21_2 := blk_frozen BK285.out 2; have hfz21_3 := blk_frozen BK285.out 3) | ((with_reducible refine gate_callee (f := 53) rfl ?_); refine goesL_ (some 18) rfl rfl Try.func53 (by kernel_rfl) rfl #[.int .i64 ((rd_T31 l0 x11_1).f0), .int .i64 1, .int .i64 9] rfl z8_3 ?_; (with_reducible refine (impl_InRange.calls ((rd_T31 l0 x11_1).f0) 1 9 true _ A7.out).mono ?_); rintro e w' ⟨rfl, ⟨nd, rfl⟩⟩; refine ⟨_, rfl, ?_⟩) | ((with_reducible refine gate_callee (f := 12) rfl ?_); refine goesL_ (some 25) rfl rfl Try.func12 (by kernel_rfl) rfl #[.string ((rd_T31 l0 x11_1).f1)] rfl z8_3 ?_; (with_reducible refine (impl_IsWord.calls k1 ((rd_T31 l0 x11_1).f1) false _ A10.out).mono ?_); rintro e w' ⟨rfl, ⟨nd, rfl⟩⟩; refine ⟨_, rfl, ?_⟩))
           go_ret
           exact ⟨z8_4, z8_2⟩
         ·rw [if_neg c9] at H
          have c9b0 : (((rd_T31 l0 x11_1).f0) == 1) = false := beq_eq_false_iff_ne.mpr c9
          have c9b1 : (((rd_T31 l0 x11_1).f0) != 1) = true := bne_iff_ne.mpr c9
          have HC22 := Aside0.mk H
          clear H
          have p284 : 0 ≤ (x11_1 : Int) := of_decide_eq_true z8_5
          have q284 : x11_1 < (l0.length : Int) := of_decide_eq_true z8_5
          obtain ⟨ad284, e284, hx284_0, hx284_1, hx284_2, hx284_3⟩ := at_T31 HR0.out x11_1 p284 q284
          cases e284
          try replace hx284_0 := (HB.out.cell (World.block_lt_of_cell? w _ hx284_0)).trans hx284_0
          try replace hx284_1 := (HB.out.cell (World.block_lt_of_cell? w _ hx284_1)).trans hx284_1
          try replace hx284_2 := (HB.out.cell (World.block_lt_of_cell? w _ hx284_2)).trans hx284_2
          try replace hx284_3 := (HB.out.cell (World.block_lt_of_cell? w _ hx284_3)).trans hx284_3
          replace p284 := eq_true p284
          replace q284 := eq_true q284
          go_upto_region 11 with (first | ((with_reducible refine gate_dst (N := 4) rfl ?_); refine box_event ?hg (N := 4) ?hd (cs := #[.int .i64 0, .string (⟨#[]⟩ : ByteArray), .int .i64 0, .int .i64 0]) (t := 31) ?hr ?_; (case hd => rfl); (case hg => rfl); (case hr => first | (go_simp; done) | (go_simp; rfl)); intro gb285 hg w23 hbox hb; have n0_ := Aside0.mk (below_step z8_1 hb); have n1_ := Aside0.mk (hbox); have n2_ := Aside0.mk ((by rw [hg]; exact (below_size z8_1) : w.heap.size ≤ gb285)); have n3_ := Aside0.mk ((by rw [hg]; exact (below_size z8_1) : w.heap.size ≤ gb285)); clear HB; have HB := n0_; have BK285 := n1_; have GW285 := n2_; have GE285 := n3_; clear n0_ n1_ n2_ n3_; clear hb hbox hg; have hcz24_0 : w23.cell? ⟨gb285, 0, none⟩ = some (.int .i64 0) := (blk_cell BK285.out 0).trans rfl; have hcz24_1 : w23.cell? ⟨gb285, 1, none⟩ = some (.string (⟨#[]⟩ : ByteArray)) := (blk_cell BK285.out 1).trans rfl; have hcz24_2 : w23.cell? ⟨gb285, 2, none⟩ = some (.int .i64 0) := (blk_cell BK285.out 2).trans rfl; have hcz24_3 : w23.cell? ⟨gb285, 3, none⟩ = some (.int .i64 0) := (blk_cell BK285.out 3).trans rfl; have hfz24_0 := blk_frozen BK285.out 0; have hfz24_1 := blk_frozen BK285.out 1; have hfz24_2 := blk_frozen BK285.out 2; have hfz24_3 := blk_frozen BK285.out 3) | ((with_reducible refine gate_callee (f := 53) rfl ?_); refine goesL_ (some 18) rfl rfl Try.func53 (by kernel_rfl) rfl #[.int .i64 ((rd_T31 l0 x11_1).f0), .int .i64 1, .int .i64 9] rfl z8_3 ?_; (with_reducible refine (impl_InRange.calls ((rd_T31 l0 x11_1).f0) 1 9 true _ A7.out).mono ?_); rintro e w' ⟨rfl, ⟨nd, rfl⟩⟩; refine ⟨_, rfl, ?_⟩))
          (try simp only [Act.put, List.setIfInBounds_toArray, List.set_cons_zero, List.set_cons_succ])
          go_cut [60] (fun v60 wc => ∃ (kq : Nat) (x60_21 : Bool), v60 = .bool x60_21 ∧ Aside0 (impl_IsPlay.j1 kq l0 x11_1 l0 (l0.length : Int) x11_1 x60_21 ((rd_T31 l0 x11_1).f0) ((rd_T31 l0 x11_1).f1) ((rd_T31 l0 x11_1).f2) ((rd_T31 l0 x11_1).f3) = some r) ∧ Aside0 (kq ≤ k1) ∧ Aside0 (wc.heap[gb285]? = some (.cells #[.int .i64 ((rd_T31 l0 x11_1).f0), .string ((rd_T31 l0 x11_1).f1), .int .i64 ((rd_T31 l0 x11_1).f2), .int .i64 ((rd_T31 l0 x11_1).f3)] 31 (0, 0))) ∧ Aside0 (Below w.heap.size w wc))
          case first =>
           have H := HC22.out
           clear HC22
           by_cases c25 : ((rd_T31 l0 x11_1).f1).toList = ([] : List UInt8)
           ·rw [if_pos c25] at H
            have c25b0 : (((rd_T31 l0 x11_1).f1).toList == ([] : List UInt8)) = true := beq_iff_eq.mpr c25
            have c25b1 : (((rd_T31 l0 x11_1).f1).toList != ([] : List UInt8)) = false := bne_eq_false_iff_eq.mpr c25
            clear c25
            (first | rw [c25b0] | (simp only [i64_w, i32_w]; rw [c25b0]) | skip)
            replace H := Option.bind_eq_some_iff.mp H
            obtain ⟨t288, A260, H⟩ := H
            replace H : (if t288 = true then ((impl_needsWord.f ((rd_T31 l0 x11_1).f0)).bind fun t289 => (if t289 = true then (if 0 ≤ ((rd_T31 l0 x11_1).f2) then (if ((rd_T31 l0 x11_1).f2) < (l0.length : Int) then (impl_IsPlay.j1 k1 l0 x11_1 l0 (l0.length : Int) x11_1 (((rd_T31 l0 ((rd_T31 l0 x11_1).f2)).f0) != 1) ((rd_T31 l0 x11_1).f0) ((rd_T31 l0 x11_1).f1) ((rd_T31 l0 x11_1).f2) ((rd_T31 l0 x11_1).f3)) else (none)) else (none)) else (impl_IsPlay.j1 k1 l0 x11_1 l0 (l0.length : Int) x11_1 false ((rd_T31 l0 x11_1).f0) ((rd_T31 l0 x11_1).f1) ((rd_T31 l0 x11_1).f2) ((rd_T31 l0 x11_1).f3)))) else (impl_IsPlay.j1 k1 l0 x11_1 l0 (l0.length : Int) x11_1 true ((rd_T31 l0 x11_1).f0) ((rd_T31 l0 x11_1).f1) ((rd_T31 l0 x11_1).f2) ((rd_T31 l0 x11_1).f3))) = some r := H
            have A26 := Aside0.mk A260
            clear A260
            by_cases c27 : t288 = true
            ·subst c27
             have H1 : ((impl_needsWord.f ((rd_T31 l0 x11_1).f0)).bind fun t289 => (if t289 = true then (if 0 ≤ ((rd_T31 l0 x11_1).f2) then (if ((rd_T31 l0 x11_1).f2) < (l0.length : Int) then (impl_IsPlay.j1 k1 l0 x11_1 l0 (l0.length : Int) x11_1 (((rd_T31 l0 ((rd_T31 l0 x11_1).f2)).f0) != 1) ((rd_T31 l0 x11_1).f0) ((rd_T31 l0 x11_1).f1) ((rd_T31 l0 x11_1).f2) ((rd_T31 l0 x11_1).f3)) else (none)) else (none)) else (impl_IsPlay.j1 k1 l0 x11_1 l0 (l0.length : Int) x11_1 false ((rd_T31 l0 x11_1).f0) ((rd_T31 l0 x11_1).f1) ((rd_T31 l0 x11_1).f2) ((rd_T31 l0 x11_1).f3)))) = some r := by rw [if_pos rfl] at H; exact H
             clear H
             have H := H1
             clear H1
             replace H := Option.bind_eq_some_iff.mp H
             obtain ⟨t289, A280, H⟩ := H
             replace H : (if t289 = true then (if 0 ≤ ((rd_T31 l0 x11_1).f2) then (if ((rd_T31 l0 x11_1).f2) < (l0.length : Int) then (impl_IsPlay.j1 k1 l0 x11_1 l0 (l0.length : Int) x11_1 (((rd_T31 l0 ((rd_T31 l0 x11_1).f2)).f0) != 1) ((rd_T31 l0 x11_1).f0) ((rd_T31 l0 x11_1).f1) ((rd_T31 l0 x11_1).f2) ((rd_T31 l0 x11_1).f3)) else (none)) else (none)) else (impl_IsPlay.j1 k1 l0 x11_1 l0 (l0.length : Int) x11_1 false ((rd_T31 l0 x11_1).f0) ((rd_T31 l0 x11_1).f1) ((rd_T31 l0 x11_1).f2) ((rd_T31 l0 x11_1).f3))) = some r := H
             have A28 := Aside0.mk A280
             clear A280
             by_cases c29 : t289 = true
             ·subst c29
              have H1 : (if 0 ≤ ((rd_T31 l0 x11_1).f2) then (if ((rd_T31 l0 x11_1).f2) < (l0.length : Int) then (impl_IsPlay.j1 k1 l0 x11_1 l0 (l0.length : Int) x11_1 (((rd_T31 l0 ((rd_T31 l0 x11_1).f2)).f0) != 1) ((rd_T31 l0 x11_1).f0) ((rd_T31 l0 x11_1).f1) ((rd_T31 l0 x11_1).f2) ((rd_T31 l0 x11_1).f3)) else (none)) else (none)) = some r := by rw [if_pos rfl] at H; exact H
              clear H
              have H := H1
              clear H1
              by_cases c30 : 0 ≤ ((rd_T31 l0 x11_1).f2)
              ·rw [if_pos c30] at H
               have c30b0 : decide (0 ≤ ((rd_T31 l0 x11_1).f2)) = true := decide_eq_true c30
               clear c30
               by_cases c31 : ((rd_T31 l0 x11_1).f2) < (l0.length : Int)
               ·rw [if_pos c31] at H
                have c31b0 : decide (((rd_T31 l0 x11_1).f2) < (l0.length : Int)) = true := decide_eq_true c31
                clear c31
                have H' := Aside0.mk H
                clear H
                have hcz32_0 : w23.cell? ⟨gb285, 0, none⟩ = some (.int .i64 0) := (blk_cell BK285.out 0).trans rfl
                have hcz32_1 : w23.cell? ⟨gb285, 1, none⟩ = some (.string (⟨#[]⟩ : ByteArray)) := (blk_cell BK285.out 1).trans rfl
                have hcz32_2 : w23.cell? ⟨gb285, 2, none⟩ = some (.int .i64 0) := (blk_cell BK285.out 2).trans rfl
                have hcz32_3 : w23.cell? ⟨gb285, 3, none⟩ = some (.int .i64 0) := (blk_cell BK285.out 3).trans rfl
                have hfz32_0 := blk_frozen BK285.out 0
                have hfz32_1 := blk_frozen BK285.out 1
                have hfz32_2 := blk_frozen BK285.out 2
                have hfz32_3 := blk_frozen BK285.out 3
                go_wp2_with (first | (go_at_call 54; (with_reducible refine (impl_at.calls ((rd_T31 l0 x11_1).f2) x11_1 true _ A26.out).mono ?_); rintro e w' ⟨rfl, ⟨nd, rfl⟩⟩) | (go_at_call 55; (with_reducible refine (impl_needsWord.calls ((rd_T31 l0 x11_1).f0) true _ A28.out).mono ?_); rintro e w' ⟨rfl, ⟨nd, rfl⟩⟩; have p290 : 0 ≤ (((rd_T31 l0 x11_1).f2) : Int) := of_decide_eq_true z8_5; have q290 : ((rd_T31 l0 x11_1).f2) < (l0.length : Int) := of_decide_eq_true z8_5; obtain ⟨ad290, e290, hx290_0, hx290_1, hx290_2, hx290_3⟩ := at_T31 HR0.out ((rd_T31 l0 x11_1).f2) p290 q290; obtain rfl : ad284 = ad290 := (by injection e290); have hn290_0 : ad284.block ≠ gb285 := Nat.ne_of_lt (Nat.lt_of_lt_of_le (bl8_ hx290_0) GW285.out); have hn290_1 : ad284.block ≠ gb285 := Nat.ne_of_lt (Nat.lt_of_lt_of_le (bl8_ hx290_0) GW285.out); have hn290_2 : ad284.block ≠ gb285 := Nat.ne_of_lt (Nat.lt_of_lt_of_le (bl8_ hx290_0) GW285.out); have hn290_3 : ad284.block ≠ gb285 := Nat.ne_of_lt (Nat.lt_of_lt_of_le (bl8_ hx290_0) GW285.out); replace hx290_0 := (HB.out.cell (World.block_lt_of_cell? w _ hx290_0)).trans hx290_0; replace hx290_1 := (HB.out.cell (World.block_lt_of_cell? w _ hx290_1)).trans hx290_1; replace hx290_2 := (HB.out.cell (World.block_lt_of_cell? w _ hx290_2)).trans hx290_2; replace hx290_3 := (HB.out.cell (World.block_lt_of_cell? w _ hx290_3)).trans hx290_3; replace hx290_0 := (cell_far (p := ⟨gb285, 0, none⟩) (ab8_ hn290_0) (.int .i64 ((rd_T31 l0 x11_1).f0))).trans hx290_0; replace hx290_1 := (cell_far (p := ⟨gb285, 0, none⟩) (ab8_ hn290_0) (.int .i64 ((rd_T31 l0 x11_1).f0))).trans hx290_1; replace hx290_2 := (cell_far (p := ⟨gb285, 0, none⟩) (ab8_ hn290_0) (.int .i64 ((rd_T31 l0 x11_1).f0))).trans hx290_2; replace hx290_3 := (cell_far (p := ⟨gb285, 0, none⟩) (ab8_ hn290_0) (.int .i64 ((rd_T31 l0 x11_1).f0))).trans hx290_3; replace hx290_0 := (cell_far (p := ⟨gb285, 1, none⟩) (ab8_ hn290_1) (.string ((rd_T31 l0 x11_1).f1))).trans hx290_0; replace hx290_1 := (cell_far (p := ⟨gb285, 1, none⟩) (ab8_ hn290_1) (.string ((rd_T31 l0 x11_1).f1))).trans hx290_1; replace hx290_2 := (cell_far (p := ⟨gb285, 1, none⟩) (ab8_ hn290_1) (.string ((rd_T31 l0 x11_1).f1))).trans hx290_2; replace hx290_3 := (cell_far (p := ⟨gb285, 1, none⟩) (ab8_ hn290_1) (.string ((rd_T31 l0 x11_1).f1))).trans hx290_3; replace hx290_0 := (cell_far (p := ⟨gb285, 2, none⟩) (ab8_ hn290_2) (.int .i64 ((rd_T31 l0 x11_1).f2))).trans hx290_0; replace hx290_1 := (cell_far (p := ⟨gb285, 2, none⟩) (ab8_ hn290_2) (.int .i64 ((rd_T31 l0 x11_1).f2))).trans hx290_1; replace hx290_2 := (cell_far (p := ⟨gb285, 2, none⟩) (ab8_ hn290_2) (.int .i64 ((rd_T31 l0 x11_1).f2))).trans hx290_2; replace hx290_3 := (cell_far (p := ⟨gb285, 2, none⟩) (ab8_ hn290_2) (.int .i64 ((rd_T31 l0 x11_1).f2))).trans hx290_3; replace hx290_0 := (cell_far (p := ⟨gb285, 3, none⟩) (ab8_ hn290_3) (.int .i64 ((rd_T31 l0 x11_1).f3))).trans hx290_0; replace hx290_1 := (cell_far (p := ⟨gb285, 3, none⟩) (ab8_ hn290_3) (.int .i64 ((rd_T31 l0 x11_1).f3))).trans hx290_1; replace hx290_2 := (cell_far (p := ⟨gb285, 3, none⟩) (ab8_ hn290_3) (.int .i64 ((rd_T31 l0 x11_1).f3))).trans hx290_2; replace hx290_3 := (cell_far (p := ⟨gb285, 3, none⟩) (ab8_ hn290_3) (.int .i64 ((rd_T31 l0 x11_1).f3))).trans hx290_3; clear hn290_0; clear hn290_1; clear hn290_2; clear hn290_3; replace p290 := eq_true p290; replace q290 := eq_true q290))
                go_meet
                case rel => exact ⟨_, ((((rd_T31 l0 ((rd_T31 l0 x11_1).f2)).f0) != 1)), (by first | rfl | (simp; done) | (simp [*]; done)), H', ⟨by have := HK1.out; first | omega | exact Nat.le_refl _⟩, ⟨z8_0⟩, ⟨z8_2⟩⟩
               ·rw [if_neg c31] at H
                exact absurd H (by simp)
              ·rw [if_neg c30] at H
               exact absurd H (by simp)
             ·replace c29 := Bool.eq_false_iff.mpr c29
              subst c29
              have H1 : (impl_IsPlay.j1 k1 l0 x11_1 l0 (l0.length : Int) x11_1 false ((rd_T31 l0 x11_1).f0) ((rd_T31 l0 x11_1).f1) ((rd_T31 l0 x11_1).f2) ((rd_T31 l0 x11_1).f3)) = some r := by rw [if_neg (show ¬ (false = true) by decide)] at H; exact H
              clear H
              have H := H1
              clear H1
              have H' := Aside0.mk H
              clear H
              have hcz33_0 : w23.cell? ⟨gb285, 0, none⟩ = some (.int .i64 0) := (blk_cell BK285.out 0).trans rfl
              have hcz33_1 : w23.cell? ⟨gb285, 1, none⟩ = some (.string (⟨#[]⟩ : ByteArray)) := (blk_cell BK285.out 1).trans rfl
              have hcz33_2 : w23.cell? ⟨gb285, 2, none⟩ = some (.int .i64 0) := (blk_cell BK285.out 2).trans rfl
              have hcz33_3 : w23.cell? ⟨gb285, 3, none⟩ = some (.int .i64 0) := (blk_cell BK285.out 3).trans rfl
              have hfz33_0 := blk_frozen BK285.out 0
              have hfz33_1 := blk_frozen BK285.out 1
              have hfz33_2 := blk_frozen BK285.out 2
              have hfz33_3 := blk_frozen BK285.out 3
              go_wp2_with (first | (go_at_call 54; (with_reducible refine (impl_at.calls ((rd_T31 l0 x11_1).f2) x11_1 true _ A26.out).mono ?_); rintro e w' ⟨rfl, ⟨nd, rfl⟩⟩) | (go_at_call 55; (with_reducible refine (impl_needsWord.calls ((rd_T31 l0 x11_1).f0) false _ A28.out).mono ?_); rintro e w' ⟨rfl, ⟨nd, rfl⟩⟩))
              go_meet
              case rel => exact ⟨_, (false), (by first | rfl | (simp; done) | (simp [*]; done)), H', ⟨by have := HK1.out; first | omega | exact Nat.le_refl _⟩, ⟨z8_0⟩, ⟨z8_2⟩⟩
            ·replace c27 := Bool.eq_false_iff.mpr c27
             subst c27
             have H1 : (impl_IsPlay.j1 k1 l0 x11_1 l0 (l0.length : Int) x11_1 true ((rd_T31 l0 x11_1).f0) ((rd_T31 l0 x11_1).f1) ((rd_T31 l0 x11_1).f2) ((rd_T31 l0 x11_1).f3)) = some r := by rw [if_neg (show ¬ (false = true) by decide)] at H; exact H
             clear H
             have H := H1
             clear H1
             have H' := Aside0.mk H
             clear H
             have hcz34_0 : w23.cell? ⟨gb285, 0, none⟩ = some (.int .i64 0) := (blk_cell BK285.out 0).trans rfl
             have hcz34_1 : w23.cell? ⟨gb285, 1, none⟩ = some (.string (⟨#[]⟩ : ByteArray)) := (blk_cell BK285.out 1).trans rfl
             have hcz34_2 : w23.cell? ⟨gb285, 2, none⟩ = some (.int .i64 0) := (blk_cell BK285.out 2).trans rfl
             have hcz34_3 : w23.cell? ⟨gb285, 3, none⟩ = some (.int .i64 0) := (blk_cell BK285.out 3).trans rfl
             have hfz34_0 := blk_frozen BK285.out 0
             have hfz34_1 := blk_frozen BK285.out 1
             have hfz34_2 := blk_frozen BK285.out 2
             have hfz34_3 := blk_frozen BK285.out 3
             go_wp2_with (first | (go_at_call 54; (with_reducible refine (impl_at.calls ((rd_T31 l0 x11_1).f2) x11_1 false _ A26.out).mono ?_); rintro e w' ⟨rfl, ⟨nd, rfl⟩⟩))
             go_meet
             case rel => exact ⟨_, (true), (by first | rfl | (simp; done) | (simp [*]; done)), H', ⟨by have := HK1.out; first | omega | exact Nat.le_refl _⟩, ⟨z8_0⟩, ⟨z8_2⟩⟩
           ·rw [if_neg c25] at H
            have c25b0 : (((rd_T31 l0 x11_1).f1).toList == ([] : List UInt8)) = false := beq_eq_false_iff_ne.mpr c25
            have c25b1 : (((rd_T31 l0 x11_1).f1).toList != ([] : List UInt8)) = true := bne_iff_ne.mpr c25
            (first | rw [c25b0] | (simp only [i64_w, i32_w]; rw [c25b0]) | skip)
            have H' := Aside0.mk H
            clear H
            have hcz35_0 : w23.cell? ⟨gb285, 0, none⟩ = some (.int .i64 0) := (blk_cell BK285.out 0).trans rfl
            have hcz35_1 : w23.cell? ⟨gb285, 1, none⟩ = some (.string (⟨#[]⟩ : ByteArray)) := (blk_cell BK285.out 1).trans rfl
            have hcz35_2 : w23.cell? ⟨gb285, 2, none⟩ = some (.int .i64 0) := (blk_cell BK285.out 2).trans rfl
            have hcz35_3 : w23.cell? ⟨gb285, 3, none⟩ = some (.int .i64 0) := (blk_cell BK285.out 3).trans rfl
            have hfz35_0 := blk_frozen BK285.out 0
            have hfz35_1 := blk_frozen BK285.out 1
            have hfz35_2 := blk_frozen BK285.out 2
            have hfz35_3 := blk_frozen BK285.out 3
            go_wp2
            go_meet
            case rel => exact ⟨_, (true), (by first | rfl | (simp; done) | (simp [*]; done)), H', ⟨by have := HK1.out; first | omega | exact Nat.le_refl _⟩, ⟨z8_0⟩, ⟨z8_2⟩⟩
          case rest =>
           clear HC22
           try clear c1
           try clear c2
           try clear p2
           try clear q2
           try clear hx2
           try clear c3
           try clear c4
           try clear c4b0
           try clear c5
           try clear c5b0
           try clear c6
           try clear c6b0
           try clear p6
           try clear c8
           try clear c9
           try clear c9b0
           try clear c9b1
           try clear c10
           try clear c11
           try clear c12
           try clear c12b0
           try clear c12b1
           try clear c13
           try clear c13b0
           try clear c13b1
           try clear c25
           try clear c25b0
           try clear c25b1
           try clear c27
           try clear p28
           try clear q28
           try clear hx28
           try clear c29
           try clear p29
           try clear q29
           try clear hx29
           try clear c30
           try clear c30b0
           try clear c31
           try clear c31b0
           try clear hcz15_0
           try clear hcz15_1
           try clear hcz15_2
           try clear hcz15_3
           try clear hcz17_0
           try clear hcz17_1
           try clear hcz17_2
           try clear hcz17_3
           try clear hcz19_0
           try clear hcz19_1
           try clear hcz19_2
           try clear hcz19_3
           try clear hcz21_0
           try clear hcz21_1
           try clear hcz21_2
           try clear hcz21_3
           try clear hcz24_0
           try clear hcz24_1
           try clear hcz24_2
           try clear hcz24_3
           try clear hcz32_0
           try clear hcz32_1
           try clear hcz32_2
           try clear hcz32_3
           try clear hcz33_0
           try clear hcz33_1
           try clear hcz33_2
           try clear hcz33_3
           try clear hcz34_0
           try clear hcz34_1
           try clear hcz34_2
           try clear hcz34_3
           try clear hcz35_0
           try clear hcz35_1
           try clear hcz35_2
           try clear hcz35_3
           try clear hfz15_0
           try clear hfz15_1
           try clear hfz15_2
           try clear hfz15_3
           try clear hfz17_0
           try clear hfz17_1
           try clear hfz17_2
           try clear hfz17_3
           try clear hfz19_0
           try clear hfz19_1
           try clear hfz19_2
           try clear hfz19_3
           try clear hfz21_0
           try clear hfz21_1
           try clear hfz21_2
           try clear hfz21_3
           try clear hfz24_0
           try clear hfz24_1
           try clear hfz24_2
           try clear hfz24_3
           try clear hfz32_0
           try clear hfz32_1
           try clear hfz32_2
           try clear hfz32_3
           try clear hfz33_0
           try clear hfz33_1
           try clear hfz33_2
           try clear hfz33_3
           try clear hfz34_0
           try clear hfz34_1
           try clear hfz34_2
           try clear hfz34_3
           try clear hfz35_0
           try clear hfz35_1
           try clear hfz35_2
           try clear hfz35_3
           try clear hx284_0
           try clear hx284_1
           try clear hx284_2
           try clear hx284_3
           try clear hx290_0
           try clear hx290_1
           try clear hx290_2
           try clear hx290_3
           try clear p2
           try clear p284
           try clear p290
           try clear q284
           try clear q290
           obtain ⟨kq, x60_21, rfl, HA, HJ21, BK285, HB⟩ := hcut
           cases kq with
           | zero => exact absurd HA.out (by simp [impl_IsPlay.j1])
           | succ kj21 =>
            have H := HA.out
            clear HA
            simp only [impl_IsPlay.j1] at H
            by_cases c36 : x60_21 = true
            ·subst c36
             have H1 : (some false) = some r := by rw [if_pos rfl] at H; exact H
             clear H
             have H := H1
             clear H1
             obtain rfl := Option.some.inj H
             go_wp2
             go_ret
             exact ⟨z8_4, z8_2⟩
            ·replace c36 := Bool.eq_false_iff.mpr c36
             subst c36
             have H1 : ((impl_isPair.f ((rd_T31 l0 x11_1).f0)).bind fun t291 => (if t291 = true then ((impl_at.f ((rd_T31 l0 x11_1).f3) x11_1).bind fun t292 => (if t292 = true then ((impl_isPair.f ((rd_T31 l0 x11_1).f0)).bind fun t293 => (if t293 = true then (impl_IsPlay.l0 kj21 l0 l0 (l0.length : Int) (wrap64 (x11_1 + 1))) else (if ((rd_T31 l0 x11_1).f3) = 0 then (impl_IsPlay.l0 kj21 l0 l0 (l0.length : Int) (wrap64 (x11_1 + 1))) else (some false)))) else (some false))) else ((impl_isPair.f ((rd_T31 l0 x11_1).f0)).bind fun t294 => (if t294 = true then (impl_IsPlay.l0 kj21 l0 l0 (l0.length : Int) (wrap64 (x11_1 + 1))) else (if ((rd_T31 l0 x11_1).f3) = 0 then (impl_IsPlay.l0 kj21 l0 l0 (l0.length : Int) (wrap64 (x11_1 + 1))) else (some false)))))) = some r := by rw [if_neg (show ¬ (false = true) by decide)] at H; exact H
             clear H
             have H := H1
             clear H1
             replace H := Option.bind_eq_some_iff.mp H
             obtain ⟨t291, A370, H⟩ := H
             replace H : (if t291 = true then ((impl_at.f ((rd_T31 l0 x11_1).f3) x11_1).bind fun t292 => (if t292 = true then ((impl_isPair.f ((rd_T31 l0 x11_1).f0)).bind fun t293 => (if t293 = true then (impl_IsPlay.l0 kj21 l0 l0 (l0.length : Int) (wrap64 (x11_1 + 1))) else (if ((rd_T31 l0 x11_1).f3) = 0 then (impl_IsPlay.l0 kj21 l0 l0 (l0.length : Int) (wrap64 (x11_1 + 1))) else (some false)))) else (some false))) else ((impl_isPair.f ((rd_T31 l0 x11_1).f0)).bind fun t294 => (if t294 = true then (impl_IsPlay.l0 kj21 l0 l0 (l0.length : Int) (wrap64 (x11_1 + 1))) else (if ((rd_T31 l0 x11_1).f3) = 0 then (impl_IsPlay.l0 kj21 l0 l0 (l0.length : Int) (wrap64 (x11_1 + 1))) else (some false))))) = some r := H
             have A37 := Aside0.mk A370
             clear A370
             by_cases c38 : t291 = true
             ·subst c38
              have H1 : ((impl_at.f ((rd_T31 l0 x11_1).f3) x11_1).bind fun t292 => (if t292 = true then ((impl_isPair.f ((rd_T31 l0 x11_1).f0)).bind fun t293 => (if t293 = true then (impl_IsPlay.l0 kj21 l0 l0 (l0.length : Int) (wrap64 (x11_1 + 1))) else (if ((rd_T31 l0 x11_1).f3) = 0 then (impl_IsPlay.l0 kj21 l0 l0 (l0.length : Int) (wrap64 (x11_1 + 1))) else (some false)))) else (some false))) = some r := by rw [if_pos rfl] at H; exact H
              clear H
              have H := H1
              clear H1
              replace H := Option.bind_eq_some_iff.mp H
              obtain ⟨t292, A390, H⟩ := H
              replace H : (if t292 = true then ((impl_isPair.f ((rd_T31 l0 x11_1).f0)).bind fun t293 => (if t293 = true then (impl_IsPlay.l0 kj21 l0 l0 (l0.length : Int) (wrap64 (x11_1 + 1))) else (if ((rd_T31 l0 x11_1).f3) = 0 then (impl_IsPlay.l0 kj21 l0 l0 (l0.length : Int) (wrap64 (x11_1 + 1))) else (some false)))) else (some false)) = some r := H
              have A39 := Aside0.mk A390
              clear A390
              by_cases c40 : t292 = true
              ·subst c40
               have H1 : ((impl_isPair.f ((rd_T31 l0 x11_1).f0)).bind fun t293 => (if t293 = true then (impl_IsPlay.l0 kj21 l0 l0 (l0.length : Int) (wrap64 (x11_1 + 1))) else (if ((rd_T31 l0 x11_1).f3) = 0 then (impl_IsPlay.l0 kj21 l0 l0 (l0.length : Int) (wrap64 (x11_1 + 1))) else (some false)))) = some r := by rw [if_pos rfl] at H; exact H
               clear H
               have H := H1
               clear H1
               replace H := Option.bind_eq_some_iff.mp H
               obtain ⟨t293, A410, H⟩ := H
               replace H : (if t293 = true then (impl_IsPlay.l0 kj21 l0 l0 (l0.length : Int) (wrap64 (x11_1 + 1))) else (if ((rd_T31 l0 x11_1).f3) = 0 then (impl_IsPlay.l0 kj21 l0 l0 (l0.length : Int) (wrap64 (x11_1 + 1))) else (some false))) = some r := H
               have A41 := Aside0.mk A410
               clear A410
               by_cases c42 : t293 = true
               ·subst c42
                have H1 : (impl_IsPlay.l0 kj21 l0 l0 (l0.length : Int) (wrap64 (x11_1 + 1))) = some r := by rw [if_pos rfl] at H; exact H
                clear H
                have H := H1
                clear H1
                have H' := Aside0.mk H
                clear H
                have hcz43_0 : wc.cell? ⟨gb285, 0, none⟩ = some (.int .i64 ((rd_T31 l0 x11_1).f0)) := (blk_cell BK285.out 0).trans rfl
                have hcz43_1 : wc.cell? ⟨gb285, 1, none⟩ = some (.string ((rd_T31 l0 x11_1).f1)) := (blk_cell BK285.out 1).trans rfl
                have hcz43_2 : wc.cell? ⟨gb285, 2, none⟩ = some (.int .i64 ((rd_T31 l0 x11_1).f2)) := (blk_cell BK285.out 2).trans rfl
                have hcz43_3 : wc.cell? ⟨gb285, 3, none⟩ = some (.int .i64 ((rd_T31 l0 x11_1).f3)) := (blk_cell BK285.out 3).trans rfl
                have hfz43_0 := blk_frozen BK285.out 0
                have hfz43_1 := blk_frozen BK285.out 1
                have hfz43_2 := blk_frozen BK285.out 2
                have hfz43_3 := blk_frozen BK285.out 3
                go_wp2_with (first | ((with_reducible refine gate_callee (f := 56) rfl ?_); refine goesL_ (some 63) rfl rfl Try.func56 (by kernel_rfl) rfl #[.int .i64 ((rd_T31 l0 x11_1).f0)] rfl z8_3 ?_; (with_reducible refine (impl_isPair.calls ((rd_T31 l0 x11_1).f0) true _ A37.out).mono ?_); rintro e w' ⟨rfl, ⟨nd, rfl⟩⟩; refine ⟨_, rfl, ?_⟩) | (go_at_call 54; (with_reducible refine (impl_at.calls ((rd_T31 l0 x11_1).f3) x11_1 true _ A39.out).mono ?_); rintro e w' ⟨rfl, ⟨nd, rfl⟩⟩) | (go_at_call 56; (with_reducible refine (impl_isPair.calls ((rd_T31 l0 x11_1).f0) true _ A41.out).mono ?_); rintro e w' ⟨rfl, ⟨nd, rfl⟩⟩))
                go_roundg kj21
                case measure => have := HK1.out; have := HJ21.out; omega
                case rel => exact ⟨(wrap64 (x11_1 + 1)), (by first | rfl | (simp; done) | (simp [*]; done)), H', ⟨by have := HK1.out; have := HJ21.out; omega⟩, ⟨z8_2⟩⟩
               ·replace c42 := Bool.eq_false_iff.mpr c42
                subst c42
                have H1 : (if ((rd_T31 l0 x11_1).f3) = 0 then (impl_IsPlay.l0 kj21 l0 l0 (l0.length : Int) (wrap64 (x11_1 + 1))) else (some false)) = some r := by rw [if_neg (show ¬ (false = true) by decide)] at H; exact H
                clear H
                have H := H1
                clear H1
                by_cases c44 : ((rd_T31 l0 x11_1).f3) = 0
                ·rw [if_pos c44] at H
                 have c44b0 : (((rd_T31 l0 x11_1).f3) == 0) = true := beq_iff_eq.mpr c44
                 have c44b1 : (((rd_T31 l0 x11_1).f3) != 0) = false := bne_eq_false_iff_eq.mpr c44
                 clear c44
                 have H' := Aside0.mk H
                 clear H
                 have hcz45_0 : wc.cell? ⟨gb285, 0, none⟩ = some (.int .i64 ((rd_T31 l0 x11_1).f0)) := (blk_cell BK285.out 0).trans rfl
                 have hcz45_1 : wc.cell? ⟨gb285, 1, none⟩ = some (.string ((rd_T31 l0 x11_1).f1)) := (blk_cell BK285.out 1).trans rfl
                 have hcz45_2 : wc.cell? ⟨gb285, 2, none⟩ = some (.int .i64 ((rd_T31 l0 x11_1).f2)) := (blk_cell BK285.out 2).trans rfl
                 have hcz45_3 : wc.cell? ⟨gb285, 3, none⟩ = some (.int .i64 ((rd_T31 l0 x11_1).f3)) := (blk_cell BK285.out 3).trans rfl
                 have hfz45_0 := blk_frozen BK285.out 0
                 have hfz45_1 := blk_frozen BK285.out 1
                 have hfz45_2 := blk_frozen BK285.out 2
                 have hfz45_3 := blk_frozen BK285.out 3
                 go_wp2_with (first | ((with_reducible refine gate_callee (f := 56) rfl ?_); refine goesL_ (some 63) rfl rfl Try.func56 (by kernel_rfl) rfl #[.int .i64 ((rd_T31 l0 x11_1).f0)] rfl z8_3 ?_; (with_reducible refine (impl_isPair.calls ((rd_T31 l0 x11_1).f0) true _ A37.out).mono ?_); rintro e w' ⟨rfl, ⟨nd, rfl⟩⟩; refine ⟨_, rfl, ?_⟩) | (go_at_call 54; (with_reducible refine (impl_at.calls ((rd_T31 l0 x11_1).f3) x11_1 true _ A39.out).mono ?_); rintro e w' ⟨rfl, ⟨nd, rfl⟩⟩) | (go_at_call 56; (with_reducible refine (impl_isPair.calls ((rd_T31 l0 x11_1).f0) false _ A41.out).mono ?_); rintro e w' ⟨rfl, ⟨nd, rfl⟩⟩))
                 go_roundg kj21
                 case measure => have := HK1.out; have := HJ21.out; omega
                 case rel => exact ⟨(wrap64 (x11_1 + 1)), (by first | rfl | (simp; done) | (simp [*]; done)), H', ⟨by have := HK1.out; have := HJ21.out; omega⟩, ⟨z8_2⟩⟩
                ·rw [if_neg c44] at H
                 have c44b0 : (((rd_T31 l0 x11_1).f3) == 0) = false := beq_eq_false_iff_ne.mpr c44
                 have c44b1 : (((rd_T31 l0 x11_1).f3) != 0) = true := bne_iff_ne.mpr c44
                 obtain rfl := Option.some.inj H
                 have hcz46_0 : wc.cell? ⟨gb285, 0, none⟩ = some (.int .i64 ((rd_T31 l0 x11_1).f0)) := (blk_cell BK285.out 0).trans rfl
                 have hcz46_1 : wc.cell? ⟨gb285, 1, none⟩ = some (.string ((rd_T31 l0 x11_1).f1)) := (blk_cell BK285.out 1).trans rfl
                 have hcz46_2 : wc.cell? ⟨gb285, 2, none⟩ = some (.int .i64 ((rd_T31 l0 x11_1).f2)) := (blk_cell BK285.out 2).trans rfl
                 have hcz46_3 : wc.cell? ⟨gb285, 3, none⟩ = some (.int .i64 ((rd_T31 l0 x11_1).f3)) := (blk_cell BK285.out 3).trans rfl
                 have hfz46_0 := blk_frozen BK285.out 0
                 have hfz46_1 := blk_frozen BK285.out 1
                 have hfz46_2 := blk_frozen BK285.out 2
                 have hfz46_3 := blk_frozen BK285.out 3
                 go_wp2_with (first | ((with_reducible refine gate_callee (f := 56) rfl ?_); refine goesL_ (some 63) rfl rfl Try.func56 (by kernel_rfl) rfl #[.int .i64 ((rd_T31 l0 x11_1).f0)] rfl z8_3 ?_; (with_reducible refine (impl_isPair.calls ((rd_T31 l0 x11_1).f0) true _ A37.out).mono ?_); rintro e w' ⟨rfl, ⟨nd, rfl⟩⟩; refine ⟨_, rfl, ?_⟩) | (go_at_call 54; (with_reducible refine (impl_at.calls ((rd_T31 l0 x11_1).f3) x11_1 true _ A39.out).mono ?_); rintro e w' ⟨rfl, ⟨nd, rfl⟩⟩) | (go_at_call 56; (with_reducible refine (impl_isPair.calls ((rd_T31 l0 x11_1).f0) false _ A41.out).mono ?_); rintro e w' ⟨rfl, ⟨nd, rfl⟩⟩))
                 go_ret
                 exact ⟨z8_4, z8_2⟩
              ·replace c40 := Bool.eq_false_iff.mpr c40
               subst c40
               have H1 : (some false) = some r := by rw [if_neg (show ¬ (false = true) by decide)] at H; exact H
               clear H
               have H := H1
               clear H1
               obtain rfl := Option.some.inj H
               have hcz47_0 : wc.cell? ⟨gb285, 0, none⟩ = some (.int .i64 ((rd_T31 l0 x11_1).f0)) := (blk_cell BK285.out 0).trans rfl
               have hcz47_1 : wc.cell? ⟨gb285, 1, none⟩ = some (.string ((rd_T31 l0 x11_1).f1)) := (blk_cell BK285.out 1).trans rfl
               have hcz47_2 : wc.cell? ⟨gb285, 2, none⟩ = some (.int .i64 ((rd_T31 l0 x11_1).f2)) := (blk_cell BK285.out 2).trans rfl
               have hcz47_3 : wc.cell? ⟨gb285, 3, none⟩ = some (.int .i64 ((rd_T31 l0 x11_1).f3)) := (blk_cell BK285.out 3).trans rfl
               have hfz47_0 := blk_frozen BK285.out 0
               have hfz47_1 := blk_frozen BK285.out 1
               have hfz47_2 := blk_frozen BK285.out 2
               have hfz47_3 := blk_frozen BK285.out 3
               go_wp2_with (first | ((with_reducible refine gate_callee (f := 56) rfl ?_); refine goesL_ (some 63) rfl rfl Try.func56 (by kernel_rfl) rfl #[.int .i64 ((rd_T31 l0 x11_1).f0)] rfl z8_3 ?_; (with_reducible refine (impl_isPair.calls ((rd_T31 l0 x11_1).f0) true _ A37.out).mono ?_); rintro e w' ⟨rfl, ⟨nd, rfl⟩⟩; refine ⟨_, rfl, ?_⟩) | (go_at_call 54; (with_reducible refine (impl_at.calls ((rd_T31 l0 x11_1).f3) x11_1 false _ A39.out).mono ?_); rintro e w' ⟨rfl, ⟨nd, rfl⟩⟩))
               go_ret
               exact ⟨z8_4, z8_2⟩
             ·replace c38 := Bool.eq_false_iff.mpr c38
              subst c38
              have H1 : ((impl_isPair.f ((rd_T31 l0 x11_1).f0)).bind fun t294 => (if t294 = true then (impl_IsPlay.l0 kj21 l0 l0 (l0.length : Int) (wrap64 (x11_1 + 1))) else (if ((rd_T31 l0 x11_1).f3) = 0 then (impl_IsPlay.l0 kj21 l0 l0 (l0.length : Int) (wrap64 (x11_1 + 1))) else (some false)))) = some r := by rw [if_neg (show ¬ (false = true) by decide)] at H; exact H
              clear H
              have H := H1
              clear H1
              replace H := Option.bind_eq_some_iff.mp H
              obtain ⟨t294, A480, H⟩ := H
              replace H : (if t294 = true then (impl_IsPlay.l0 kj21 l0 l0 (l0.length : Int) (wrap64 (x11_1 + 1))) else (if ((rd_T31 l0 x11_1).f3) = 0 then (impl_IsPlay.l0 kj21 l0 l0 (l0.length : Int) (wrap64 (x11_1 + 1))) else (some false))) = some r := H
              have A48 := Aside0.mk A480
              clear A480
              by_cases c49 : t294 = true
              ·subst c49
               have H1 : (impl_IsPlay.l0 kj21 l0 l0 (l0.length : Int) (wrap64 (x11_1 + 1))) = some r := by rw [if_pos rfl] at H; exact H
               clear H
               have H := H1
               clear H1
               have H' := Aside0.mk H
               clear H
               have hcz50_0 : wc.cell? ⟨gb285, 0, none⟩ = some (.int .i64 ((rd_T31 l0 x11_1).f0)) := (blk_cell BK285.out 0).trans rfl
               have hcz50_1 : wc.cell? ⟨gb285, 1, none⟩ = some (.string ((rd_T31 l0 x11_1).f1)) := (blk_cell BK285.out 1).trans rfl
               have hcz50_2 : wc.cell? ⟨gb285, 2, none⟩ = some (.int .i64 ((rd_T31 l0 x11_1).f2)) := (blk_cell BK285.out 2).trans rfl
               have hcz50_3 : wc.cell? ⟨gb285, 3, none⟩ = some (.int .i64 ((rd_T31 l0 x11_1).f3)) := (blk_cell BK285.out 3).trans rfl
               have hfz50_0 := blk_frozen BK285.out 0
               have hfz50_1 := blk_frozen BK285.out 1
               have hfz50_2 := blk_frozen BK285.out 2
               have hfz50_3 := blk_frozen BK285.out 3
               go_wp2_with (first | ((with_reducible refine gate_callee (f := 56) rfl ?_); refine goesL_ (some 63) rfl rfl Try.func56 (by kernel_rfl) rfl #[.int .i64 ((rd_T31 l0 x11_1).f0)] rfl z8_3 ?_; (with_reducible refine (impl_isPair.calls ((rd_T31 l0 x11_1).f0) false _ A37.out).mono ?_); rintro e w' ⟨rfl, ⟨nd, rfl⟩⟩; refine ⟨_, rfl, ?_⟩) | (go_at_call 56; (with_reducible refine (impl_isPair.calls ((rd_T31 l0 x11_1).f0) true _ A48.out).mono ?_); rintro e w' ⟨rfl, ⟨nd, rfl⟩⟩))
               go_roundg kj21
               case measure => have := HK1.out; have := HJ21.out; omega
               case rel => exact ⟨(wrap64 (x11_1 + 1)), (by first | rfl | (simp; done) | (simp [*]; done)), H', ⟨by have := HK1.out; have := HJ21.out; omega⟩, ⟨z8_2⟩⟩
              ·replace c49 := Bool.eq_false_iff.mpr c49
               subst c49
               have H1 : (if ((rd_T31 l0 x11_1).f3) = 0 then (impl_IsPlay.l0 kj21 l0 l0 (l0.length : Int) (wrap64 (x11_1 + 1))) else (some false)) = some r := by rw [if_neg (show ¬ (false = true) by decide)] at H; exact H
               clear H
               have H := H1
               clear H1
               by_cases c51 : ((rd_T31 l0 x11_1).f3) = 0
               ·rw [if_pos c51] at H
                have c51b0 : (((rd_T31 l0 x11_1).f3) == 0) = true := beq_iff_eq.mpr c51
                have c51b1 : (((rd_T31 l0 x11_1).f3) != 0) = false := bne_eq_false_iff_eq.mpr c51
                clear c51
                have H' := Aside0.mk H
                clear H
                have hcz52_0 : wc.cell? ⟨gb285, 0, none⟩ = some (.int .i64 ((rd_T31 l0 x11_1).f0)) := (blk_cell BK285.out 0).trans rfl
                have hcz52_1 : wc.cell? ⟨gb285, 1, none⟩ = some (.string ((rd_T31 l0 x11_1).f1)) := (blk_cell BK285.out 1).trans rfl
                have hcz52_2 : wc.cell? ⟨gb285, 2, none⟩ = some (.int .i64 ((rd_T31 l0 x11_1).f2)) := (blk_cell BK285.out 2).trans rfl
                have hcz52_3 : wc.cell? ⟨gb285, 3, none⟩ = some (.int .i64 ((rd_T31 l0 x11_1).f3)) := (blk_cell BK285.out 3).trans rfl
                have hfz52_0 := blk_frozen BK285.out 0
                have hfz52_1 := blk_frozen BK285.out 1
                have hfz52_2 := blk_frozen BK285.out 2
                have hfz52_3 := blk_frozen BK285.out 3
                go_wp2_with (first | ((with_reducible refine gate_callee (f := 56) rfl ?_); refine goesL_ (some 63) rfl rfl Try.func56 (by kernel_rfl) rfl #[.int .i64 ((rd_T31 l0 x11_1).f0)] rfl z8_3 ?_; (with_reducible refine (impl_isPair.calls ((rd_T31 l0 x11_1).f0) false _ A37.out).mono ?_); rintro e w' ⟨rfl, ⟨nd, rfl⟩⟩; refine ⟨_, rfl, ?_⟩) | (go_at_call 56; (with_reducible refine (impl_isPair.calls ((rd_T31 l0 x11_1).f0) false _ A48.out).mono ?_); rintro e w' ⟨rfl, ⟨nd, rfl⟩⟩))
                go_roundg kj21
                case measure => have := HK1.out; have := HJ21.out; omega
                case rel => exact ⟨(wrap64 (x11_1 + 1)), (by first | rfl | (simp; done) | (simp [*]; done)), H', ⟨by have := HK1.out; have := HJ21.out; omega⟩, ⟨z8_2⟩⟩
               ·rw [if_neg c51] at H
                have c51b0 : (((rd_T31 l0 x11_1).f3) == 0) = false := beq_eq_false_iff_ne.mpr c51
                have c51b1 : (((rd_T31 l0 x11_1).f3) != 0) = true := bne_iff_ne.mpr c51
                obtain rfl := Option.some.inj H
                have hcz53_0 : wc.cell? ⟨gb285, 0, none⟩ = some (.int .i64 ((rd_T31 l0 x11_1).f0)) := (blk_cell BK285.out 0).trans rfl
                have hcz53_1 : wc.cell? ⟨gb285, 1, none⟩ = some (.string ((rd_T31 l0 x11_1).f1)) := (blk_cell BK285.out 1).trans rfl
                have hcz53_2 : wc.cell? ⟨gb285, 2, none⟩ = some (.int .i64 ((rd_T31 l0 x11_1).f2)) := (blk_cell BK285.out 2).trans rfl
                have hcz53_3 : wc.cell? ⟨gb285, 3, none⟩ = some (.int .i64 ((rd_T31 l0 x11_1).f3)) := (blk_cell BK285.out 3).trans rfl
                have hfz53_0 := blk_frozen BK285.out 0
                have hfz53_1 := blk_frozen BK285.out 1
                have hfz53_2 := blk_frozen BK285.out 2
                have hfz53_3 := blk_frozen BK285.out 3
                go_wp2_with (first | ((with_reducible refine gate_callee (f := 56) rfl ?_); refine goesL_ (some 63) rfl rfl Try.func56 (by kernel_rfl) rfl #[.int .i64 ((rd_T31 l0 x11_1).f0)] rfl z8_3 ?_; (with_reducible refine (impl_isPair.calls ((rd_T31 l0 x11_1).f0) false _ A37.out).mono ?_); rintro e w' ⟨rfl, ⟨nd, rfl⟩⟩; refine ⟨_, rfl, ?_⟩) | (go_at_call 56; (with_reducible refine (impl_isPair.calls ((rd_T31 l0 x11_1).f0) false _ A48.out).mono ?_); rintro e w' ⟨rfl, ⟨nd, rfl⟩⟩))
                go_ret
                exact ⟨z8_4, z8_2⟩
        ·replace c8 := Bool.eq_false_iff.mpr c8
         subst c8
         have H1 : (some false) = some r := by rw [if_neg (show ¬ (false = true) by decide)] at H; exact H
         clear H
         have H := H1
         clear H1
         obtain rfl := Option.some.inj H
         have p284 : 0 ≤ (x11_1 : Int) := of_decide_eq_true z8_5
         have q284 : x11_1 < (l0.length : Int) := of_decide_eq_true z8_5
         obtain ⟨ad284, e284, hx284_0, hx284_1, hx284_2, hx284_3⟩ := at_T31 HR0.out x11_1 p284 q284
         cases e284
         try replace hx284_0 := (HB.out.cell (World.block_lt_of_cell? w _ hx284_0)).trans hx284_0
         try replace hx284_1 := (HB.out.cell (World.block_lt_of_cell? w _ hx284_1)).trans hx284_1
         try replace hx284_2 := (HB.out.cell (World.block_lt_of_cell? w _ hx284_2)).trans hx284_2
         try replace hx284_3 := (HB.out.cell (World.block_lt_of_cell? w _ hx284_3)).trans hx284_3
         replace p284 := eq_true p284
         replace q284 := eq_true q284
         go_wp2_with (first | ((with_reducible refine gate_dst (N := 4) rfl ?_); refine box_event ?hg (N := 4) ?hd (cs := #[.int .i64 0, .string (⟨#[]⟩ : ByteArray), .int .i64 0, .int .i64 0]) (t := 31) ?hr ?_; (case hd => rfl); (case hg => rfl); (case hr => first | (go_simp; done) | (go_simp; rfl)); intro gb285 hg w54 hbox hb; have n0_ := Aside0.mk (below_step z8_1 hb); have n1_ := Aside0.mk (hbox); have n2_ := Aside0.mk ((by rw [hg]; exact (below_size z8_1) : w.heap.size ≤ gb285)); have n3_ := Aside0.mk ((by rw [hg]; exact (below_size z8_1) : w.heap.size ≤ gb285)); clear HB; have HB := n0_; have BK285 := n1_; have GW285 := n2_; have GE285 := n3_; clear n0_ n1_ n2_ n3_; clear hb hbox hg; have hcz55_0 : w54.cell? ⟨gb285, 0, none⟩ = some (.int .i64 0) := (blk_cell BK285.out 0).trans rfl; have hcz55_1 : w54.cell? ⟨gb285, 1, none⟩ = some (.string (⟨#[]⟩ : ByteArray)) := (blk_cell BK285.out 1).trans rfl; have hcz55_2 : w54.cell? ⟨gb285, 2, none⟩ = some (.int .i64 0) := (blk_cell BK285.out 2).trans rfl; have hcz55_3 : w54.cell? ⟨gb285, 3, none⟩ = some (.int .i64 0) := (blk_cell BK285.out 3).trans rfl; have hfz55_0 := blk_frozen BK285.out 0; have hfz55_1 := blk_frozen BK285.out 1; have hfz55_2 := blk_frozen BK285.out 2; have hfz55_3 := blk_frozen BK285.out 3) | ((with_reducible refine gate_callee (f := 53) rfl ?_); refine goesL_ (some 18) rfl rfl Try.func53 (by kernel_rfl) rfl #[.int .i64 ((rd_T31 l0 x11_1).f0), .int .i64 1, .int .i64 9] rfl z8_3 ?_; (with_reducible refine (impl_InRange.calls ((rd_T31 l0 x11_1).f0) 1 9 false _ A7.out).mono ?_); rintro e w' ⟨rfl, ⟨nd, rfl⟩⟩; refine ⟨_, rfl, ?_⟩))
         go_ret
         exact ⟨z8_4, z8_2⟩
       ·rw [if_neg c6] at H
        exact absurd H (by simp)
      ·rw [if_neg c5] at H
       exact absurd H (by simp)
     ·rw [if_neg c4] at H
      have c4b0 : decide (x11_1 < (l0.length : Int)) = false := decide_eq_false c4
      clear c4
      obtain rfl := Option.some.inj H
      go_wp2
      go_ret
      exact ⟨z8_4, z8_1⟩
  ·replace c3 := Bool.eq_false_iff.mpr c3
   subst c3
   have H1 : (some false) = some r := by rw [if_neg (show ¬ (false = true) by decide)] at H; exact H
   clear H
   have H := H1
   clear H1
   obtain rfl := Option.some.inj H
   go_enter Try.func10, Try.ntmps10
   go_wp2_with (first | ((with_reducible refine gate_callee (f := 53) rfl ?_); refine goesL_ (some 7) rfl rfl Try.func53 (by kernel_rfl) rfl #[.int .i64 (l0.length : Int), .int .i64 1, .int .i64 9] rfl z8_3 ?_; (with_reducible refine (impl_InRange.calls (l0.length : Int) 1 9 false _ A2.out).mono ?_); rintro e w' ⟨rfl, ⟨nd, rfl⟩⟩; refine ⟨_, rfl, ?_⟩))
   go_ret
   exact ⟨z8_4, z8_1⟩

end Go.Proofs.Ytodcckiphdnjeab.QFnPlays
