-- Written by a changed copy of the kit's printer (wip/mp.py of this repo), for this claim; Lean checks it.
import Derived.Test.YtodcckiphdnjeabQFnPlaysx0
import Derived.Test.YtodcckiphdnjeabQFnPlaysx9
import Derived.Test.YtodcckiphdnjeabQFnPlaysx10
namespace Go.Proofs.Ytodcckiphdnjeab.QFnPlays
open Go.RowKit Go.Proofs.YtodcckiphdnjeabW.PrintWords Go.Proofs.YtodcckiphdnjeabW.PrintLast Go.Proofs.YtodcckiphdnjeabW.PrintMore
attribute [local go_sem] max2_int min2_int max_two min_two max_three min_three max_four min_four   -- for this text's walks alone
set_option linter.unusedVariables false
set_option linter.unusedSimpArgs false

theorem ab11_ {p q : Prop} (h0 : q) (h : q → p := by intro h_; first | (rw [add_block]; exact h_) | (show (Addr.add _ _).block ≠ _; rw [add_block]; exact h_) | exact h_) : p := h h0
theorem bl11_ {p q : Prop} (h0 : q) (h : q → p := by intro h_; have := World.block_lt_of_cell? _ _ h_; first | rwa [add_block] at this | exact this) : p := h h0
theorem bd11_ {p q : Prop} (h0 : q) (h : q → p := by intro h_; (with_reducible repeat (first | refine blk_drewN ?_ _ | refine blk_drew ?_ | refine blk_alloc ?_ _)); exact h_) : p := h h0
theorem z11_0 {p : Prop} (h : p := by repeat (first | (with_reducible first | exact HB.out | apply below_alloc | apply pw_below_drewN | apply below_drew1 | refine below_set ?_ GE309.out) | exact HB.out)) : p := h
theorem z11_1 {p : Prop} (h : p := by repeat (first | (with_reducible first | exact HB.out | apply below_alloc | apply pw_below_drewN | apply below_drew1) | exact HB.out)) : p := h
theorem z11_2 {p : Prop} (h : p := by (with_reducible repeat (first | refine blk_drewN ?_ _ | refine blk_drew ?_ | refine blk_alloc ?_ _)); refine blk_put (cs := #[.int .i64 ((rd_T31 l0 a1).f0), .string ((rd_T31 l0 a1).f1), .int .i64 ((rd_T31 l0 a1).f2), .int .i64 0]) ?_ 3 _ rfl; (with_reducible repeat (first | refine blk_drewN ?_ _ | refine blk_drew ?_ | refine blk_alloc ?_ _)); refine blk_put (cs := #[.int .i64 ((rd_T31 l0 a1).f0), .string ((rd_T31 l0 a1).f1), .int .i64 0, .int .i64 0]) ?_ 2 _ rfl; (with_reducible repeat (first | refine blk_drewN ?_ _ | refine blk_drew ?_ | refine blk_alloc ?_ _)); refine blk_put (cs := #[.int .i64 ((rd_T31 l0 a1).f0), .string (⟨#[]⟩ : ByteArray), .int .i64 0, .int .i64 0]) ?_ 1 _ rfl; (with_reducible repeat (first | refine blk_drewN ?_ _ | refine blk_drew ?_ | refine blk_alloc ?_ _)); refine blk_put (cs := #[.int .i64 0, .string (⟨#[]⟩ : ByteArray), .int .i64 0, .int .i64 0]) ?_ 0 _ rfl; (with_reducible repeat (first | refine blk_drewN ?_ _ | refine blk_drew ?_ | refine blk_alloc ?_ _)); exact BK309.out) : p := h
theorem z11_3 {p : Prop} (h : p := by first | (with_reducible assumption) | assumption) : p := h
theorem z11_4 {p : Prop} (h : p := by (try simp only [List.map_toArray, List.map_cons, List.map_nil]); first | done | rfl | (simp only [List.length_drop, List.length_take]; rfl)) : p := h
theorem z11_5 {p : Prop} (h : p := by first | rfl | (simp [errW_none, errW_some] <;> rfl) | (simp [*, errW_none, errW_some] <;> rfl)) : p := h
theorem z11_6 {p : Prop} (h : p := by (with_reducible repeat (first | refine blk_drewN ?_ _ | refine blk_drew ?_ | refine blk_alloc ?_ _)); exact BK309.out) : p := h
theorem pt11_ : (∀ (l : List Value) (i : Nat) (x : Value), l.toArray.setIfInBounds i x = (l.set i x).toArray) ∧ (∀ (a : Value) (l : List Value) (x : Value), (a :: l).set 0 x = x :: l) ∧ (∀ (a : Value) (l : List Value) (i : Nat) (x : Value), (a :: l).set (i + 1) x = a :: l.set i x) := ⟨fun _ _ _ => List.setIfInBounds_toArray .., fun _ _ _ => rfl, fun _ _ _ _ => rfl⟩
/-! ### impl_makes: function 52 -/
mutual
def impl_makes.l0 : Nat → List (S31) → ByteArray → Int → Int → ByteArray → Int → Int → Option (Bool)
  | 0, _, _, _, _, _, _, _ => none
  | k + 1, x0, x2, x9, x310000, x310001, x310002, x310003 => if x9 < (x2.size : Int) then (if 0 ≤ x9 then (if x9 ≤ (x2.size : Int) then ((impl_makes.f k x0 x310002 (x2.extract 0 (x9 : Int).toNat)).bind fun t314 => (if t314 = true then ((impl_makes.f k x0 x310003 (x2.extract (x9 : Int).toNat x2.size)).bind fun t315 => (if t315 = true then (some true) else (impl_makes.l0 k x0 x2 (wrap64 (x9 + 1)) x310000 x310001 x310002 x310003))) else (impl_makes.l0 k x0 x2 (wrap64 (x9 + 1)) x310000 x310001 x310002 x310003))) else (none)) else (none)) else (some false)
def impl_makes.l1 : Nat → List (S31) → ByteArray → Int → Int → ByteArray → Int → Int → Option (Bool)
  | 0, _, _, _, _, _, _, _ => none
  | k + 1, x0, x2, x10, x310000, x310001, x310002, x310003 => if x10 < (x2.size : Int) then (impl_makes.l2 k x0 x2 x10 (wrap64 (x10 + 1)) x310000 x310001 x310002 x310003) else (some false)
def impl_makes.l2 : Nat → List (S31) → ByteArray → Int → Int → Int → ByteArray → Int → Int → Option (Bool)
  | 0, _, _, _, _, _, _, _, _ => none
  | k + 1, x0, x2, x10, x11, x310000, x310001, x310002, x310003 => if x11 < (x2.size : Int) then (if 0 ≤ x10 then (if x10 ≤ x11 then (if x11 ≤ (x2.size : Int) then ((impl_makes.f k x0 x310003 (x2.extract (x10 : Int).toNat (x11 : Int).toNat)).bind fun t316 => (if t316 = true then (if x10 ≤ (x2.size : Int) then (if 0 ≤ x11 then (if (x2.extract 0 (x10 : Int).toNat).size + (x2.extract (x11 : Int).toNat x2.size).size ≤ 9223372036854775807 then ((impl_makes.f k x0 x310002 ((x2.extract 0 (x10 : Int).toNat) ++ (x2.extract (x11 : Int).toNat x2.size))).bind fun t317 => (if t317 = true then (some true) else (impl_makes.l2 k x0 x2 x10 (wrap64 (x11 + 1)) x310000 x310001 x310002 x310003))) else (none)) else (none)) else (none)) else (impl_makes.l2 k x0 x2 x10 (wrap64 (x11 + 1)) x310000 x310001 x310002 x310003))) else (none)) else (none)) else (none)) else (impl_makes.l1 k x0 x2 (wrap64 (x10 + 1)) x310000 x310001 x310002 x310003)
def impl_makes.f : Nat → List (S31) → Int → ByteArray → Option (Bool)
  | 0, _, _, _ => none
  | k + 1, l0, a1, a2 => if 0 ≤ a1 then (if a1 < (l0.length : Int) then (if a2.toList = ([] : List UInt8) then (some false) else (if 0 ≤ ((rd_T31 l0 a1).f2) then (if ((rd_T31 l0 a1).f2) < (l0.length : Int) then (if ((rd_T31 l0 a1).f0) = 1 then (some (a2.toList == ((rd_T31 l0 a1).f1).toList)) else (if ((rd_T31 l0 a1).f0) = 2 then ((impl_Backwards.f a2).bind fun t311 => ((impl_makes.f k l0 ((rd_T31 l0 a1).f2) t311).bind fun t312 => (some t312))) else (if ((rd_T31 l0 a1).f0) = 3 then ((impl_IsRearranged.f k ((rd_T31 l0 ((rd_T31 l0 a1).f2)).f1) a2).bind fun t313 => (some t313)) else (if ((rd_T31 l0 a1).f0) = 4 then (impl_makes.l0 k l0 a2 1 ((rd_T31 l0 a1).f0) ((rd_T31 l0 a1).f1) ((rd_T31 l0 a1).f2) ((rd_T31 l0 a1).f3)) else (if ((rd_T31 l0 a1).f0) = 5 then (impl_makes.l1 k l0 a2 1 ((rd_T31 l0 a1).f0) ((rd_T31 l0 a1).f1) ((rd_T31 l0 a1).f2) ((rd_T31 l0 a1).f3)) else (if ((rd_T31 l0 a1).f0) = 6 then ((impl_HeadOf.f k ((rd_T31 l0 ((rd_T31 l0 a1).f2)).f1)).bind fun t318 => (some (a2.toList == t318.toList))) else (if ((rd_T31 l0 a1).f0) = 7 then ((impl_WithoutHead.f k ((rd_T31 l0 ((rd_T31 l0 a1).f2)).f1)).bind fun t319 => (some (a2.toList == t319.toList))) else (if ((rd_T31 l0 a1).f0) = 8 then ((impl_WithoutTail.f k ((rd_T31 l0 ((rd_T31 l0 a1).f2)).f1)).bind fun t320 => (some (a2.toList == t320.toList))) else (if ((rd_T31 l0 a1).f0) = 9 then ((impl_IsInside.f k a2 ((rd_T31 l0 ((rd_T31 l0 a1).f2)).f1)).bind fun t321 => (some t321)) else (some false)))))))))) else (none)) else (none))) else (none)) else (none)
end
theorem impl_makes.mono_l : ∀ k, (∀ y0 y1 y2, LeO (impl_makes.f k y0 y1 y2) (impl_makes.f (k + 1) y0 y1 y2)) ∧ (∀ y0 y1 y2 y3 y4 y5 y6, LeO (impl_makes.l0 k y0 y1 y2 y3 y4 y5 y6) (impl_makes.l0 (k + 1) y0 y1 y2 y3 y4 y5 y6)) ∧ (∀ y0 y1 y2 y3 y4 y5 y6, LeO (impl_makes.l1 k y0 y1 y2 y3 y4 y5 y6) (impl_makes.l1 (k + 1) y0 y1 y2 y3 y4 y5 y6)) ∧ (∀ y0 y1 y2 y3 y4 y5 y6 y7, LeO (impl_makes.l2 k y0 y1 y2 y3 y4 y5 y6 y7) (impl_makes.l2 (k + 1) y0 y1 y2 y3 y4 y5 y6 y7))
  | 0 => ⟨fun _ _ _ r h => by simp [impl_makes.f] at h, fun _ _ _ _ _ _ _ r h => by simp [impl_makes.l0] at h, fun _ _ _ _ _ _ _ r h => by simp [impl_makes.l1] at h, fun _ _ _ _ _ _ _ _ r h => by simp [impl_makes.l2] at h⟩
  | k + 1 => by
   obtain ⟨ih0, ih1, ih2, ih3⟩ := impl_makes.mono_l k
   refine ⟨?_, ?_, ?_, ?_⟩
   ·intro y0 y1 y2
    unfold impl_makes.f
    repeat' first
    | (with_reducible exact ih0 _ _ _)
    | (with_reducible exact ih1 _ _ _ _ _ _ _)
    | (with_reducible exact ih2 _ _ _ _ _ _ _)
    | (with_reducible exact ih3 _ _ _ _ _ _ _ _)
    | (with_reducible exact impl_HeadOf.mono _ _)
    | (with_reducible exact impl_IsInside.mono _ _ _)
    | (with_reducible exact impl_IsRearranged.mono _ _ _)
    | (with_reducible exact impl_WithoutHead.mono _ _)
    | (with_reducible exact impl_WithoutTail.mono _ _)
    | (with_reducible exact LeO.refl _)
    | (with_reducible exact LeO.none _)
    | (with_reducible refine LeO.ite ?_ ?_)
    | (with_reducible refine LeO.bind ?_ (fun _ => ?_))
    | exact ih0 _ _ _
    | exact ih1 _ _ _ _ _ _ _
    | exact ih2 _ _ _ _ _ _ _
    | exact ih3 _ _ _ _ _ _ _ _
    | exact impl_HeadOf.mono _ _
    | exact impl_IsInside.mono _ _ _
    | exact impl_IsRearranged.mono _ _ _
    | exact impl_WithoutHead.mono _ _
    | exact impl_WithoutTail.mono _ _
    | exact LeO.none _
    | refine LeO.ite ?_ ?_
    | refine LeO.bind ?_ (fun _ => ?_)
   ·intro y0 y1 y2 y3 y4 y5 y6
    unfold impl_makes.l0
    repeat' first
    | (with_reducible exact ih0 _ _ _)
    | (with_reducible exact ih1 _ _ _ _ _ _ _)
    | (with_reducible exact ih2 _ _ _ _ _ _ _)
    | (with_reducible exact ih3 _ _ _ _ _ _ _ _)
    | (with_reducible exact impl_HeadOf.mono _ _)
    | (with_reducible exact impl_IsInside.mono _ _ _)
    | (with_reducible exact impl_IsRearranged.mono _ _ _)
    | (with_reducible exact impl_WithoutHead.mono _ _)
    | (with_reducible exact impl_WithoutTail.mono _ _)
    | (with_reducible exact LeO.refl _)
    | (with_reducible exact LeO.none _)
    | (with_reducible refine LeO.ite ?_ ?_)
    | (with_reducible refine LeO.bind ?_ (fun _ => ?_))
    | exact ih0 _ _ _
    | exact ih1 _ _ _ _ _ _ _
    | exact ih2 _ _ _ _ _ _ _
    | exact ih3 _ _ _ _ _ _ _ _
    | exact impl_HeadOf.mono _ _
    | exact impl_IsInside.mono _ _ _
    | exact impl_IsRearranged.mono _ _ _
    | exact impl_WithoutHead.mono _ _
    | exact impl_WithoutTail.mono _ _
    | exact LeO.none _
    | refine LeO.ite ?_ ?_
    | refine LeO.bind ?_ (fun _ => ?_)
   ·intro y0 y1 y2 y3 y4 y5 y6
    unfold impl_makes.l1
    repeat' first
    | (with_reducible exact ih0 _ _ _)
    | (with_reducible exact ih1 _ _ _ _ _ _ _)
    | (with_reducible exact ih2 _ _ _ _ _ _ _)
    | (with_reducible exact ih3 _ _ _ _ _ _ _ _)
    | (with_reducible exact impl_HeadOf.mono _ _)
    | (with_reducible exact impl_IsInside.mono _ _ _)
    | (with_reducible exact impl_IsRearranged.mono _ _ _)
    | (with_reducible exact impl_WithoutHead.mono _ _)
    | (with_reducible exact impl_WithoutTail.mono _ _)
    | (with_reducible exact LeO.refl _)
    | (with_reducible exact LeO.none _)
    | (with_reducible refine LeO.ite ?_ ?_)
    | (with_reducible refine LeO.bind ?_ (fun _ => ?_))
    | exact ih0 _ _ _
    | exact ih1 _ _ _ _ _ _ _
    | exact ih2 _ _ _ _ _ _ _
    | exact ih3 _ _ _ _ _ _ _ _
    | exact impl_HeadOf.mono _ _
    | exact impl_IsInside.mono _ _ _
    | exact impl_IsRearranged.mono _ _ _
    | exact impl_WithoutHead.mono _ _
    | exact impl_WithoutTail.mono _ _
    | exact LeO.none _
    | refine LeO.ite ?_ ?_
    | refine LeO.bind ?_ (fun _ => ?_)
   ·intro y0 y1 y2 y3 y4 y5 y6 y7
    unfold impl_makes.l2
    repeat' first
    | (with_reducible exact ih0 _ _ _)
    | (with_reducible exact ih1 _ _ _ _ _ _ _)
    | (with_reducible exact ih2 _ _ _ _ _ _ _)
    | (with_reducible exact ih3 _ _ _ _ _ _ _ _)
    | (with_reducible exact impl_HeadOf.mono _ _)
    | (with_reducible exact impl_IsInside.mono _ _ _)
    | (with_reducible exact impl_IsRearranged.mono _ _ _)
    | (with_reducible exact impl_WithoutHead.mono _ _)
    | (with_reducible exact impl_WithoutTail.mono _ _)
    | (with_reducible exact LeO.refl _)
    | (with_reducible exact LeO.none _)
    | (with_reducible refine LeO.ite ?_ ?_)
    | (with_reducible refine LeO.bind ?_ (fun _ => ?_))
    | exact ih0 _ _ _
    | exact ih1 _ _ _ _ _ _ _
    | exact ih2 _ _ _ _ _ _ _
    | exact ih3 _ _ _ _ _ _ _ _
    | exact impl_HeadOf.mono _ _
    | exact impl_IsInside.mono _ _ _
    | exact impl_IsRearranged.mono _ _ _
    | exact impl_WithoutHead.mono _ _
    | exact impl_WithoutTail.mono _ _
    | exact LeO.none _
    | refine LeO.ite ?_ ?_
    | refine LeO.bind ?_ (fun _ => ?_)
theorem impl_makes.mono : ∀ a0 a1 a2 k, LeO (impl_makes.f k a0 a1 a2) (impl_makes.f (k + 1) a0 a1 a2) := by
  intro a0 a1 a2 k
  obtain ⟨ih0, ih1, ih2, ih3⟩ := impl_makes.mono_l k
  exact ih0 a0 a1 a2
def impl_makes.T16 : Bool × List (List Nat × List Nat) := (true, [([], []), ([], []), ([1], [1]), ([], []), ([], []), ([3, 4], [3, 4]), ([0, 2, 5], [0, 2, 5]), ([6, 6], [6]), ([7], [7]), ([7], [7]), ([9, 7], [7, 9]), ([7], [7]), ([7], [7]), ([11, 12, 7], [7, 11, 12]), ([8, 10, 13, 7, 7], [7, 8, 10, 13]), ([7, 14], [7, 14])])
def impl_makes.B16 : List Nat := [0, 0, 2, 0, 0, 24, 63, 127, 255, 255, 767, 255, 255, 6399, 16383, 32767]
theorem impl_makes.tab16 : rtab .any (opsOf Try.f52 16) = impl_makes.T16 := by kernel_rfl
theorem impl_makes.bits16 : waitsOk impl_makes.T16.2 impl_makes.B16 = true := by kernel_rfl
def impl_makes.T25 : Bool × List (List Nat × List Nat) := (true, [([], []), ([], []), ([1], [1]), ([], []), ([], []), ([], []), ([3, 4, 5], [3, 4, 5]), ([0, 2, 6], [0, 2, 6]), ([7, 7], [7]), ([8], [8]), ([8], [8]), ([10, 8], [8, 10]), ([8], [8]), ([8], [8]), ([12, 13, 8], [8, 12, 13]), ([8], [8]), ([8], [8]), ([15, 16, 8], [8, 15, 16]), ([14, 17, 8], [8, 14, 17]), ([9, 11, 18, 8, 8], [8, 9, 11, 18]), ([8, 19], [8, 19])])
def impl_makes.B25 : List Nat := [0, 0, 2, 0, 0, 0, 56, 127, 255, 511, 511, 1535, 511, 511, 12799, 511, 511, 98815, 258559, 524287, 1048575]
theorem impl_makes.tab25 : rtab .any (opsOf Try.f52 25) = impl_makes.T25 := by kernel_rfl
theorem impl_makes.bits25 : waitsOk impl_makes.T25.2 impl_makes.B25 = true := by kernel_rfl
set_option maxHeartbeats 8000000 in
set_option maxRecDepth 100000 in
theorem impl_makes.calls (k : Nat) : ∀ (A0 : Option Addr) (c0 : Nat) (l0 : List (S31)) (a1 : Int) (a2 : ByteArray) (r : Bool) (w : World) (hr0 : Kd.C k31 w A0 l0.length l0) (hc0 : l0.length ≤ c0) (h : impl_makes.f k l0 a1 a2 = some r),
   Calls Try.prog 52 #[.slice A0 l0.length c0, .int .i64 a1, .string a2] w fun e w' => e = .returned (.bool r) ∧ Below w.heap.size w w' := by
  induction k using Nat.strongRecOn with
  | _ k ih =>
  intro A0 c0 l0 a1 a2 r w hr0 hc0 h
  cases k with
  | zero => exact absurd h (by simp [impl_makes.f])
  | succ k =>
  simp only [impl_makes.f] at h
  have hu31 := Try.underlying31
  have HR0 := Aside0.mk hr0
  have HC0 := Aside0.mk hc0
  clear hr0 hc0
  have HB := Aside0.mk (Below.refl w.heap.size w)
  have H : (if 0 ≤ a1 then (if a1 < (l0.length : Int) then (if a2.toList = ([] : List UInt8) then (some false) else (if 0 ≤ ((rd_T31 l0 a1).f2) then (if ((rd_T31 l0 a1).f2) < (l0.length : Int) then (if ((rd_T31 l0 a1).f0) = 1 then (some (a2.toList == ((rd_T31 l0 a1).f1).toList)) else (if ((rd_T31 l0 a1).f0) = 2 then ((impl_Backwards.f a2).bind fun t311 => ((impl_makes.f k l0 ((rd_T31 l0 a1).f2) t311).bind fun t312 => (some t312))) else (if ((rd_T31 l0 a1).f0) = 3 then ((impl_IsRearranged.f k ((rd_T31 l0 ((rd_T31 l0 a1).f2)).f1) a2).bind fun t313 => (some t313)) else (if ((rd_T31 l0 a1).f0) = 4 then (impl_makes.l0 k l0 a2 1 ((rd_T31 l0 a1).f0) ((rd_T31 l0 a1).f1) ((rd_T31 l0 a1).f2) ((rd_T31 l0 a1).f3)) else (if ((rd_T31 l0 a1).f0) = 5 then (impl_makes.l1 k l0 a2 1 ((rd_T31 l0 a1).f0) ((rd_T31 l0 a1).f1) ((rd_T31 l0 a1).f2) ((rd_T31 l0 a1).f3)) else (if ((rd_T31 l0 a1).f0) = 6 then ((impl_HeadOf.f k ((rd_T31 l0 ((rd_T31 l0 a1).f2)).f1)).bind fun t318 => (some (a2.toList == t318.toList))) else (if ((rd_T31 l0 a1).f0) = 7 then ((impl_WithoutHead.f k ((rd_T31 l0 ((rd_T31 l0 a1).f2)).f1)).bind fun t319 => (some (a2.toList == t319.toList))) else (if ((rd_T31 l0 a1).f0) = 8 then ((impl_WithoutTail.f k ((rd_T31 l0 ((rd_T31 l0 a1).f2)).f1)).bind fun t320 => (some (a2.toList == t320.toList))) else (if ((rd_T31 l0 a1).f0) = 9 then ((impl_IsInside.f k a2 ((rd_T31 l0 ((rd_T31 l0 a1).f2)).f1)).bind fun t321 => (some t321)) else (some false)))))))))) else (none)) else (none))) else (none)) else (none)) = some r := h
  clear h
  by_cases c4 : 0 ≤ a1
  ·rw [if_pos c4] at H
   have c4b0 : decide (0 ≤ a1) = true := decide_eq_true c4
   clear c4
   by_cases c5 : a1 < (l0.length : Int)
   ·rw [if_pos c5] at H
    have c5b0 : decide (a1 < (l0.length : Int)) = true := decide_eq_true c5
    clear c5
    by_cases c6 : a2.toList = ([] : List UInt8)
    ·rw [if_pos c6] at H
     have c6b0 : (a2.toList == ([] : List UInt8)) = true := beq_iff_eq.mpr c6
     have c6b1 : (a2.toList != ([] : List UInt8)) = false := bne_eq_false_iff_eq.mpr c6
     clear c6
     obtain rfl := Option.some.inj H
     have p308 : 0 ≤ (a1 : Int) := of_decide_eq_true z11_3
     have q308 : a1 < (l0.length : Int) := of_decide_eq_true z11_3
     obtain ⟨ad308, e308, hx308_0, hx308_1, hx308_2, hx308_3⟩ := at_T31 HR0.out a1 p308 q308
     cases e308
     replace p308 := eq_true p308
     replace q308 := eq_true q308
     go_enter Try.func52, Try.ntmps52
     go_wp2_with (first | ((with_reducible refine gate_dst (N := 7) rfl ?_); refine box_event ?hg (N := 7) ?hd (cs := #[.int .i64 0, .string (⟨#[]⟩ : ByteArray), .int .i64 0, .int .i64 0]) (t := 31) ?hr ?_; (case hd => rfl); (case hg => rfl); (case hr => first | (go_simp; done) | (go_simp; rfl)); intro gb309 hg w7 hbox hb; have n0_ := Aside0.mk (below_step z11_1 hb); have n1_ := Aside0.mk (hbox); have n2_ := Aside0.mk ((by rw [hg]; exact (below_size z11_1) : w.heap.size ≤ gb309)); have n3_ := Aside0.mk ((by rw [hg]; exact (below_size z11_1) : w.heap.size ≤ gb309)); clear HB; have HB := n0_; have BK309 := n1_; have GW309 := n2_; have GE309 := n3_; clear n0_ n1_ n2_ n3_; clear hb hbox hg; have hcz8_0 : w7.cell? ⟨gb309, 0, none⟩ = some (.int .i64 0) := (blk_cell BK309.out 0).trans rfl; have hcz8_1 : w7.cell? ⟨gb309, 1, none⟩ = some (.string (⟨#[]⟩ : ByteArray)) := (blk_cell BK309.out 1).trans rfl; have hcz8_2 : w7.cell? ⟨gb309, 2, none⟩ = some (.int .i64 0) := (blk_cell BK309.out 2).trans rfl; have hcz8_3 : w7.cell? ⟨gb309, 3, none⟩ = some (.int .i64 0) := (blk_cell BK309.out 3).trans rfl; have hfz8_0 := blk_frozen BK309.out 0; have hfz8_1 := blk_frozen BK309.out 1; have hfz8_2 := blk_frozen BK309.out 2; have hfz8_3 := blk_frozen BK309.out 3))
     go_ret
     exact ⟨z11_5, z11_0⟩
    ·rw [if_neg c6] at H
     have c6b0 : (a2.toList == ([] : List UInt8)) = false := beq_eq_false_iff_ne.mpr c6
     have c6b1 : (a2.toList != ([] : List UInt8)) = true := bne_iff_ne.mpr c6
     by_cases c9 : 0 ≤ ((rd_T31 l0 a1).f2)
     ·rw [if_pos c9] at H
      have c9b0 : decide (0 ≤ ((rd_T31 l0 a1).f2)) = true := decide_eq_true c9
      clear c9
      by_cases c10 : ((rd_T31 l0 a1).f2) < (l0.length : Int)
      ·rw [if_pos c10] at H
       have c10b0 : decide (((rd_T31 l0 a1).f2) < (l0.length : Int)) = true := decide_eq_true c10
       clear c10
       by_cases c11 : ((rd_T31 l0 a1).f0) = 1
       ·rw [if_pos c11] at H
        have c11b0 : (((rd_T31 l0 a1).f0) == 1) = true := beq_iff_eq.mpr c11
        have c11b1 : (((rd_T31 l0 a1).f0) != 1) = false := bne_eq_false_iff_eq.mpr c11
        clear c11
        obtain rfl := Option.some.inj H
        have p308 : 0 ≤ (a1 : Int) := of_decide_eq_true z11_3
        have q308 : a1 < (l0.length : Int) := of_decide_eq_true z11_3
        obtain ⟨ad308, e308, hx308_0, hx308_1, hx308_2, hx308_3⟩ := at_T31 HR0.out a1 p308 q308
        cases e308
        replace p308 := eq_true p308
        replace q308 := eq_true q308
        go_enter Try.func52, Try.ntmps52
        go_wp2_with (first | ((with_reducible refine gate_dst (N := 7) rfl ?_); refine box_event ?hg (N := 7) ?hd (cs := #[.int .i64 0, .string (⟨#[]⟩ : ByteArray), .int .i64 0, .int .i64 0]) (t := 31) ?hr ?_; (case hd => rfl); (case hg => rfl); (case hr => first | (go_simp; done) | (go_simp; rfl)); intro gb309 hg w12 hbox hb; have n0_ := Aside0.mk (below_step z11_1 hb); have n1_ := Aside0.mk (hbox); have n2_ := Aside0.mk ((by rw [hg]; exact (below_size z11_1) : w.heap.size ≤ gb309)); have n3_ := Aside0.mk ((by rw [hg]; exact (below_size z11_1) : w.heap.size ≤ gb309)); clear HB; have HB := n0_; have BK309 := n1_; have GW309 := n2_; have GE309 := n3_; clear n0_ n1_ n2_ n3_; clear hb hbox hg; have hcz13_0 : w12.cell? ⟨gb309, 0, none⟩ = some (.int .i64 0) := (blk_cell BK309.out 0).trans rfl; have hcz13_1 : w12.cell? ⟨gb309, 1, none⟩ = some (.string (⟨#[]⟩ : ByteArray)) := (blk_cell BK309.out 1).trans rfl; have hcz13_2 : w12.cell? ⟨gb309, 2, none⟩ = some (.int .i64 0) := (blk_cell BK309.out 2).trans rfl; have hcz13_3 : w12.cell? ⟨gb309, 3, none⟩ = some (.int .i64 0) := (blk_cell BK309.out 3).trans rfl; have hfz13_0 := blk_frozen BK309.out 0; have hfz13_1 := blk_frozen BK309.out 1; have hfz13_2 := blk_frozen BK309.out 2; have hfz13_3 := blk_frozen BK309.out 3; have p310 : 0 ≤ (((rd_T31 l0 a1).f2) : Int) := of_decide_eq_true z11_3; have q310 : ((rd_T31 l0 a1).f2) < (l0.length : Int) := of_decide_eq_true z11_3; obtain ⟨ad310, e310, hx310_0, hx310_1, hx310_2, hx310_3⟩ := at_T31 HR0.out ((rd_T31 l0 a1).f2) p310 q310; obtain rfl : ad308 = ad310 := (by injection e310); have hn310_0 : ad308.block ≠ gb309 := Nat.ne_of_lt (Nat.lt_of_lt_of_le (bl11_ hx310_0) GW309.out); have hn310_1 : ad308.block ≠ gb309 := Nat.ne_of_lt (Nat.lt_of_lt_of_le (bl11_ hx310_0) GW309.out); have hn310_2 : ad308.block ≠ gb309 := Nat.ne_of_lt (Nat.lt_of_lt_of_le (bl11_ hx310_0) GW309.out); have hn310_3 : ad308.block ≠ gb309 := Nat.ne_of_lt (Nat.lt_of_lt_of_le (bl11_ hx310_0) GW309.out); replace hx310_0 := (HB.out.cell (World.block_lt_of_cell? w _ hx310_0)).trans hx310_0; replace hx310_1 := (HB.out.cell (World.block_lt_of_cell? w _ hx310_1)).trans hx310_1; replace hx310_2 := (HB.out.cell (World.block_lt_of_cell? w _ hx310_2)).trans hx310_2; replace hx310_3 := (HB.out.cell (World.block_lt_of_cell? w _ hx310_3)).trans hx310_3; replace hx310_0 := (cell_far (p := ⟨gb309, 0, none⟩) (ab11_ hn310_0) (.int .i64 ((rd_T31 l0 a1).f0))).trans hx310_0; replace hx310_1 := (cell_far (p := ⟨gb309, 0, none⟩) (ab11_ hn310_0) (.int .i64 ((rd_T31 l0 a1).f0))).trans hx310_1; replace hx310_2 := (cell_far (p := ⟨gb309, 0, none⟩) (ab11_ hn310_0) (.int .i64 ((rd_T31 l0 a1).f0))).trans hx310_2; replace hx310_3 := (cell_far (p := ⟨gb309, 0, none⟩) (ab11_ hn310_0) (.int .i64 ((rd_T31 l0 a1).f0))).trans hx310_3; replace hx310_0 := (cell_far (p := ⟨gb309, 1, none⟩) (ab11_ hn310_1) (.string ((rd_T31 l0 a1).f1))).trans hx310_0; replace hx310_1 := (cell_far (p := ⟨gb309, 1, none⟩) (ab11_ hn310_1) (.string ((rd_T31 l0 a1).f1))).trans hx310_1; replace hx310_2 := (cell_far (p := ⟨gb309, 1, none⟩) (ab11_ hn310_1) (.string ((rd_T31 l0 a1).f1))).trans hx310_2; replace hx310_3 := (cell_far (p := ⟨gb309, 1, none⟩) (ab11_ hn310_1) (.string ((rd_T31 l0 a1).f1))).trans hx310_3; replace hx310_0 := (cell_far (p := ⟨gb309, 2, none⟩) (ab11_ hn310_2) (.int .i64 ((rd_T31 l0 a1).f2))).trans hx310_0; replace hx310_1 := (cell_far (p := ⟨gb309, 2, none⟩) (ab11_ hn310_2) (.int .i64 ((rd_T31 l0 a1).f2))).trans hx310_1; replace hx310_2 := (cell_far (p := ⟨gb309, 2, none⟩) (ab11_ hn310_2) (.int .i64 ((rd_T31 l0 a1).f2))).trans hx310_2; replace hx310_3 := (cell_far (p := ⟨gb309, 2, none⟩) (ab11_ hn310_2) (.int .i64 ((rd_T31 l0 a1).f2))).trans hx310_3; replace hx310_0 := (cell_far (p := ⟨gb309, 3, none⟩) (ab11_ hn310_3) (.int .i64 ((rd_T31 l0 a1).f3))).trans hx310_0; replace hx310_1 := (cell_far (p := ⟨gb309, 3, none⟩) (ab11_ hn310_3) (.int .i64 ((rd_T31 l0 a1).f3))).trans hx310_1; replace hx310_2 := (cell_far (p := ⟨gb309, 3, none⟩) (ab11_ hn310_3) (.int .i64 ((rd_T31 l0 a1).f3))).trans hx310_2; replace hx310_3 := (cell_far (p := ⟨gb309, 3, none⟩) (ab11_ hn310_3) (.int .i64 ((rd_T31 l0 a1).f3))).trans hx310_3; clear hn310_0; clear hn310_1; clear hn310_2; clear hn310_3; replace p310 := eq_true p310; replace q310 := eq_true q310))
        go_ret
        exact ⟨z11_5, z11_0⟩
       ·rw [if_neg c11] at H
        have c11b0 : (((rd_T31 l0 a1).f0) == 1) = false := beq_eq_false_iff_ne.mpr c11
        have c11b1 : (((rd_T31 l0 a1).f0) != 1) = true := bne_iff_ne.mpr c11
        by_cases c14 : ((rd_T31 l0 a1).f0) = 2
        ·rw [if_pos c14] at H
         have c14b0 : (((rd_T31 l0 a1).f0) == 2) = true := beq_iff_eq.mpr c14
         have c14b1 : (((rd_T31 l0 a1).f0) != 2) = false := bne_eq_false_iff_eq.mpr c14
         clear c14
         replace H := Option.bind_eq_some_iff.mp H
         obtain ⟨t311, A150, H⟩ := H
         replace H : ((impl_makes.f k l0 ((rd_T31 l0 a1).f2) t311).bind fun t312 => (some t312)) = some r := H
         have A15 := Aside0.mk A150
         clear A150
         replace H := Option.bind_eq_some_iff.mp H
         obtain ⟨t312, A160, H⟩ := H
         replace H : (some t312) = some r := H
         have A16 := Aside0.mk A160
         clear A160
         obtain rfl := Option.some.inj H
         have p308 : 0 ≤ (a1 : Int) := of_decide_eq_true z11_3
         have q308 : a1 < (l0.length : Int) := of_decide_eq_true z11_3
         obtain ⟨ad308, e308, hx308_0, hx308_1, hx308_2, hx308_3⟩ := at_T31 HR0.out a1 p308 q308
         cases e308
         replace p308 := eq_true p308
         replace q308 := eq_true q308
         go_enter Try.func52, Try.ntmps52
         try go_wp2_with (first | ((with_reducible refine gate_dst (N := 7) rfl ?_); refine box_event ?hg (N := 7) ?hd (cs := #[.int .i64 0, .string (⟨#[]⟩ : ByteArray), .int .i64 0, .int .i64 0]) (t := 31) ?hr ?_; (case hd => rfl); (case hg => rfl); (case hr => first | (go_simp; done) | (go_simp; rfl)); intro gb309 hg w17 hbox hb; have n0_ := Aside0.mk (below_step z11_1 hb); have n1_ := Aside0.mk (hbox); have n2_ := Aside0.mk ((by rw [hg]; exact (below_size z11_1) : w.heap.size ≤ gb309)); have n3_ := Aside0.mk ((by rw [hg]; exact (below_size z11_1) : w.heap.size ≤ gb309)); clear HB; have HB := n0_; have BK309 := n1_; have GW309 := n2_; have GE309 := n3_; clear n0_ n1_ n2_ n3_; clear hb hbox hg; have hcz18_0 : w17.cell? ⟨gb309, 0, none⟩ = some (.int .i64 0) := (blk_cell BK309.out 0).trans rfl; have hcz18_1 : w17.cell? ⟨gb309, 1, none⟩ = some (.string (⟨#[]⟩ : ByteArray)) := (blk_cell BK309.out 1).trans rfl; have hcz18_2 : w17.cell? ⟨gb309, 2, none⟩ = some (.int .i64 0) := (blk_cell BK309.out 2).trans rfl; have hcz18_3 : w17.cell? ⟨gb309, 3, none⟩ = some (.int .i64 0) := (blk_cell BK309.out 3).trans rfl; have hfz18_0 := blk_frozen BK309.out 0; have hfz18_1 := blk_frozen BK309.out 1; have hfz18_2 := blk_frozen BK309.out 2; have hfz18_3 := blk_frozen BK309.out 3; have p310 : 0 ≤ (((rd_T31 l0 a1).f2) : Int) := of_decide_eq_true z11_3; have q310 : ((rd_T31 l0 a1).f2) < (l0.length : Int) := of_decide_eq_true z11_3; obtain ⟨ad310, e310, hx310_0, hx310_1, hx310_2, hx310_3⟩ := at_T31 HR0.out ((rd_T31 l0 a1).f2) p310 q310; obtain rfl : ad308 = ad310 := (by injection e310); have hn310_0 : ad308.block ≠ gb309 := Nat.ne_of_lt (Nat.lt_of_lt_of_le (bl11_ hx310_0) GW309.out); have hn310_1 : ad308.block ≠ gb309 := Nat.ne_of_lt (Nat.lt_of_lt_of_le (bl11_ hx310_0) GW309.out); have hn310_2 : ad308.block ≠ gb309 := Nat.ne_of_lt (Nat.lt_of_lt_of_le (bl11_ hx310_0) GW309.out); have hn310_3 : ad308.block ≠ gb309 := Nat.ne_of_lt (Nat.lt_of_lt_of_le (bl11_ hx310_0) GW309.out); replace hx310_0 := (HB.out.cell (World.block_lt_of_cell? w _ hx310_0)).trans hx310_0; replace hx310_1 := (HB.out.cell (World.block_lt_of_cell? w _ hx310_1)).trans hx310_1; replace hx310_2 := (HB.out.cell (World.block_lt_of_cell? w _ hx310_2)).trans hx310_2; replace hx310_3 := (HB.out.cell (World.block_lt_of_cell? w _ hx310_3)).trans hx310_3; replace hx310_0 := (cell_far (p := ⟨gb309, 0, none⟩) (ab11_ hn310_0) (.int .i64 ((rd_T31 l0 a1).f0))).trans hx310_0; replace hx310_1 := (cell_far (p := ⟨gb309, 0, none⟩) (ab11_ hn310_0) (.int .i64 ((rd_T31 l0 a1).f0))).trans hx310_1; replace hx310_2 := (cell_far (p := ⟨gb309, 0, none⟩) (ab11_ hn310_0) (.int .i64 ((rd_T31 l0 a1).f0))).trans hx310_2; replace hx310_3 := (cell_far (p := ⟨gb309, 0, none⟩) (ab11_ hn310_0) (.int .i64 ((rd_T31 l0 a1).f0))).trans hx310_3; replace hx310_0 := (cell_far (p := ⟨gb309, 1, none⟩) (ab11_ hn310_1) (.string ((rd_T31 l0 a1).f1))).trans hx310_0; replace hx310_1 := (cell_far (p := ⟨gb309, 1, none⟩) (ab11_ hn310_1) (.string ((rd_T31 l0 a1).f1))).trans hx310_1; replace hx310_2 := (cell_far (p := ⟨gb309, 1, none⟩) (ab11_ hn310_1) (.string ((rd_T31 l0 a1).f1))).trans hx310_2; replace hx310_3 := (cell_far (p := ⟨gb309, 1, none⟩) (ab11_ hn310_1) (.string ((rd_T31 l0 a1).f1))).trans hx310_3; replace hx310_0 := (cell_far (p := ⟨gb309, 2, none⟩) (ab11_ hn310_2) (.int .i64 ((rd_T31 l0 a1).f2))).trans hx310_0; replace hx310_1 := (cell_far (p := ⟨gb309, 2, none⟩) (ab11_ hn310_2) (.int .i64 ((rd_T31 l0 a1).f2))).trans hx310_1; replace hx310_2 := (cell_far (p := ⟨gb309, 2, none⟩) (ab11_ hn310_2) (.int .i64 ((rd_T31 l0 a1).f2))).trans hx310_2; replace hx310_3 := (cell_far (p := ⟨gb309, 2, none⟩) (ab11_ hn310_2) (.int .i64 ((rd_T31 l0 a1).f2))).trans hx310_3; replace hx310_0 := (cell_far (p := ⟨gb309, 3, none⟩) (ab11_ hn310_3) (.int .i64 ((rd_T31 l0 a1).f3))).trans hx310_0; replace hx310_1 := (cell_far (p := ⟨gb309, 3, none⟩) (ab11_ hn310_3) (.int .i64 ((rd_T31 l0 a1).f3))).trans hx310_1; replace hx310_2 := (cell_far (p := ⟨gb309, 3, none⟩) (ab11_ hn310_3) (.int .i64 ((rd_T31 l0 a1).f3))).trans hx310_2; replace hx310_3 := (cell_far (p := ⟨gb309, 3, none⟩) (ab11_ hn310_3) (.int .i64 ((rd_T31 l0 a1).f3))).trans hx310_3; clear hn310_0; clear hn310_1; clear hn310_2; clear hn310_3; replace p310 := eq_true p310; replace q310 := eq_true q310))
         have n0_ : Aside0 (((((w17.setCell ⟨gb309, 0, none⟩ (.int .i64 ((rd_T31 l0 a1).f0))).setCell ⟨gb309, 1, none⟩ (.string ((rd_T31 l0 a1).f1))).setCell ⟨gb309, 2, none⟩ (.int .i64 ((rd_T31 l0 a1).f2))).setCell ⟨gb309, 3, none⟩ (.int .i64 ((rd_T31 l0 a1).f3))).heap[gb309]? = some (.cells #[.int .i64 ((rd_T31 l0 a1).f0), .string ((rd_T31 l0 a1).f1), .int .i64 ((rd_T31 l0 a1).f2), .int .i64 ((rd_T31 l0 a1).f3)] 31 (0, 0))) := ⟨z11_2⟩
         have n1_ : Aside0 (Below w.heap.size w ((((w17.setCell ⟨gb309, 0, none⟩ (.int .i64 ((rd_T31 l0 a1).f0))).setCell ⟨gb309, 1, none⟩ (.string ((rd_T31 l0 a1).f1))).setCell ⟨gb309, 2, none⟩ (.int .i64 ((rd_T31 l0 a1).f2))).setCell ⟨gb309, 3, none⟩ (.int .i64 ((rd_T31 l0 a1).f3)))) := ⟨z11_0⟩
         (try clear BK309)
         (try clear HB)
         generalize ((((w17.setCell ⟨gb309, 0, none⟩ (.int .i64 ((rd_T31 l0 a1).f0))).setCell ⟨gb309, 1, none⟩ (.string ((rd_T31 l0 a1).f1))).setCell ⟨gb309, 2, none⟩ (.int .i64 ((rd_T31 l0 a1).f2))).setCell ⟨gb309, 3, none⟩ (.int .i64 ((rd_T31 l0 a1).f3))) = w19 at n0_ n1_ ⊢
         have BK309 := n0_
         have HB := n1_
         clear n0_ n1_
         have n0_ := Aside0.mk (blk_drew BK309.out)
         have n1_ := Aside0.mk (below_drew1 HB.out)
         clear BK309
         clear HB
         have BK309 := n0_
         have HB := n1_
         clear n0_ n1_
         refine start_ (n := 7) (S := fun w' => w'.cell? ⟨gb309, 0, none⟩ = some (.int .i64 ((rd_T31 l0 a1).f0)) ∧ w'.cell? ⟨gb309, 1, none⟩ = some (.string ((rd_T31 l0 a1).f1)) ∧ w'.cell? ⟨gb309, 2, none⟩ = some (.int .i64 ((rd_T31 l0 a1).f2)) ∧ w'.cell? ⟨gb309, 3, none⟩ = some (.int .i64 ((rd_T31 l0 a1).f3))) (ds := []) #[false, false, false, false, false, false, false] (by kernel_rfl) rfl rfl ⟨(blk_cell BK309.out 0).trans rfl, (blk_cell BK309.out 1).trans rfl, (blk_cell BK309.out 2).trans rfl, (blk_cell BK309.out 3).trans rfl⟩ (fun hHeld => ?_)
         generalize w19.drew = w20 at BK309 HB hHeld ⊢
         refine pure_ (i := 0) (N := some 34) (v := ?_) (a' := ?_) #[true, false, false, false, false, false, false] rfl rfl (by kernel_rfl) (fun _ _ _ h => h) (Or.inl ⟨by rfl, ?_⟩) ?_ ?_
         rotate_left
         ·intro w'
          go_simp
          with_reducible rfl
         rotate_left
         ·simp only [Act.put, pt11_, i64_w, i32_w]
          rfl
         refine pure_ (i := 1) (N := some 35) (v := ?_) (a' := ?_) #[true, true, false, false, false, false, false] rfl rfl (by kernel_rfl) (fun _ _ _ h => h) (Or.inl ⟨by rfl, ?_⟩) ?_ ?_
         rotate_left
         ·intro w'
          go_simp
          with_reducible rfl
         rotate_left
         ·simp only [Act.put, pt11_, i64_w, i32_w]
          rfl
         refine pure_ (i := 3) (N := some 37) (v := ?_) (a' := ?_) #[true, true, false, true, false, false, false] rfl rfl (by kernel_rfl) (fun _ _ _ h => h) (Or.inl ⟨by rfl, ?_⟩) ?_ ?_
         rotate_left
         ·intro w'
          go_simp
          with_reducible rfl
         rotate_left
         ·simp only [Act.put, pt11_, i64_w, i32_w]
          rfl
         refine take_ (i := 2) (N := some 36) (v := ?_) (a' := ?_) #[true, true, true, true, false, false, false] rfl rfl (by kernel_rfl) (fun _ _ _ h => h) (Or.inl ⟨by rfl, ?_⟩) hHeld ?_ ?_
         rotate_left
         ·rintro w' ⟨s0, s1, s2, s3⟩
          go_simp
          with_reducible rfl
         rotate_left
         ·simp only [Act.put, pt11_, i64_w, i32_w]
          rfl
         refine one_ (i := 4) (N := some 38) #[true, true, true, true, true, false, false] rfl rfl (by kernel_rfl) (by decide) (fun K hK => ?_)
         refine goes_ Try.func13 (by kernel_rfl) rfl #[.string a2] (by rfl) rfl rfl z11_4 ?_
         with_reducible refine (impl_Backwards.calls a2 t311 _ A15.out).mono ?_
         rintro e w21 ⟨rfl, hb⟩
         refine ⟨_, rfl, ?_⟩
         have n0_ := Aside0.mk (blk_below (g := gb309) (o := .cells #[.int .i64 ((rd_T31 l0 a1).f0), .string ((rd_T31 l0 a1).f1), .int .i64 ((rd_T31 l0 a1).f2), .int .i64 ((rd_T31 l0 a1).f3)] 31 (0, 0)) (bd11_ BK309.out) hb)
         have n1_ := Aside0.mk (below_step z11_0 hb)
         clear BK309
         clear HB
         have BK309 := n0_
         have HB := n1_
         clear n0_ n1_
         (try clear hb)
         (try clear hb2)
         (try clear hk)
         (try clear hi)
         refine hK.out _ _ ⟨(blk_cell BK309.out 0).trans rfl, (blk_cell BK309.out 1).trans rfl, (blk_cell BK309.out 2).trans rfl, (blk_cell BK309.out 3).trans rfl⟩ (fun hHeld => ?_)
         clear hK K
         refine norm_ (a' := ?_) ?_ ?_
         rotate_left
         ·show Act.put _ (some 38) _ = _
          simp only [Act.put, pt11_, i64_w, i32_w]
          rfl
         refine one_ (i := 5) (N := some 39) #[true, true, true, true, true, true, false] rfl rfl (by kernel_rfl) (by decide) (fun K hK => ?_)
         refine goes_ Try.func52 (by kernel_rfl) rfl #[.slice (some ad308) l0.length c0, .int .i64 ((rd_T31 l0 a1).f2), .string t311] (by rfl) rfl rfl z11_4 ?_
         with_reducible refine (ih k (by omega) _ _ l0 ((rd_T31 l0 a1).f2) t311 t312 _ ?side1 ?side2 A16.out).mono ?_
         (case side1 => repeat (first | exact (Kd.C_below HR0.out HB.out) | (with_reducible refine Kd.C_alloc ?_ _) | (with_reducible refine Kd.C_drewN ?_ _) | (with_reducible refine Kd.C_drew ?_)))
         (case side2 => exact HC0.out)
         rintro e w22 ⟨rfl, hb⟩
         refine ⟨_, rfl, ?_⟩
         have n0_ := Aside0.mk (blk_below (g := gb309) (o := .cells #[.int .i64 ((rd_T31 l0 a1).f0), .string ((rd_T31 l0 a1).f1), .int .i64 ((rd_T31 l0 a1).f2), .int .i64 ((rd_T31 l0 a1).f3)] 31 (0, 0)) (bd11_ BK309.out) hb)
         have n1_ := Aside0.mk (below_step z11_0 hb)
         clear BK309
         clear HB
         have BK309 := n0_
         have HB := n1_
         clear n0_ n1_
         (try clear hb)
         (try clear hb2)
         (try clear hk)
         (try clear hi)
         refine hK.out _ _ ⟨(blk_cell BK309.out 0).trans rfl, (blk_cell BK309.out 1).trans rfl, (blk_cell BK309.out 2).trans rfl, (blk_cell BK309.out 3).trans rfl⟩ (fun hHeld => ?_)
         clear hK K
         refine norm_ (a' := ?_) ?_ ?_
         rotate_left
         ·show Act.put _ (some 39) _ = _
          simp only [Act.put, pt11_, i64_w, i32_w]
          rfl
         refine pure_ (i := 6) (N := some 6) (v := ?_) (a' := ?_) #[true, true, true, true, true, true, true] rfl rfl (by kernel_rfl) (fun _ _ _ h => h) (Or.inl ⟨by rfl, ?_⟩) ?_ ?_
         rotate_left
         ·intro w'
          go_simp
          with_reducible rfl
         rotate_left
         ·simp only [Act.put, pt11_, i64_w, i32_w]
          rfl
         refine done_ (by kernel_rfl) ?_
         try go_wp2
         go_ret
         exact ⟨z11_5, z11_0⟩
        ·rw [if_neg c14] at H
         have c14b0 : (((rd_T31 l0 a1).f0) == 2) = false := beq_eq_false_iff_ne.mpr c14
         have c14b1 : (((rd_T31 l0 a1).f0) != 2) = true := bne_iff_ne.mpr c14
         by_cases c23 : ((rd_T31 l0 a1).f0) = 3
         ·rw [if_pos c23] at H
          have c23b0 : (((rd_T31 l0 a1).f0) == 3) = true := beq_iff_eq.mpr c23
          have c23b1 : (((rd_T31 l0 a1).f0) != 3) = false := bne_eq_false_iff_eq.mpr c23
          clear c23
          replace H := Option.bind_eq_some_iff.mp H
          obtain ⟨t313, A240, H⟩ := H
          replace H : (some t313) = some r := H
          have A24 := Aside0.mk A240
          clear A240
          obtain rfl := Option.some.inj H
          have p308 : 0 ≤ (a1 : Int) := of_decide_eq_true z11_3
          have q308 : a1 < (l0.length : Int) := of_decide_eq_true z11_3
          obtain ⟨ad308, e308, hx308_0, hx308_1, hx308_2, hx308_3⟩ := at_T31 HR0.out a1 p308 q308
          cases e308
          replace p308 := eq_true p308
          replace q308 := eq_true q308
          go_enter Try.func52, Try.ntmps52
          go_wp2_with (first | ((with_reducible refine gate_dst (N := 7) rfl ?_); refine box_event ?hg (N := 7) ?hd (cs := #[.int .i64 0, .string (⟨#[]⟩ : ByteArray), .int .i64 0, .int .i64 0]) (t := 31) ?hr ?_; (case hd => rfl); (case hg => rfl); (case hr => first | (go_simp; done) | (go_simp; rfl)); intro gb309 hg w25 hbox hb; have n0_ := Aside0.mk (below_step z11_1 hb); have n1_ := Aside0.mk (hbox); have n2_ := Aside0.mk ((by rw [hg]; exact (below_size z11_1) : w.heap.size ≤ gb309)); have n3_ := Aside0.mk ((by rw [hg]; exact (below_size z11_1) : w.heap.size ≤ gb309)); clear HB; have HB := n0_; have BK309 := n1_; have GW309 := n2_; have GE309 := n3_; clear n0_ n1_ n2_ n3_; clear hb hbox hg; have hcz26_0 : w25.cell? ⟨gb309, 0, none⟩ = some (.int .i64 0) := (blk_cell BK309.out 0).trans rfl; have hcz26_1 : w25.cell? ⟨gb309, 1, none⟩ = some (.string (⟨#[]⟩ : ByteArray)) := (blk_cell BK309.out 1).trans rfl; have hcz26_2 : w25.cell? ⟨gb309, 2, none⟩ = some (.int .i64 0) := (blk_cell BK309.out 2).trans rfl; have hcz26_3 : w25.cell? ⟨gb309, 3, none⟩ = some (.int .i64 0) := (blk_cell BK309.out 3).trans rfl; have hfz26_0 := blk_frozen BK309.out 0; have hfz26_1 := blk_frozen BK309.out 1; have hfz26_2 := blk_frozen BK309.out 2; have hfz26_3 := blk_frozen BK309.out 3; have p310 : 0 ≤ (((rd_T31 l0 a1).f2) : Int) := of_decide_eq_true z11_3; have q310 : ((rd_T31 l0 a1).f2) < (l0.length : Int) := of_decide_eq_true z11_3; obtain ⟨ad310, e310, hx310_0, hx310_1, hx310_2, hx310_3⟩ := at_T31 HR0.out ((rd_T31 l0 a1).f2) p310 q310; obtain rfl : ad308 = ad310 := (by injection e310); have hn310_0 : ad308.block ≠ gb309 := Nat.ne_of_lt (Nat.lt_of_lt_of_le (bl11_ hx310_0) GW309.out); have hn310_1 : ad308.block ≠ gb309 := Nat.ne_of_lt (Nat.lt_of_lt_of_le (bl11_ hx310_0) GW309.out); have hn310_2 : ad308.block ≠ gb309 := Nat.ne_of_lt (Nat.lt_of_lt_of_le (bl11_ hx310_0) GW309.out); have hn310_3 : ad308.block ≠ gb309 := Nat.ne_of_lt (Nat.lt_of_lt_of_le (bl11_ hx310_0) GW309.out); replace hx310_0 := (HB.out.cell (World.block_lt_of_cell? w _ hx310_0)).trans hx310_0; replace hx310_1 := (HB.out.cell (World.block_lt_of_cell? w _ hx310_1)).trans hx310_1; replace hx310_2 := (HB.out.cell (World.block_lt_of_cell? w _ hx310_2)).trans hx310_2; replace hx310_3 := (HB.out.cell (World.block_lt_of_cell? w _ hx310_3)).trans hx310_3; replace hx310_0 := (cell_far (p := ⟨gb309, 0, none⟩) (ab11_ hn310_0) (.int .i64 ((rd_T31 l0 a1).f0))).trans hx310_0; replace hx310_1 := (cell_far (p := ⟨gb309, 0, none⟩) (ab11_ hn310_0) (.int .i64 ((rd_T31 l0 a1).f0))).trans hx310_1; replace hx310_2 := (cell_far (p := ⟨gb309, 0, none⟩) (ab11_ hn310_0) (.int .i64 ((rd_T31 l0 a1).f0))).trans hx310_2; replace hx310_3 := (cell_far (p := ⟨gb309, 0, none⟩) (ab11_ hn310_0) (.int .i64 ((rd_T31 l0 a1).f0))).trans hx310_3; replace hx310_0 := (cell_far (p := ⟨gb309, 1, none⟩) (ab11_ hn310_1) (.string ((rd_T31 l0 a1).f1))).trans hx310_0; replace hx310_1 := (cell_far (p := ⟨gb309, 1, none⟩) (ab11_ hn310_1) (.string ((rd_T31 l0 a1).f1))).trans hx310_1; replace hx310_2 := (cell_far (p := ⟨gb309, 1, none⟩) (ab11_ hn310_1) (.string ((rd_T31 l0 a1).f1))).trans hx310_2; replace hx310_3 := (cell_far (p := ⟨gb309, 1, none⟩) (ab11_ hn310_1) (.string ((rd_T31 l0 a1).f1))).trans hx310_3; replace hx310_0 := (cell_far (p := ⟨gb309, 2, none⟩) (ab11_ hn310_2) (.int .i64 ((rd_T31 l0 a1).f2))).trans hx310_0; replace hx310_1 := (cell_far (p := ⟨gb309, 2, none⟩) (ab11_ hn310_2) (.int .i64 ((rd_T31 l0 a1).f2))).trans hx310_1; replace hx310_2 := (cell_far (p := ⟨gb309, 2, none⟩) (ab11_ hn310_2) (.int .i64 ((rd_T31 l0 a1).f2))).trans hx310_2; replace hx310_3 := (cell_far (p := ⟨gb309, 2, none⟩) (ab11_ hn310_2) (.int .i64 ((rd_T31 l0 a1).f2))).trans hx310_3; replace hx310_0 := (cell_far (p := ⟨gb309, 3, none⟩) (ab11_ hn310_3) (.int .i64 ((rd_T31 l0 a1).f3))).trans hx310_0; replace hx310_1 := (cell_far (p := ⟨gb309, 3, none⟩) (ab11_ hn310_3) (.int .i64 ((rd_T31 l0 a1).f3))).trans hx310_1; replace hx310_2 := (cell_far (p := ⟨gb309, 3, none⟩) (ab11_ hn310_3) (.int .i64 ((rd_T31 l0 a1).f3))).trans hx310_2; replace hx310_3 := (cell_far (p := ⟨gb309, 3, none⟩) (ab11_ hn310_3) (.int .i64 ((rd_T31 l0 a1).f3))).trans hx310_3; clear hn310_0; clear hn310_1; clear hn310_2; clear hn310_3; replace p310 := eq_true p310; replace q310 := eq_true q310) | ((with_reducible refine gate_callee (f := 14) rfl ?_); refine goesL_ (some 44) rfl rfl Try.func14 (by kernel_rfl) rfl #[.string ((rd_T31 l0 ((rd_T31 l0 a1).f2)).f1), .string a2] rfl z11_4 ?_; (with_reducible refine (impl_IsRearranged.calls k ((rd_T31 l0 ((rd_T31 l0 a1).f2)).f1) a2 t313 _ A24.out).mono ?_); rintro e w27 ⟨rfl, hb⟩; refine ⟨_, rfl, ?_⟩; have n0_ := Aside0.mk (blk_below (g := gb309) (o := .cells #[.int .i64 ((rd_T31 l0 a1).f0), .string ((rd_T31 l0 a1).f1), .int .i64 ((rd_T31 l0 a1).f2), .int .i64 ((rd_T31 l0 a1).f3)] 31 (0, 0)) z11_2 hb); have n1_ := Aside0.mk (below_step z11_0 hb); clear BK309; clear HB; have BK309 := n0_; have HB := n1_; clear n0_ n1_; (try clear hb); (try clear hb2); (try clear hk); (try clear hi)))
          go_ret
          exact ⟨z11_5, z11_0⟩
         ·rw [if_neg c23] at H
          have c23b0 : (((rd_T31 l0 a1).f0) == 3) = false := beq_eq_false_iff_ne.mpr c23
          have c23b1 : (((rd_T31 l0 a1).f0) != 3) = true := bne_iff_ne.mpr c23
          by_cases c28 : ((rd_T31 l0 a1).f0) = 4
          ·rw [if_pos c28] at H
           have c28b0 : (((rd_T31 l0 a1).f0) == 4) = true := beq_iff_eq.mpr c28
           have c28b1 : (((rd_T31 l0 a1).f0) != 4) = false := bne_eq_false_iff_eq.mpr c28
           clear c28
           have H' := Aside0.mk H
           clear H
           have p308 : 0 ≤ (a1 : Int) := of_decide_eq_true z11_3
           have q308 : a1 < (l0.length : Int) := of_decide_eq_true z11_3
           obtain ⟨ad308, e308, hx308_0, hx308_1, hx308_2, hx308_3⟩ := at_T31 HR0.out a1 p308 q308
           cases e308
           replace p308 := eq_true p308
           replace q308 := eq_true q308
           go_enter Try.func52, Try.ntmps52
           go_wp2_with (first | ((with_reducible refine gate_dst (N := 7) rfl ?_); refine box_event ?hg (N := 7) ?hd (cs := #[.int .i64 0, .string (⟨#[]⟩ : ByteArray), .int .i64 0, .int .i64 0]) (t := 31) ?hr ?_; (case hd => rfl); (case hg => rfl); (case hr => first | (go_simp; done) | (go_simp; rfl)); intro gb309 hg w29 hbox hb; have n0_ := Aside0.mk (below_step z11_1 hb); have n1_ := Aside0.mk (hbox); have n2_ := Aside0.mk ((by rw [hg]; exact (below_size z11_1) : w.heap.size ≤ gb309)); have n3_ := Aside0.mk ((by rw [hg]; exact (below_size z11_1) : w.heap.size ≤ gb309)); clear HB; have HB := n0_; have BK309 := n1_; have GW309 := n2_; have GE309 := n3_; clear n0_ n1_ n2_ n3_; clear hb hbox hg; have hcz30_0 : w29.cell? ⟨gb309, 0, none⟩ = some (.int .i64 0) := (blk_cell BK309.out 0).trans rfl; have hcz30_1 : w29.cell? ⟨gb309, 1, none⟩ = some (.string (⟨#[]⟩ : ByteArray)) := (blk_cell BK309.out 1).trans rfl; have hcz30_2 : w29.cell? ⟨gb309, 2, none⟩ = some (.int .i64 0) := (blk_cell BK309.out 2).trans rfl; have hcz30_3 : w29.cell? ⟨gb309, 3, none⟩ = some (.int .i64 0) := (blk_cell BK309.out 3).trans rfl; have hfz30_0 := blk_frozen BK309.out 0; have hfz30_1 := blk_frozen BK309.out 1; have hfz30_2 := blk_frozen BK309.out 2; have hfz30_3 := blk_frozen BK309.out 3; have p310 : 0 ≤ (((rd_T31 l0 a1).f2) : Int) := of_decide_eq_true z11_3; have q310 : ((rd_T31 l0 a1).f2) < (l0.length : Int) := of_decide_eq_true z11_3; obtain ⟨ad310, e310, hx310_0, hx310_1, hx310_2, hx310_3⟩ := at_T31 HR0.out ((rd_T31 l0 a1).f2) p310 q310; obtain rfl : ad308 = ad310 := (by injection e310); have hn310_0 : ad308.block ≠ gb309 := Nat.ne_of_lt (Nat.lt_of_lt_of_le (bl11_ hx310_0) GW309.out); have hn310_1 : ad308.block ≠ gb309 := Nat.ne_of_lt (Nat.lt_of_lt_of_le (bl11_ hx310_0) GW309.out); have hn310_2 : ad308.block ≠ gb309 := Nat.ne_of_lt (Nat.lt_of_lt_of_le (bl11_ hx310_0) GW309.out); have hn310_3 : ad308.block ≠ gb309 := Nat.ne_of_lt (Nat.lt_of_lt_of_le (bl11_ hx310_0) GW309.out); replace hx310_0 := (HB.out.cell (World.block_lt_of_cell? w _ hx310_0)).trans hx310_0; replace hx310_1 := (HB.out.cell (World.block_lt_of_cell? w _ hx310_1)).trans hx310_1; replace hx310_2 := (HB.out.cell (World.block_lt_of_cell? w _ hx310_2)).trans hx310_2; replace hx310_3 := (HB.out.cell (World.block_lt_of_cell? w _ hx310_3)).trans hx310_3; replace hx310_0 := (cell_far (p := ⟨gb309, 0, none⟩) (ab11_ hn310_0) (.int .i64 ((rd_T31 l0 a1).f0))).trans hx310_0; replace hx310_1 := (cell_far (p := ⟨gb309, 0, none⟩) (ab11_ hn310_0) (.int .i64 ((rd_T31 l0 a1).f0))).trans hx310_1; replace hx310_2 := (cell_far (p := ⟨gb309, 0, none⟩) (ab11_ hn310_0) (.int .i64 ((rd_T31 l0 a1).f0))).trans hx310_2; replace hx310_3 := (cell_far (p := ⟨gb309, 0, none⟩) (ab11_ hn310_0) (.int .i64 ((rd_T31 l0 a1).f0))).trans hx310_3; replace hx310_0 := (cell_far (p := ⟨gb309, 1, none⟩) (ab11_ hn310_1) (.string ((rd_T31 l0 a1).f1))).trans hx310_0; replace hx310_1 := (cell_far (p := ⟨gb309, 1, none⟩) (ab11_ hn310_1) (.string ((rd_T31 l0 a1).f1))).trans hx310_1; replace hx310_2 := (cell_far (p := ⟨gb309, 1, none⟩) (ab11_ hn310_1) (.string ((rd_T31 l0 a1).f1))).trans hx310_2; replace hx310_3 := (cell_far (p := ⟨gb309, 1, none⟩) (ab11_ hn310_1) (.string ((rd_T31 l0 a1).f1))).trans hx310_3; replace hx310_0 := (cell_far (p := ⟨gb309, 2, none⟩) (ab11_ hn310_2) (.int .i64 ((rd_T31 l0 a1).f2))).trans hx310_0; replace hx310_1 := (cell_far (p := ⟨gb309, 2, none⟩) (ab11_ hn310_2) (.int .i64 ((rd_T31 l0 a1).f2))).trans hx310_1; replace hx310_2 := (cell_far (p := ⟨gb309, 2, none⟩) (ab11_ hn310_2) (.int .i64 ((rd_T31 l0 a1).f2))).trans hx310_2; replace hx310_3 := (cell_far (p := ⟨gb309, 2, none⟩) (ab11_ hn310_2) (.int .i64 ((rd_T31 l0 a1).f2))).trans hx310_3; replace hx310_0 := (cell_far (p := ⟨gb309, 3, none⟩) (ab11_ hn310_3) (.int .i64 ((rd_T31 l0 a1).f3))).trans hx310_0; replace hx310_1 := (cell_far (p := ⟨gb309, 3, none⟩) (ab11_ hn310_3) (.int .i64 ((rd_T31 l0 a1).f3))).trans hx310_1; replace hx310_2 := (cell_far (p := ⟨gb309, 3, none⟩) (ab11_ hn310_3) (.int .i64 ((rd_T31 l0 a1).f3))).trans hx310_2; replace hx310_3 := (cell_far (p := ⟨gb309, 3, none⟩) (ab11_ hn310_3) (.int .i64 ((rd_T31 l0 a1).f3))).trans hx310_3; clear hn310_0; clear hn310_1; clear hn310_2; clear hn310_3; replace p310 := eq_true p310; replace q310 := eq_true q310))
           go_loopg [9] k (fun kq v9 w' => ∃ (x9_1 : Int), v9 = .int .i64 x9_1 ∧ Aside0 (impl_makes.l0 kq l0 a2 x9_1 ((rd_T31 l0 a1).f0) ((rd_T31 l0 a1).f1) ((rd_T31 l0 a1).f2) ((rd_T31 l0 a1).f3) = some r) ∧ Aside0 (kq ≤ k) ∧ Aside0 (w'.heap[gb309]? = some (.cells #[.int .i64 ((rd_T31 l0 a1).f0), .string ((rd_T31 l0 a1).f1), .int .i64 ((rd_T31 l0 a1).f2), .int .i64 ((rd_T31 l0 a1).f3)] 31 (0, 0))) ∧ Aside0 (Below w.heap.size w w'))
           case atStart => exact ⟨(1), (by first | rfl | (simp; done) | (simp [*]; done)), H', ⟨Nat.le_refl _⟩, ⟨z11_2⟩, ⟨z11_0⟩⟩
           case round =>
            clear H'
            try clear c1
            try clear c2
            try clear p2
            try clear p3
            try clear q3
            try clear hx3
            try clear c4
            try clear c4b0
            try clear c5
            try clear c5b0
            try clear c6
            try clear c6b0
            try clear c6b1
            try clear c9
            try clear c9b0
            try clear c10
            try clear c10b0
            try clear c11
            try clear c11b0
            try clear c11b1
            try clear c13
            try clear c14
            try clear c14b0
            try clear c14b1
            try clear c23
            try clear c23b0
            try clear c23b1
            try clear c28
            try clear c28b0
            try clear c28b1
            try clear p30
            try clear q30
            try clear hx30
            try clear hcz13_0
            try clear hcz13_1
            try clear hcz13_2
            try clear hcz13_3
            try clear hcz18_0
            try clear hcz18_1
            try clear hcz18_2
            try clear hcz18_3
            try clear hcz26_0
            try clear hcz26_1
            try clear hcz26_2
            try clear hcz26_3
            try clear hcz30_0
            try clear hcz30_1
            try clear hcz30_2
            try clear hcz30_3
            try clear hcz8_0
            try clear hcz8_1
            try clear hcz8_2
            try clear hcz8_3
            try clear hfz13_0
            try clear hfz13_1
            try clear hfz13_2
            try clear hfz13_3
            try clear hfz18_0
            try clear hfz18_1
            try clear hfz18_2
            try clear hfz18_3
            try clear hfz26_0
            try clear hfz26_1
            try clear hfz26_2
            try clear hfz26_3
            try clear hfz30_0
            try clear hfz30_1
            try clear hfz30_2
            try clear hfz30_3
            try clear hfz8_0
            try clear hfz8_1
            try clear hfz8_2
            try clear hfz8_3
            try clear hx308_0
            try clear hx308_1
            try clear hx308_2
            try clear hx308_3
            try clear hx310_0
            try clear hx310_1
            try clear hx310_2
            try clear hx310_3
            try clear p308
            try clear p310
            try clear q308
            try clear q310
            obtain ⟨x9_1, rfl, HA, HK1, BK309, HB⟩ := hrel
            cases gk with
            | zero => exact absurd HA.out (by simp [impl_makes.l0])
            | succ k1 =>
             have H := HA.out
             clear HA
             simp only [impl_makes.l0] at H
             by_cases c31 : x9_1 < (a2.size : Int)
             ·rw [if_pos c31] at H
              have c31b0 : decide (x9_1 < (a2.size : Int)) = true := decide_eq_true c31
              clear c31
              by_cases c32 : 0 ≤ x9_1
              ·rw [if_pos c32] at H
               have c32b0 := eq_true c32
               have c32b1 : decide (0 ≤ x9_1) = true := decide_eq_true c32
               clear c32
               by_cases c33 : x9_1 ≤ (a2.size : Int)
               ·rw [if_pos c33] at H
                have c33b0 := eq_true c33
                have c33b1 : decide (x9_1 ≤ (a2.size : Int)) = true := decide_eq_true c33
                clear c33
                replace H := Option.bind_eq_some_iff.mp H
                obtain ⟨t314, A340, H⟩ := H
                replace H : (if t314 = true then ((impl_makes.f k1 l0 ((rd_T31 l0 a1).f3) (a2.extract (x9_1 : Int).toNat a2.size)).bind fun t315 => (if t315 = true then (some true) else (impl_makes.l0 k1 l0 a2 (wrap64 (x9_1 + 1)) ((rd_T31 l0 a1).f0) ((rd_T31 l0 a1).f1) ((rd_T31 l0 a1).f2) ((rd_T31 l0 a1).f3)))) else (impl_makes.l0 k1 l0 a2 (wrap64 (x9_1 + 1)) ((rd_T31 l0 a1).f0) ((rd_T31 l0 a1).f1) ((rd_T31 l0 a1).f2) ((rd_T31 l0 a1).f3))) = some r := H
                have A34 := Aside0.mk A340
                clear A340
                by_cases c35 : t314 = true
                ·subst c35
                 have H1 : ((impl_makes.f k1 l0 ((rd_T31 l0 a1).f3) (a2.extract (x9_1 : Int).toNat a2.size)).bind fun t315 => (if t315 = true then (some true) else (impl_makes.l0 k1 l0 a2 (wrap64 (x9_1 + 1)) ((rd_T31 l0 a1).f0) ((rd_T31 l0 a1).f1) ((rd_T31 l0 a1).f2) ((rd_T31 l0 a1).f3)))) = some r := by rw [if_pos rfl] at H; exact H
                 clear H
                 have H := H1
                 clear H1
                 have c36b0 := eq_true (of_decide_eq_true z11_3 : 0 ≤ x9_1)
                 have c37b0 := eq_true (of_decide_eq_true z11_3 : x9_1 ≤ (a2.size : Int))
                 replace H := Option.bind_eq_some_iff.mp H
                 obtain ⟨t315, A380, H⟩ := H
                 replace H : (if t315 = true then (some true) else (impl_makes.l0 k1 l0 a2 (wrap64 (x9_1 + 1)) ((rd_T31 l0 a1).f0) ((rd_T31 l0 a1).f1) ((rd_T31 l0 a1).f2) ((rd_T31 l0 a1).f3))) = some r := H
                 have A38 := Aside0.mk A380
                 clear A380
                 by_cases c39 : t315 = true
                 ·subst c39
                  have H1 : (some true) = some r := by rw [if_pos rfl] at H; exact H
                  clear H
                  have H := H1
                  clear H1
                  obtain rfl := Option.some.inj H
                  try go_wp2
                  have n0_ := Aside0.mk (blk_drew BK309.out)
                  have n1_ := Aside0.mk (below_drew1 HB.out)
                  clear BK309
                  clear HB
                  have BK309 := n0_
                  have HB := n1_
                  clear n0_ n1_
                  refine start_ (n := 16) (S := fun w' => w'.cell? ⟨gb309, 0, none⟩ = some (.int .i64 ((rd_T31 l0 a1).f0)) ∧ w'.cell? ⟨gb309, 1, none⟩ = some (.string ((rd_T31 l0 a1).f1)) ∧ w'.cell? ⟨gb309, 2, none⟩ = some (.int .i64 ((rd_T31 l0 a1).f2)) ∧ w'.cell? ⟨gb309, 3, none⟩ = some (.int .i64 ((rd_T31 l0 a1).f3))) (ds := []) #[false, false, false, false, false, false, false, false, false, false, false, false, false, false, false, false] (by kernel_rfl) rfl rfl ⟨(blk_cell BK309.out 0).trans rfl, (blk_cell BK309.out 1).trans rfl, (blk_cell BK309.out 2).trans rfl, (blk_cell BK309.out 3).trans rfl⟩ (fun hHeld => ?_); refine with_tabW impl_makes.tab16 impl_makes.bits16 (fun HT_ HW_ => ?_)
                  generalize wr.drew = w40 at BK309 HB hHeld ⊢
                  refine pure_ (i := 0) (N := some 53) (v := ?_) (a' := ?_) #[true, false, false, false, false, false, false, false, false, false, false, false, false, false, false, false] rfl rfl (any_of HT_.out (by kernel_rfl)) (fun _ _ _ h => h) (Or.inl ⟨by rfl, ?_⟩) ?_ ?_
                  rotate_left
                  ·intro w'
                   go_simp
                   with_reducible rfl
                  rotate_left
                  ·simp only [Act.put, pt11_, i64_w, i32_w]
                   rfl
                  refine pure_ (i := 1) (N := some 54) (v := ?_) (a' := ?_) #[true, true, false, false, false, false, false, false, false, false, false, false, false, false, false, false] rfl rfl (any_of HT_.out (by kernel_rfl)) (fun _ _ _ h => h) (Or.inl ⟨by rfl, ?_⟩) ?_ ?_
                  rotate_left
                  ·intro w'
                   go_simp
                   with_reducible rfl
                  rotate_left
                  ·simp only [Act.put, pt11_, i64_w, i32_w]
                   rfl
                  refine pure_ (i := 3) (N := some 56) (v := ?_) (a' := ?_) #[true, true, false, true, false, false, false, false, false, false, false, false, false, false, false, false] rfl rfl (any_of HT_.out (by kernel_rfl)) (fun _ _ _ h => h) (Or.inl ⟨by rfl, ?_⟩) ?_ ?_
                  rotate_left
                  ·intro w'
                   go_simp
                   with_reducible rfl
                  rotate_left
                  ·simp only [Act.put, pt11_, i64_w, i32_w]
                   rfl
                  refine pure_ (i := 4) (N := some 57) (v := ?_) (a' := ?_) #[true, true, false, true, true, false, false, false, false, false, false, false, false, false, false, false] rfl rfl (any_of HT_.out (by kernel_rfl)) (fun _ _ _ h => h) (Or.inl ⟨by rfl, ?_⟩) ?_ ?_
                  rotate_left
                  ·intro w'
                   go_simp
                   with_reducible rfl
                  rotate_left
                  ·simp only [Act.put, pt11_, i64_w, i32_w]
                   rfl
                  refine pure_ (i := 5) (N := some 58) (v := ?_) (a' := ?_) #[true, true, false, true, true, true, false, false, false, false, false, false, false, false, false, false] rfl rfl (any_of HT_.out (by kernel_rfl)) (fun _ _ _ h => h) (Or.inl ⟨by rfl, ?_⟩) ?_ ?_
                  rotate_left
                  ·intro w'
                   go_simp
                   with_reducible rfl
                  rotate_left
                  ·simp only [Act.put, pt11_, i64_w, i32_w]
                   rfl
                  refine take_ (i := 2) (N := some 55) (v := ?_) (a' := ?_) #[true, true, true, true, true, true, false, false, false, false, false, false, false, false, false, false] rfl rfl (take_ofW HT_.out HW_.out (by kernel_rfl)) (fun _ _ _ h => h) (Or.inl ⟨by rfl, ?_⟩) hHeld ?_ ?_
                  rotate_left
                  ·rintro w' ⟨s0, s1, s2, s3⟩
                   go_simp
                   with_reducible rfl
                  rotate_left
                  ·simp only [Act.put, pt11_, i64_w, i32_w]
                   rfl
                  refine one_ (i := 6) (N := some 59) #[true, true, true, true, true, true, true, false, false, false, false, false, false, false, false, false] rfl rfl (one_of HT_.out (by kernel_rfl)) (by decide) (fun K hK => ?_)
                  refine goes_ Try.func52 (by kernel_rfl) rfl #[.slice (some ad308) l0.length c0, .int .i64 ((rd_T31 l0 a1).f2), .string (a2.extract 0 (x9_1 : Int).toNat)] (by rfl) rfl rfl z11_4 ?_
                  with_reducible refine (ih k1 (by have := HK1.out; omega) _ _ l0 ((rd_T31 l0 a1).f2) (a2.extract 0 (x9_1 : Int).toNat) true _ ?side1 ?side2 A34.out).mono ?_
                  (case side1 => repeat (first | exact (Kd.C_below HR0.out HB.out) | (with_reducible refine Kd.C_alloc ?_ _) | (with_reducible refine Kd.C_drewN ?_ _) | (with_reducible refine Kd.C_drew ?_)))
                  (case side2 => exact HC0.out)
                  rintro e w41 ⟨rfl, hb⟩
                  refine ⟨_, rfl, ?_⟩
                  have n0_ := Aside0.mk (blk_below (g := gb309) (o := .cells #[.int .i64 ((rd_T31 l0 a1).f0), .string ((rd_T31 l0 a1).f1), .int .i64 ((rd_T31 l0 a1).f2), .int .i64 ((rd_T31 l0 a1).f3)] 31 (0, 0)) (bd11_ BK309.out) hb)
                  have n1_ := Aside0.mk (below_step z11_0 hb)
                  clear BK309
                  clear HB
                  have BK309 := n0_
                  have HB := n1_
                  clear n0_ n1_
                  (try clear hb)
                  (try clear hb2)
                  (try clear hk)
                  (try clear hi)
                  refine hK.out _ _ ⟨(blk_cell BK309.out 0).trans rfl, (blk_cell BK309.out 1).trans rfl, (blk_cell BK309.out 2).trans rfl, (blk_cell BK309.out 3).trans rfl⟩ (fun hHeld => ?_)
                  clear hK K
                  refine norm_ (a' := ?_) ?_ ?_
                  rotate_left
                  ·show Act.put _ (some 59) _ = _
                   simp only [Act.put, pt11_, i64_w, i32_w]
                   rfl
                  refine pure_ (i := 7) (N := some 60) (v := ?_) (a' := ?_) #[true, true, true, true, true, true, true, true, false, false, false, false, false, false, false, false] rfl rfl (any_of HT_.out (by kernel_rfl)) (fun _ _ _ h => h) (Or.inl ⟨by rfl, ?_⟩) ?_ ?_
                  rotate_left
                  ·intro w'
                   go_simp
                   with_reducible rfl
                  rotate_left
                  ·simp only [Act.put, pt11_, i64_w, i32_w]
                   rfl
                  refine pure_ (i := 8) (N := some 61) (v := ?_) (a' := ?_) #[true, true, true, true, true, true, true, true, true, false, false, false, false, false, false, false] rfl rfl (any_of HT_.out (by kernel_rfl)) (fun _ _ _ h => h) (Or.inl ⟨by rfl, ?_⟩) ?_ ?_
                  rotate_left
                  ·intro w'
                   go_simp
                   with_reducible rfl
                  rotate_left
                  ·simp only [Act.put, pt11_, i64_w, i32_w]
                   rfl
                  refine pure_ (i := 9) (N := some 62) (v := ?_) (a' := ?_) #[true, true, true, true, true, true, true, true, true, true, false, false, false, false, false, false] rfl rfl (any_of HT_.out (by kernel_rfl)) (fun _ _ _ h => h) (Or.inl ⟨by rfl, ?_⟩) ?_ ?_
                  rotate_left
                  ·intro w'
                   go_simp
                   with_reducible rfl
                  rotate_left
                  ·simp only [Act.put, pt11_, i64_w, i32_w]
                   rfl
                  refine pure_ (i := 11) (N := some 64) (v := ?_) (a' := ?_) #[true, true, true, true, true, true, true, true, true, true, false, true, false, false, false, false] rfl rfl (any_of HT_.out (by kernel_rfl)) (fun _ _ _ h => h) (Or.inl ⟨by rfl, ?_⟩) ?_ ?_
                  rotate_left
                  ·intro w'
                   go_simp
                   with_reducible rfl
                  rotate_left
                  ·simp only [Act.put, pt11_, i64_w, i32_w]
                   rfl
                  refine pure_ (i := 12) (N := some 65) (v := ?_) (a' := ?_) #[true, true, true, true, true, true, true, true, true, true, false, true, true, false, false, false] rfl rfl (any_of HT_.out (by kernel_rfl)) (fun _ _ _ h => h) (Or.inl ⟨by rfl, ?_⟩) ?_ ?_
                  rotate_left
                  ·intro w'
                   go_simp
                   with_reducible rfl
                  rotate_left
                  ·simp only [Act.put, pt11_, i64_w, i32_w]
                   rfl
                  refine pure_ (i := 13) (N := some 66) (v := ?_) (a' := ?_) #[true, true, true, true, true, true, true, true, true, true, false, true, true, true, false, false] rfl rfl (any_of HT_.out (by kernel_rfl)) (fun _ _ _ h => h) (Or.inl ⟨by rfl, ?_⟩) ?_ ?_
                  rotate_left
                  ·intro w'
                   go_simp
                   with_reducible rfl
                  rotate_left
                  ·simp only [Act.put, pt11_, i64_w, i32_w]
                   rfl
                  refine take_ (i := 10) (N := some 63) (v := ?_) (a' := ?_) #[true, true, true, true, true, true, true, true, true, true, true, true, true, true, false, false] rfl rfl (take_ofW HT_.out HW_.out (by kernel_rfl)) (fun _ _ _ h => h) (Or.inl ⟨by rfl, ?_⟩) hHeld ?_ ?_
                  rotate_left
                  ·rintro w' ⟨s0, s1, s2, s3⟩
                   go_simp
                   with_reducible rfl
                  rotate_left
                  ·simp only [Act.put, pt11_, i64_w, i32_w]
                   rfl
                  refine one_ (i := 14) (N := some 67) #[true, true, true, true, true, true, true, true, true, true, true, true, true, true, true, false] rfl rfl (one_of HT_.out (by kernel_rfl)) (by decide) (fun K hK => ?_)
                  refine goes_ Try.func52 (by kernel_rfl) rfl #[.slice (some ad308) l0.length c0, .int .i64 ((rd_T31 l0 a1).f3), .string (a2.extract (x9_1 : Int).toNat a2.size)] (by rfl) rfl rfl z11_4 ?_
                  with_reducible refine (ih k1 (by have := HK1.out; omega) _ _ l0 ((rd_T31 l0 a1).f3) (a2.extract (x9_1 : Int).toNat a2.size) true _ ?side1 ?side2 A38.out).mono ?_
                  (case side1 => repeat (first | exact (Kd.C_below HR0.out HB.out) | (with_reducible refine Kd.C_alloc ?_ _) | (with_reducible refine Kd.C_drewN ?_ _) | (with_reducible refine Kd.C_drew ?_)))
                  (case side2 => exact HC0.out)
                  rintro e w42 ⟨rfl, hb⟩
                  refine ⟨_, rfl, ?_⟩
                  have n0_ := Aside0.mk (blk_below (g := gb309) (o := .cells #[.int .i64 ((rd_T31 l0 a1).f0), .string ((rd_T31 l0 a1).f1), .int .i64 ((rd_T31 l0 a1).f2), .int .i64 ((rd_T31 l0 a1).f3)] 31 (0, 0)) (bd11_ BK309.out) hb)
                  have n1_ := Aside0.mk (below_step z11_0 hb)
                  clear BK309
                  clear HB
                  have BK309 := n0_
                  have HB := n1_
                  clear n0_ n1_
                  (try clear hb)
                  (try clear hb2)
                  (try clear hk)
                  (try clear hi)
                  refine hK.out _ _ ⟨(blk_cell BK309.out 0).trans rfl, (blk_cell BK309.out 1).trans rfl, (blk_cell BK309.out 2).trans rfl, (blk_cell BK309.out 3).trans rfl⟩ (fun hHeld => ?_)
                  clear hK K
                  refine norm_ (a' := ?_) ?_ ?_
                  rotate_left
                  ·show Act.put _ (some 67) _ = _
                   simp only [Act.put, pt11_, i64_w, i32_w]
                   rfl
                  refine pure_ (i := 15) (N := some 68) (v := ?_) (a' := ?_) #[true, true, true, true, true, true, true, true, true, true, true, true, true, true, true, true] rfl rfl (any_of HT_.out (by kernel_rfl)) (fun _ _ _ h => h) (Or.inl ⟨by rfl, ?_⟩) ?_ ?_
                  rotate_left
                  ·intro w'
                   go_simp
                   with_reducible rfl
                  rotate_left
                  ·simp only [Act.put, pt11_, i64_w, i32_w]
                   rfl
                  refine done_ (done_of HT_.out (by kernel_rfl)) ?_
                  try go_wp2
                  go_ret
                  exact ⟨z11_5, z11_0⟩
                 ·replace c39 := Bool.eq_false_iff.mpr c39
                  subst c39
                  have H1 : (impl_makes.l0 k1 l0 a2 (wrap64 (x9_1 + 1)) ((rd_T31 l0 a1).f0) ((rd_T31 l0 a1).f1) ((rd_T31 l0 a1).f2) ((rd_T31 l0 a1).f3)) = some r := by rw [if_neg (show ¬ (false = true) by decide)] at H; exact H
                  clear H
                  have H := H1
                  clear H1
                  have H' := Aside0.mk H
                  clear H
                  try go_wp2
                  have n0_ := Aside0.mk (blk_drew BK309.out)
                  have n1_ := Aside0.mk (below_drew1 HB.out)
                  clear BK309
                  clear HB
                  have BK309 := n0_
                  have HB := n1_
                  clear n0_ n1_
                  refine start_ (n := 16) (S := fun w' => w'.cell? ⟨gb309, 0, none⟩ = some (.int .i64 ((rd_T31 l0 a1).f0)) ∧ w'.cell? ⟨gb309, 1, none⟩ = some (.string ((rd_T31 l0 a1).f1)) ∧ w'.cell? ⟨gb309, 2, none⟩ = some (.int .i64 ((rd_T31 l0 a1).f2)) ∧ w'.cell? ⟨gb309, 3, none⟩ = some (.int .i64 ((rd_T31 l0 a1).f3))) (ds := []) #[false, false, false, false, false, false, false, false, false, false, false, false, false, false, false, false] (by kernel_rfl) rfl rfl ⟨(blk_cell BK309.out 0).trans rfl, (blk_cell BK309.out 1).trans rfl, (blk_cell BK309.out 2).trans rfl, (blk_cell BK309.out 3).trans rfl⟩ (fun hHeld => ?_); refine with_tabW impl_makes.tab16 impl_makes.bits16 (fun HT_ HW_ => ?_)
                  generalize wr.drew = w43 at BK309 HB hHeld ⊢
                  refine pure_ (i := 0) (N := some 53) (v := ?_) (a' := ?_) #[true, false, false, false, false, false, false, false, false, false, false, false, false, false, false, false] rfl rfl (any_of HT_.out (by kernel_rfl)) (fun _ _ _ h => h) (Or.inl ⟨by rfl, ?_⟩) ?_ ?_
                  rotate_left
                  ·intro w'
                   go_simp
                   with_reducible rfl
                  rotate_left
                  ·simp only [Act.put, pt11_, i64_w, i32_w]
                   rfl
                  refine pure_ (i := 1) (N := some 54) (v := ?_) (a' := ?_) #[true, true, false, false, false, false, false, false, false, false, false, false, false, false, false, false] rfl rfl (any_of HT_.out (by kernel_rfl)) (fun _ _ _ h => h) (Or.inl ⟨by rfl, ?_⟩) ?_ ?_
                  rotate_left
                  ·intro w'
                   go_simp
                   with_reducible rfl
                  rotate_left
                  ·simp only [Act.put, pt11_, i64_w, i32_w]
                   rfl
                  refine pure_ (i := 3) (N := some 56) (v := ?_) (a' := ?_) #[true, true, false, true, false, false, false, false, false, false, false, false, false, false, false, false] rfl rfl (any_of HT_.out (by kernel_rfl)) (fun _ _ _ h => h) (Or.inl ⟨by rfl, ?_⟩) ?_ ?_
                  rotate_left
                  ·intro w'
                   go_simp
                   with_reducible rfl
                  rotate_left
                  ·simp only [Act.put, pt11_, i64_w, i32_w]
                   rfl
                  refine pure_ (i := 4) (N := some 57) (v := ?_) (a' := ?_) #[true, true, false, true, true, false, false, false, false, false, false, false, false, false, false, false] rfl rfl (any_of HT_.out (by kernel_rfl)) (fun _ _ _ h => h) (Or.inl ⟨by rfl, ?_⟩) ?_ ?_
                  rotate_left
                  ·intro w'
                   go_simp
                   with_reducible rfl
                  rotate_left
                  ·simp only [Act.put, pt11_, i64_w, i32_w]
                   rfl
                  refine pure_ (i := 5) (N := some 58) (v := ?_) (a' := ?_) #[true, true, false, true, true, true, false, false, false, false, false, false, false, false, false, false] rfl rfl (any_of HT_.out (by kernel_rfl)) (fun _ _ _ h => h) (Or.inl ⟨by rfl, ?_⟩) ?_ ?_
                  rotate_left
                  ·intro w'
                   go_simp
                   with_reducible rfl
                  rotate_left
                  ·simp only [Act.put, pt11_, i64_w, i32_w]
                   rfl
                  refine take_ (i := 2) (N := some 55) (v := ?_) (a' := ?_) #[true, true, true, true, true, true, false, false, false, false, false, false, false, false, false, false] rfl rfl (take_ofW HT_.out HW_.out (by kernel_rfl)) (fun _ _ _ h => h) (Or.inl ⟨by rfl, ?_⟩) hHeld ?_ ?_
                  rotate_left
                  ·rintro w' ⟨s0, s1, s2, s3⟩
                   go_simp
                   with_reducible rfl
                  rotate_left
                  ·simp only [Act.put, pt11_, i64_w, i32_w]
                   rfl
                  refine one_ (i := 6) (N := some 59) #[true, true, true, true, true, true, true, false, false, false, false, false, false, false, false, false] rfl rfl (one_of HT_.out (by kernel_rfl)) (by decide) (fun K hK => ?_)
                  refine goes_ Try.func52 (by kernel_rfl) rfl #[.slice (some ad308) l0.length c0, .int .i64 ((rd_T31 l0 a1).f2), .string (a2.extract 0 (x9_1 : Int).toNat)] (by rfl) rfl rfl z11_4 ?_
                  with_reducible refine (ih k1 (by have := HK1.out; omega) _ _ l0 ((rd_T31 l0 a1).f2) (a2.extract 0 (x9_1 : Int).toNat) true _ ?side1 ?side2 A34.out).mono ?_
                  (case side1 => repeat (first | exact (Kd.C_below HR0.out HB.out) | (with_reducible refine Kd.C_alloc ?_ _) | (with_reducible refine Kd.C_drewN ?_ _) | (with_reducible refine Kd.C_drew ?_)))
                  (case side2 => exact HC0.out)
                  rintro e w44 ⟨rfl, hb⟩
                  refine ⟨_, rfl, ?_⟩
                  have n0_ := Aside0.mk (blk_below (g := gb309) (o := .cells #[.int .i64 ((rd_T31 l0 a1).f0), .string ((rd_T31 l0 a1).f1), .int .i64 ((rd_T31 l0 a1).f2), .int .i64 ((rd_T31 l0 a1).f3)] 31 (0, 0)) (bd11_ BK309.out) hb)
                  have n1_ := Aside0.mk (below_step z11_0 hb)
                  clear BK309
                  clear HB
                  have BK309 := n0_
                  have HB := n1_
                  clear n0_ n1_
                  (try clear hb)
                  (try clear hb2)
                  (try clear hk)
                  (try clear hi)
                  refine hK.out _ _ ⟨(blk_cell BK309.out 0).trans rfl, (blk_cell BK309.out 1).trans rfl, (blk_cell BK309.out 2).trans rfl, (blk_cell BK309.out 3).trans rfl⟩ (fun hHeld => ?_)
                  clear hK K
                  refine norm_ (a' := ?_) ?_ ?_
                  rotate_left
                  ·show Act.put _ (some 59) _ = _
                   simp only [Act.put, pt11_, i64_w, i32_w]
                   rfl
                  refine pure_ (i := 7) (N := some 60) (v := ?_) (a' := ?_) #[true, true, true, true, true, true, true, true, false, false, false, false, false, false, false, false] rfl rfl (any_of HT_.out (by kernel_rfl)) (fun _ _ _ h => h) (Or.inl ⟨by rfl, ?_⟩) ?_ ?_
                  rotate_left
                  ·intro w'
                   go_simp
                   with_reducible rfl
                  rotate_left
                  ·simp only [Act.put, pt11_, i64_w, i32_w]
                   rfl
                  refine pure_ (i := 8) (N := some 61) (v := ?_) (a' := ?_) #[true, true, true, true, true, true, true, true, true, false, false, false, false, false, false, false] rfl rfl (any_of HT_.out (by kernel_rfl)) (fun _ _ _ h => h) (Or.inl ⟨by rfl, ?_⟩) ?_ ?_
                  rotate_left
                  ·intro w'
                   go_simp
                   with_reducible rfl
                  rotate_left
                  ·simp only [Act.put, pt11_, i64_w, i32_w]
                   rfl
                  refine pure_ (i := 9) (N := some 62) (v := ?_) (a' := ?_) #[true, true, true, true, true, true, true, true, true, true, false, false, false, false, false, false] rfl rfl (any_of HT_.out (by kernel_rfl)) (fun _ _ _ h => h) (Or.inl ⟨by rfl, ?_⟩) ?_ ?_
                  rotate_left
                  ·intro w'
                   go_simp
                   with_reducible rfl
                  rotate_left
                  ·simp only [Act.put, pt11_, i64_w, i32_w]
                   rfl
                  refine pure_ (i := 11) (N := some 64) (v := ?_) (a' := ?_) #[true, true, true, true, true, true, true, true, true, true, false, true, false, false, false, false] rfl rfl (any_of HT_.out (by kernel_rfl)) (fun _ _ _ h => h) (Or.inl ⟨by rfl, ?_⟩) ?_ ?_
                  rotate_left
                  ·intro w'
                   go_simp
                   with_reducible rfl
                  rotate_left
                  ·simp only [Act.put, pt11_, i64_w, i32_w]
                   rfl
                  refine pure_ (i := 12) (N := some 65) (v := ?_) (a' := ?_) #[true, true, true, true, true, true, true, true, true, true, false, true, true, false, false, false] rfl rfl (any_of HT_.out (by kernel_rfl)) (fun _ _ _ h => h) (Or.inl ⟨by rfl, ?_⟩) ?_ ?_
                  rotate_left
                  ·intro w'
                   go_simp
                   with_reducible rfl
                  rotate_left
                  ·simp only [Act.put, pt11_, i64_w, i32_w]
                   rfl
                  refine pure_ (i := 13) (N := some 66) (v := ?_) (a' := ?_) #[true, true, true, true, true, true, true, true, true, true, false, true, true, true, false, false] rfl rfl (any_of HT_.out (by kernel_rfl)) (fun _ _ _ h => h) (Or.inl ⟨by rfl, ?_⟩) ?_ ?_
                  rotate_left
                  ·intro w'
                   go_simp
                   with_reducible rfl
                  rotate_left
                  ·simp only [Act.put, pt11_, i64_w, i32_w]
                   rfl
                  refine take_ (i := 10) (N := some 63) (v := ?_) (a' := ?_) #[true, true, true, true, true, true, true, true, true, true, true, true, true, true, false, false] rfl rfl (take_ofW HT_.out HW_.out (by kernel_rfl)) (fun _ _ _ h => h) (Or.inl ⟨by rfl, ?_⟩) hHeld ?_ ?_
                  rotate_left
                  ·rintro w' ⟨s0, s1, s2, s3⟩
                   go_simp
                   with_reducible rfl
                  rotate_left
                  ·simp only [Act.put, pt11_, i64_w, i32_w]
                   rfl
                  refine one_ (i := 14) (N := some 67) #[true, true, true, true, true, true, true, true, true, true, true, true, true, true, true, false] rfl rfl (one_of HT_.out (by kernel_rfl)) (by decide) (fun K hK => ?_)
                  refine goes_ Try.func52 (by kernel_rfl) rfl #[.slice (some ad308) l0.length c0, .int .i64 ((rd_T31 l0 a1).f3), .string (a2.extract (x9_1 : Int).toNat a2.size)] (by rfl) rfl rfl z11_4 ?_
                  with_reducible refine (ih k1 (by have := HK1.out; omega) _ _ l0 ((rd_T31 l0 a1).f3) (a2.extract (x9_1 : Int).toNat a2.size) false _ ?side1 ?side2 A38.out).mono ?_
                  (case side1 => repeat (first | exact (Kd.C_below HR0.out HB.out) | (with_reducible refine Kd.C_alloc ?_ _) | (with_reducible refine Kd.C_drewN ?_ _) | (with_reducible refine Kd.C_drew ?_)))
                  (case side2 => exact HC0.out)
                  rintro e w45 ⟨rfl, hb⟩
                  refine ⟨_, rfl, ?_⟩
                  have n0_ := Aside0.mk (blk_below (g := gb309) (o := .cells #[.int .i64 ((rd_T31 l0 a1).f0), .string ((rd_T31 l0 a1).f1), .int .i64 ((rd_T31 l0 a1).f2), .int .i64 ((rd_T31 l0 a1).f3)] 31 (0, 0)) (bd11_ BK309.out) hb)
                  have n1_ := Aside0.mk (below_step z11_0 hb)
                  clear BK309
                  clear HB
                  have BK309 := n0_
                  have HB := n1_
                  clear n0_ n1_
                  (try clear hb)
                  (try clear hb2)
                  (try clear hk)
                  (try clear hi)
                  refine hK.out _ _ ⟨(blk_cell BK309.out 0).trans rfl, (blk_cell BK309.out 1).trans rfl, (blk_cell BK309.out 2).trans rfl, (blk_cell BK309.out 3).trans rfl⟩ (fun hHeld => ?_)
                  clear hK K
                  refine norm_ (a' := ?_) ?_ ?_
                  rotate_left
                  ·show Act.put _ (some 67) _ = _
                   simp only [Act.put, pt11_, i64_w, i32_w]
                   rfl
                  refine pure_ (i := 15) (N := some 68) (v := ?_) (a' := ?_) #[true, true, true, true, true, true, true, true, true, true, true, true, true, true, true, true] rfl rfl (any_of HT_.out (by kernel_rfl)) (fun _ _ _ h => h) (Or.inl ⟨by rfl, ?_⟩) ?_ ?_
                  rotate_left
                  ·intro w'
                   go_simp
                   with_reducible rfl
                  rotate_left
                  ·simp only [Act.put, pt11_, i64_w, i32_w]
                   rfl
                  refine done_ (done_of HT_.out (by kernel_rfl)) ?_
                  try go_wp2
                  go_roundg k1
                  case measure => have := HK1.out; omega
                  case rel => exact ⟨(wrap64 (x9_1 + 1)), (by first | rfl | (simp; done) | (simp [*]; done)), H', ⟨by have := HK1.out; omega⟩, ⟨z11_6⟩, ⟨z11_0⟩⟩
                ·replace c35 := Bool.eq_false_iff.mpr c35
                 subst c35
                 have H1 : (impl_makes.l0 k1 l0 a2 (wrap64 (x9_1 + 1)) ((rd_T31 l0 a1).f0) ((rd_T31 l0 a1).f1) ((rd_T31 l0 a1).f2) ((rd_T31 l0 a1).f3)) = some r := by rw [if_neg (show ¬ (false = true) by decide)] at H; exact H
                 clear H
                 have H := H1
                 clear H1
                 have H' := Aside0.mk H
                 clear H
                 try go_wp2
                 have n0_ := Aside0.mk (blk_drew BK309.out)
                 have n1_ := Aside0.mk (below_drew1 HB.out)
                 clear BK309
                 clear HB
                 have BK309 := n0_
                 have HB := n1_
                 clear n0_ n1_
                 refine start_ (n := 16) (S := fun w' => w'.cell? ⟨gb309, 0, none⟩ = some (.int .i64 ((rd_T31 l0 a1).f0)) ∧ w'.cell? ⟨gb309, 1, none⟩ = some (.string ((rd_T31 l0 a1).f1)) ∧ w'.cell? ⟨gb309, 2, none⟩ = some (.int .i64 ((rd_T31 l0 a1).f2)) ∧ w'.cell? ⟨gb309, 3, none⟩ = some (.int .i64 ((rd_T31 l0 a1).f3))) (ds := []) #[false, false, false, false, false, false, false, false, false, false, false, false, false, false, false, false] (by kernel_rfl) rfl rfl ⟨(blk_cell BK309.out 0).trans rfl, (blk_cell BK309.out 1).trans rfl, (blk_cell BK309.out 2).trans rfl, (blk_cell BK309.out 3).trans rfl⟩ (fun hHeld => ?_); refine with_tabW impl_makes.tab16 impl_makes.bits16 (fun HT_ HW_ => ?_)
                 generalize wr.drew = w46 at BK309 HB hHeld ⊢
                 refine pure_ (i := 0) (N := some 53) (v := ?_) (a' := ?_) #[true, false, false, false, false, false, false, false, false, false, false, false, false, false, false, false] rfl rfl (any_of HT_.out (by kernel_rfl)) (fun _ _ _ h => h) (Or.inl ⟨by rfl, ?_⟩) ?_ ?_
                 rotate_left
                 ·intro w'
                  go_simp
                  with_reducible rfl
                 rotate_left
                 ·simp only [Act.put, pt11_, i64_w, i32_w]
                  rfl
                 refine pure_ (i := 1) (N := some 54) (v := ?_) (a' := ?_) #[true, true, false, false, false, false, false, false, false, false, false, false, false, false, false, false] rfl rfl (any_of HT_.out (by kernel_rfl)) (fun _ _ _ h => h) (Or.inl ⟨by rfl, ?_⟩) ?_ ?_
                 rotate_left
                 ·intro w'
                  go_simp
                  with_reducible rfl
                 rotate_left
                 ·simp only [Act.put, pt11_, i64_w, i32_w]
                  rfl
                 refine pure_ (i := 3) (N := some 56) (v := ?_) (a' := ?_) #[true, true, false, true, false, false, false, false, false, false, false, false, false, false, false, false] rfl rfl (any_of HT_.out (by kernel_rfl)) (fun _ _ _ h => h) (Or.inl ⟨by rfl, ?_⟩) ?_ ?_
                 rotate_left
                 ·intro w'
                  go_simp
                  with_reducible rfl
                 rotate_left
                 ·simp only [Act.put, pt11_, i64_w, i32_w]
                  rfl
                 refine pure_ (i := 4) (N := some 57) (v := ?_) (a' := ?_) #[true, true, false, true, true, false, false, false, false, false, false, false, false, false, false, false] rfl rfl (any_of HT_.out (by kernel_rfl)) (fun _ _ _ h => h) (Or.inl ⟨by rfl, ?_⟩) ?_ ?_
                 rotate_left
                 ·intro w'
                  go_simp
                  with_reducible rfl
                 rotate_left
                 ·simp only [Act.put, pt11_, i64_w, i32_w]
                  rfl
                 refine pure_ (i := 5) (N := some 58) (v := ?_) (a' := ?_) #[true, true, false, true, true, true, false, false, false, false, false, false, false, false, false, false] rfl rfl (any_of HT_.out (by kernel_rfl)) (fun _ _ _ h => h) (Or.inl ⟨by rfl, ?_⟩) ?_ ?_
                 rotate_left
                 ·intro w'
                  go_simp
                  with_reducible rfl
                 rotate_left
                 ·simp only [Act.put, pt11_, i64_w, i32_w]
                  rfl
                 refine take_ (i := 2) (N := some 55) (v := ?_) (a' := ?_) #[true, true, true, true, true, true, false, false, false, false, false, false, false, false, false, false] rfl rfl (take_ofW HT_.out HW_.out (by kernel_rfl)) (fun _ _ _ h => h) (Or.inl ⟨by rfl, ?_⟩) hHeld ?_ ?_
                 rotate_left
                 ·rintro w' ⟨s0, s1, s2, s3⟩
                  go_simp
                  with_reducible rfl
                 rotate_left
                 ·simp only [Act.put, pt11_, i64_w, i32_w]
                  rfl
                 refine one_ (i := 6) (N := some 59) #[true, true, true, true, true, true, true, false, false, false, false, false, false, false, false, false] rfl rfl (one_of HT_.out (by kernel_rfl)) (by decide) (fun K hK => ?_)
                 refine goes_ Try.func52 (by kernel_rfl) rfl #[.slice (some ad308) l0.length c0, .int .i64 ((rd_T31 l0 a1).f2), .string (a2.extract 0 (x9_1 : Int).toNat)] (by rfl) rfl rfl z11_4 ?_
                 with_reducible refine (ih k1 (by have := HK1.out; omega) _ _ l0 ((rd_T31 l0 a1).f2) (a2.extract 0 (x9_1 : Int).toNat) false _ ?side1 ?side2 A34.out).mono ?_
                 (case side1 => repeat (first | exact (Kd.C_below HR0.out HB.out) | (with_reducible refine Kd.C_alloc ?_ _) | (with_reducible refine Kd.C_drewN ?_ _) | (with_reducible refine Kd.C_drew ?_)))
                 (case side2 => exact HC0.out)
                 rintro e w47 ⟨rfl, hb⟩
                 refine ⟨_, rfl, ?_⟩
                 have n0_ := Aside0.mk (blk_below (g := gb309) (o := .cells #[.int .i64 ((rd_T31 l0 a1).f0), .string ((rd_T31 l0 a1).f1), .int .i64 ((rd_T31 l0 a1).f2), .int .i64 ((rd_T31 l0 a1).f3)] 31 (0, 0)) (bd11_ BK309.out) hb)
                 have n1_ := Aside0.mk (below_step z11_0 hb)
                 clear BK309
                 clear HB
                 have BK309 := n0_
                 have HB := n1_
                 clear n0_ n1_
                 (try clear hb)
                 (try clear hb2)
                 (try clear hk)
                 (try clear hi)
                 refine hK.out _ _ ⟨(blk_cell BK309.out 0).trans rfl, (blk_cell BK309.out 1).trans rfl, (blk_cell BK309.out 2).trans rfl, (blk_cell BK309.out 3).trans rfl⟩ (fun hHeld => ?_)
                 clear hK K
                 refine norm_ (a' := ?_) ?_ ?_
                 rotate_left
                 ·show Act.put _ (some 59) _ = _
                  simp only [Act.put, pt11_, i64_w, i32_w]
                  rfl
                 refine pure_ (i := 7) (N := some 60) (v := ?_) (a' := ?_) #[true, true, true, true, true, true, true, true, false, false, false, false, false, false, false, false] rfl rfl (any_of HT_.out (by kernel_rfl)) (fun _ _ _ h => h) (Or.inl ⟨by rfl, ?_⟩) ?_ ?_
                 rotate_left
                 ·intro w'
                  go_simp
                  with_reducible rfl
                 rotate_left
                 ·simp only [Act.put, pt11_, i64_w, i32_w]
                  rfl
                 refine pure_ (i := 8) (N := some 61) (v := undef) (a' := ?_) #[true, true, true, true, true, true, true, true, true, false, false, false, false, false, false, false] rfl rfl (any_of HT_.out (by kernel_rfl)) (fun _ _ _ h => h) (Or.inr ⟨by rfl, rfl⟩) ?_ ?_
                 rotate_left
                 ·simp only [Act.put, pt11_, i64_w, i32_w]
                  rfl
                 refine pure_ (i := 9) (N := some 62) (v := undef) (a' := ?_) #[true, true, true, true, true, true, true, true, true, true, false, false, false, false, false, false] rfl rfl (any_of HT_.out (by kernel_rfl)) (fun _ _ _ h => h) (Or.inr ⟨by rfl, rfl⟩) ?_ ?_
                 rotate_left
                 ·simp only [Act.put, pt11_, i64_w, i32_w]
                  rfl
                 refine pure_ (i := 10) (N := some 63) (v := undef) (a' := ?_) #[true, true, true, true, true, true, true, true, true, true, true, false, false, false, false, false] rfl rfl (any_of HT_.out (by kernel_rfl)) (fun _ _ _ h => h) (Or.inr ⟨by rfl, rfl⟩) ?_ ?_
                 rotate_left
                 ·simp only [Act.put, pt11_, i64_w, i32_w]
                  rfl
                 refine pure_ (i := 11) (N := some 64) (v := undef) (a' := ?_) #[true, true, true, true, true, true, true, true, true, true, true, true, false, false, false, false] rfl rfl (any_of HT_.out (by kernel_rfl)) (fun _ _ _ h => h) (Or.inr ⟨by rfl, rfl⟩) ?_ ?_
                 rotate_left
                 ·simp only [Act.put, pt11_, i64_w, i32_w]
                  rfl
                 refine pure_ (i := 12) (N := some 65) (v := undef) (a' := ?_) #[true, true, true, true, true, true, true, true, true, true, true, true, true, false, false, false] rfl rfl (any_of HT_.out (by kernel_rfl)) (fun _ _ _ h => h) (Or.inr ⟨by rfl, rfl⟩) ?_ ?_
                 rotate_left
                 ·simp only [Act.put, pt11_, i64_w, i32_w]
                  rfl
                 refine pure_ (i := 13) (N := some 66) (v := undef) (a' := ?_) #[true, true, true, true, true, true, true, true, true, true, true, true, true, true, false, false] rfl rfl (any_of HT_.out (by kernel_rfl)) (fun _ _ _ h => h) (Or.inr ⟨by rfl, rfl⟩) ?_ ?_
                 rotate_left
                 ·simp only [Act.put, pt11_, i64_w, i32_w]
                  rfl
                 refine pure_ (i := 14) (N := some 67) (v := undef) (a' := ?_) #[true, true, true, true, true, true, true, true, true, true, true, true, true, true, true, false] rfl rfl (any_of HT_.out (by kernel_rfl)) (fun _ _ _ h => h) (Or.inr ⟨by rfl, rfl⟩) ?_ ?_
                 rotate_left
                 ·simp only [Act.put, pt11_, i64_w, i32_w]
                  rfl
                 refine pure_ (i := 15) (N := some 68) (v := ?_) (a' := ?_) #[true, true, true, true, true, true, true, true, true, true, true, true, true, true, true, true] rfl rfl (any_of HT_.out (by kernel_rfl)) (fun _ _ _ h => h) (Or.inl ⟨by rfl, ?_⟩) ?_ ?_
                 rotate_left
                 ·intro w'
                  go_simp
                  with_reducible rfl
                 rotate_left
                 ·simp only [Act.put, pt11_, i64_w, i32_w]
                  rfl
                 refine done_ (done_of HT_.out (by kernel_rfl)) ?_
                 try go_wp2
                 go_roundg k1
                 case measure => have := HK1.out; omega
                 case rel => exact ⟨(wrap64 (x9_1 + 1)), (by first | rfl | (simp; done) | (simp [*]; done)), H', ⟨by have := HK1.out; omega⟩, ⟨z11_6⟩, ⟨z11_0⟩⟩
               ·rw [if_neg c33] at H
                exact absurd H (by simp)
              ·rw [if_neg c32] at H
               exact absurd H (by simp)
             ·rw [if_neg c31] at H
              have c31b0 : decide (x9_1 < (a2.size : Int)) = false := decide_eq_false c31
              clear c31
              obtain rfl := Option.some.inj H
              go_wp2
              go_ret
              exact ⟨z11_5, z11_0⟩
          ·rw [if_neg c28] at H
           have c28b0 : (((rd_T31 l0 a1).f0) == 4) = false := beq_eq_false_iff_ne.mpr c28
           have c28b1 : (((rd_T31 l0 a1).f0) != 4) = true := bne_iff_ne.mpr c28
           by_cases c48 : ((rd_T31 l0 a1).f0) = 5
           ·rw [if_pos c48] at H
            have c48b0 : (((rd_T31 l0 a1).f0) == 5) = true := beq_iff_eq.mpr c48
            have c48b1 : (((rd_T31 l0 a1).f0) != 5) = false := bne_eq_false_iff_eq.mpr c48
            clear c48
            have H' := Aside0.mk H
            clear H
            have p308 : 0 ≤ (a1 : Int) := of_decide_eq_true z11_3
            have q308 : a1 < (l0.length : Int) := of_decide_eq_true z11_3
            obtain ⟨ad308, e308, hx308_0, hx308_1, hx308_2, hx308_3⟩ := at_T31 HR0.out a1 p308 q308
            cases e308
            replace p308 := eq_true p308
            replace q308 := eq_true q308
            go_enter Try.func52, Try.ntmps52
            go_wp2_with (first | ((with_reducible refine gate_dst (N := 7) rfl ?_); refine box_event ?hg (N := 7) ?hd (cs := #[.int .i64 0, .string (⟨#[]⟩ : ByteArray), .int .i64 0, .int .i64 0]) (t := 31) ?hr ?_; (case hd => rfl); (case hg => rfl); (case hr => first | (go_simp; done) | (go_simp; rfl)); intro gb309 hg w49 hbox hb; have n0_ := Aside0.mk (below_step z11_1 hb); have n1_ := Aside0.mk (hbox); have n2_ := Aside0.mk ((by rw [hg]; exact (below_size z11_1) : w.heap.size ≤ gb309)); have n3_ := Aside0.mk ((by rw [hg]; exact (below_size z11_1) : w.heap.size ≤ gb309)); clear HB; have HB := n0_; have BK309 := n1_; have GW309 := n2_; have GE309 := n3_; clear n0_ n1_ n2_ n3_; clear hb hbox hg; have hcz50_0 : w49.cell? ⟨gb309, 0, none⟩ = some (.int .i64 0) := (blk_cell BK309.out 0).trans rfl; have hcz50_1 : w49.cell? ⟨gb309, 1, none⟩ = some (.string (⟨#[]⟩ : ByteArray)) := (blk_cell BK309.out 1).trans rfl; have hcz50_2 : w49.cell? ⟨gb309, 2, none⟩ = some (.int .i64 0) := (blk_cell BK309.out 2).trans rfl; have hcz50_3 : w49.cell? ⟨gb309, 3, none⟩ = some (.int .i64 0) := (blk_cell BK309.out 3).trans rfl; have hfz50_0 := blk_frozen BK309.out 0; have hfz50_1 := blk_frozen BK309.out 1; have hfz50_2 := blk_frozen BK309.out 2; have hfz50_3 := blk_frozen BK309.out 3; have p310 : 0 ≤ (((rd_T31 l0 a1).f2) : Int) := of_decide_eq_true z11_3; have q310 : ((rd_T31 l0 a1).f2) < (l0.length : Int) := of_decide_eq_true z11_3; obtain ⟨ad310, e310, hx310_0, hx310_1, hx310_2, hx310_3⟩ := at_T31 HR0.out ((rd_T31 l0 a1).f2) p310 q310; obtain rfl : ad308 = ad310 := (by injection e310); have hn310_0 : ad308.block ≠ gb309 := Nat.ne_of_lt (Nat.lt_of_lt_of_le (bl11_ hx310_0) GW309.out); have hn310_1 : ad308.block ≠ gb309 := Nat.ne_of_lt (Nat.lt_of_lt_of_le (bl11_ hx310_0) GW309.out); have hn310_2 : ad308.block ≠ gb309 := Nat.ne_of_lt (Nat.lt_of_lt_of_le (bl11_ hx310_0) GW309.out); have hn310_3 : ad308.block ≠ gb309 := Nat.ne_of_lt (Nat.lt_of_lt_of_le (bl11_ hx310_0) GW309.out); replace hx310_0 := (HB.out.cell (World.block_lt_of_cell? w _ hx310_0)).trans hx310_0; replace hx310_1 := (HB.out.cell (World.block_lt_of_cell? w _ hx310_1)).trans hx310_1; replace hx310_2 := (HB.out.cell (World.block_lt_of_cell? w _ hx310_2)).trans hx310_2; replace hx310_3 := (HB.out.cell (World.block_lt_of_cell? w _ hx310_3)).trans hx310_3; replace hx310_0 := (cell_far (p := ⟨gb309, 0, none⟩) (ab11_ hn310_0) (.int .i64 ((rd_T31 l0 a1).f0))).trans hx310_0; replace hx310_1 := (cell_far (p := ⟨gb309, 0, none⟩) (ab11_ hn310_0) (.int .i64 ((rd_T31 l0 a1).f0))).trans hx310_1; replace hx310_2 := (cell_far (p := ⟨gb309, 0, none⟩) (ab11_ hn310_0) (.int .i64 ((rd_T31 l0 a1).f0))).trans hx310_2; replace hx310_3 := (cell_far (p := ⟨gb309, 0, none⟩) (ab11_ hn310_0) (.int .i64 ((rd_T31 l0 a1).f0))).trans hx310_3; replace hx310_0 := (cell_far (p := ⟨gb309, 1, none⟩) (ab11_ hn310_1) (.string ((rd_T31 l0 a1).f1))).trans hx310_0; replace hx310_1 := (cell_far (p := ⟨gb309, 1, none⟩) (ab11_ hn310_1) (.string ((rd_T31 l0 a1).f1))).trans hx310_1; replace hx310_2 := (cell_far (p := ⟨gb309, 1, none⟩) (ab11_ hn310_1) (.string ((rd_T31 l0 a1).f1))).trans hx310_2; replace hx310_3 := (cell_far (p := ⟨gb309, 1, none⟩) (ab11_ hn310_1) (.string ((rd_T31 l0 a1).f1))).trans hx310_3; replace hx310_0 := (cell_far (p := ⟨gb309, 2, none⟩) (ab11_ hn310_2) (.int .i64 ((rd_T31 l0 a1).f2))).trans hx310_0; replace hx310_1 := (cell_far (p := ⟨gb309, 2, none⟩) (ab11_ hn310_2) (.int .i64 ((rd_T31 l0 a1).f2))).trans hx310_1; replace hx310_2 := (cell_far (p := ⟨gb309, 2, none⟩) (ab11_ hn310_2) (.int .i64 ((rd_T31 l0 a1).f2))).trans hx310_2; replace hx310_3 := (cell_far (p := ⟨gb309, 2, none⟩) (ab11_ hn310_2) (.int .i64 ((rd_T31 l0 a1).f2))).trans hx310_3; replace hx310_0 := (cell_far (p := ⟨gb309, 3, none⟩) (ab11_ hn310_3) (.int .i64 ((rd_T31 l0 a1).f3))).trans hx310_0; replace hx310_1 := (cell_far (p := ⟨gb309, 3, none⟩) (ab11_ hn310_3) (.int .i64 ((rd_T31 l0 a1).f3))).trans hx310_1; replace hx310_2 := (cell_far (p := ⟨gb309, 3, none⟩) (ab11_ hn310_3) (.int .i64 ((rd_T31 l0 a1).f3))).trans hx310_2; replace hx310_3 := (cell_far (p := ⟨gb309, 3, none⟩) (ab11_ hn310_3) (.int .i64 ((rd_T31 l0 a1).f3))).trans hx310_3; clear hn310_0; clear hn310_1; clear hn310_2; clear hn310_3; replace p310 := eq_true p310; replace q310 := eq_true q310))
            go_loopg [10] k (fun kq v10 w' => ∃ (x10_1 : Int), v10 = .int .i64 x10_1 ∧ Aside0 (impl_makes.l1 kq l0 a2 x10_1 ((rd_T31 l0 a1).f0) ((rd_T31 l0 a1).f1) ((rd_T31 l0 a1).f2) ((rd_T31 l0 a1).f3) = some r) ∧ Aside0 (kq ≤ k) ∧ Aside0 (w'.heap[gb309]? = some (.cells #[.int .i64 ((rd_T31 l0 a1).f0), .string ((rd_T31 l0 a1).f1), .int .i64 ((rd_T31 l0 a1).f2), .int .i64 ((rd_T31 l0 a1).f3)] 31 (0, 0))) ∧ Aside0 (Below w.heap.size w w'))
            case atStart => exact ⟨(1), (by first | rfl | (simp; done) | (simp [*]; done)), H', ⟨Nat.le_refl _⟩, ⟨z11_2⟩, ⟨z11_0⟩⟩
            case round =>
             clear H'
             try clear c2
             try clear p2
             try clear c3
             try clear p3
             try clear q3
             try clear hx3
             try clear c4
             try clear c5
             try clear p6
             try clear c28
             try clear c28b0
             try clear c28b1
             try clear p30
             try clear q30
             try clear hx30
             try clear c31
             try clear c31b0
             try clear p31
             try clear q31
             try clear hx31
             try clear c32
             try clear c32b0
             try clear c32b1
             try clear c33
             try clear c33b0
             try clear c33b1
             try clear c35
             try clear c36
             try clear c36b0
             try clear c37
             try clear c37b0
             try clear c39
             try clear c48
             try clear c48b0
             try clear c48b1
             try clear hcz50_0
             try clear hcz50_1
             try clear hcz50_2
             try clear hcz50_3
             try clear hfz30_0
             try clear hfz30_1
             try clear hfz30_2
             try clear hfz30_3
             try clear hfz50_0
             try clear hfz50_1
             try clear hfz50_2
             try clear hfz50_3
             try clear hfz8_0
             try clear hfz8_1
             try clear hfz8_2
             try clear hfz8_3
             try clear hx308_0
             try clear hx308_1
             try clear hx308_2
             try clear hx308_3
             try clear hx310_0
             try clear hx310_1
             try clear hx310_2
             try clear hx310_3
             try clear p308
             try clear p310
             try clear q308
             try clear q310
             obtain ⟨x10_1, rfl, HA, HK1, BK309, HB⟩ := hrel
             cases gk with
             | zero => exact absurd HA.out (by simp [impl_makes.l1])
             | succ k1 =>
              have H := HA.out
              clear HA
              simp only [impl_makes.l1] at H
              by_cases c51 : x10_1 < (a2.size : Int)
              ·rw [if_pos c51] at H
               have c51b0 : decide (x10_1 < (a2.size : Int)) = true := decide_eq_true c51
               clear c51
               have H' := Aside0.mk H
               clear H
               go_wp2
               go_loopg [11] k1 (fun kq v11 w' => ∃ (x11_2 : Int), v11 = .int .i64 x11_2 ∧ Aside0 (impl_makes.l2 kq l0 a2 x10_1 x11_2 ((rd_T31 l0 a1).f0) ((rd_T31 l0 a1).f1) ((rd_T31 l0 a1).f2) ((rd_T31 l0 a1).f3) = some r) ∧ Aside0 (kq ≤ k1) ∧ Aside0 (w'.heap[gb309]? = some (.cells #[.int .i64 ((rd_T31 l0 a1).f0), .string ((rd_T31 l0 a1).f1), .int .i64 ((rd_T31 l0 a1).f2), .int .i64 ((rd_T31 l0 a1).f3)] 31 (0, 0))) ∧ Aside0 (Below w.heap.size w w'))
               case atStart => exact ⟨(wrap64 (x10_1 + 1)), (by first | rfl | (simp; done) | (simp [*]; done)), H', ⟨Nat.le_refl _⟩, ⟨z11_6⟩, ⟨z11_0⟩⟩
               case round =>
                clear H'
                try clear c2
                try clear p2
                try clear c3
                try clear p3
                try clear q3
                try clear hx3
                try clear c4
                try clear c5
                try clear p6
                try clear c28
                try clear c28b0
                try clear c28b1
                try clear p30
                try clear q30
                try clear hx30
                try clear c31
                try clear c31b0
                try clear p31
                try clear q31
                try clear hx31
                try clear c32
                try clear c32b0
                try clear c32b1
                try clear c33
                try clear c33b0
                try clear c33b1
                try clear c35
                try clear c36
                try clear c36b0
                try clear c37
                try clear c37b0
                try clear c39
                try clear c48
                try clear c48b0
                try clear c48b1
                try clear c51
                try clear c51b0
                try clear hcz50_0
                try clear hcz50_1
                try clear hcz50_2
                try clear hcz50_3
                try clear hfz30_0
                try clear hfz30_1
                try clear hfz30_2
                try clear hfz30_3
                try clear hfz50_0
                try clear hfz50_1
                try clear hfz50_2
                try clear hfz50_3
                try clear hfz8_0
                try clear hfz8_1
                try clear hfz8_2
                try clear hfz8_3
                try clear hx308_0
                try clear hx308_1
                try clear hx308_2
                try clear hx308_3
                try clear hx310_0
                try clear hx310_1
                try clear hx310_2
                try clear hx310_3
                try clear p2
                try clear p3
                try clear p30
                try clear p308
                try clear p31
                try clear p310
                try clear p6
                try clear q3
                try clear q30
                try clear q308
                try clear q31
                try clear q310
                obtain ⟨x11_2, rfl, HA, HK2, BK309, HB⟩ := hrel
                cases gk with
                | zero => exact absurd HA.out (by simp [impl_makes.l2])
                | succ k2 =>
                 have H := HA.out
                 clear HA
                 simp only [impl_makes.l2] at H
                 by_cases c52 : x11_2 < (a2.size : Int)
                 ·rw [if_pos c52] at H
                  have c52b0 : decide (x11_2 < (a2.size : Int)) = true := decide_eq_true c52
                  clear c52
                  by_cases c53 : 0 ≤ x10_1
                  ·rw [if_pos c53] at H
                   have c53b0 := eq_true c53
                   have c53b1 : decide (0 ≤ x10_1) = true := decide_eq_true c53
                   clear c53
                   by_cases c54 : x10_1 ≤ x11_2
                   ·rw [if_pos c54] at H
                    have c54b0 := eq_true c54
                    have c54b1 : decide (x10_1 ≤ x11_2) = true := decide_eq_true c54
                    clear c54
                    by_cases c55 : x11_2 ≤ (a2.size : Int)
                    ·rw [if_pos c55] at H
                     have c55b0 := eq_true c55
                     have c55b1 : decide (x11_2 ≤ (a2.size : Int)) = true := decide_eq_true c55
                     clear c55
                     replace H := Option.bind_eq_some_iff.mp H
                     obtain ⟨t316, A560, H⟩ := H
                     replace H : (if t316 = true then (if x10_1 ≤ (a2.size : Int) then (if 0 ≤ x11_2 then (if (a2.extract 0 (x10_1 : Int).toNat).size + (a2.extract (x11_2 : Int).toNat a2.size).size ≤ 9223372036854775807 then ((impl_makes.f k2 l0 ((rd_T31 l0 a1).f2) ((a2.extract 0 (x10_1 : Int).toNat) ++ (a2.extract (x11_2 : Int).toNat a2.size))).bind fun t317 => (if t317 = true then (some true) else (impl_makes.l2 k2 l0 a2 x10_1 (wrap64 (x11_2 + 1)) ((rd_T31 l0 a1).f0) ((rd_T31 l0 a1).f1) ((rd_T31 l0 a1).f2) ((rd_T31 l0 a1).f3)))) else (none)) else (none)) else (none)) else (impl_makes.l2 k2 l0 a2 x10_1 (wrap64 (x11_2 + 1)) ((rd_T31 l0 a1).f0) ((rd_T31 l0 a1).f1) ((rd_T31 l0 a1).f2) ((rd_T31 l0 a1).f3))) = some r := H
                     have A56 := Aside0.mk A560
                     clear A560
                     by_cases c57 : t316 = true
                     ·subst c57
                      have H1 : (if x10_1 ≤ (a2.size : Int) then (if 0 ≤ x11_2 then (if (a2.extract 0 (x10_1 : Int).toNat).size + (a2.extract (x11_2 : Int).toNat a2.size).size ≤ 9223372036854775807 then ((impl_makes.f k2 l0 ((rd_T31 l0 a1).f2) ((a2.extract 0 (x10_1 : Int).toNat) ++ (a2.extract (x11_2 : Int).toNat a2.size))).bind fun t317 => (if t317 = true then (some true) else (impl_makes.l2 k2 l0 a2 x10_1 (wrap64 (x11_2 + 1)) ((rd_T31 l0 a1).f0) ((rd_T31 l0 a1).f1) ((rd_T31 l0 a1).f2) ((rd_T31 l0 a1).f3)))) else (none)) else (none)) else (none)) = some r := by rw [if_pos rfl] at H; exact H
                      clear H
                      have H := H1
                      clear H1
                      have c58b0 := eq_true (of_decide_eq_true z11_3 : 0 ≤ x10_1)
                      by_cases c59 : x10_1 ≤ (a2.size : Int)
                      ·rw [if_pos c59] at H
                       have c59b0 := eq_true c59
                       have c59b1 : decide (x10_1 ≤ (a2.size : Int)) = true := decide_eq_true c59
                       clear c59
                       by_cases c60 : 0 ≤ x11_2
                       ·rw [if_pos c60] at H
                        have c60b0 := eq_true c60
                        have c60b1 : decide (0 ≤ x11_2) = true := decide_eq_true c60
                        clear c60
                        have c61b0 := eq_true (of_decide_eq_true z11_3 : x11_2 ≤ (a2.size : Int))
                        by_cases c62 : (a2.extract 0 (x10_1 : Int).toNat).size + (a2.extract (x11_2 : Int).toNat a2.size).size ≤ 9223372036854775807
                        ·rw [if_pos c62] at H
                         have c62b0 := eq_true c62
                         have c62b1 : decide ((a2.extract 0 (x10_1 : Int).toNat).size + (a2.extract (x11_2 : Int).toNat a2.size).size ≤ 9223372036854775807) = true := decide_eq_true c62
                         try have c62b2 : (9223372036854775807 < (a2.extract 0 (x10_1 : Int).toNat).size + (a2.extract (x11_2 : Int).toNat a2.size).size) = False := eq_false (Nat.not_lt.2 c62)
                         try have c62b3 : (9223372036854775807 < x10_1.toNat + (a2.size - x11_2.toNat)) = False := eq_false (by have q0_ : (x10_1 : Int) ≤ (a2.size : Int) := of_decide_eq_true z11_3; have q1_ : (x11_2 : Int) ≤ (a2.size : Int) := of_decide_eq_true z11_3; have h_ := c62; simp only [ByteArray.size_append, ByteArray.size_extract] at h_; omega)
                         replace H := Option.bind_eq_some_iff.mp H
                         obtain ⟨t317, A630, H⟩ := H
                         replace H : (if t317 = true then (some true) else (impl_makes.l2 k2 l0 a2 x10_1 (wrap64 (x11_2 + 1)) ((rd_T31 l0 a1).f0) ((rd_T31 l0 a1).f1) ((rd_T31 l0 a1).f2) ((rd_T31 l0 a1).f3))) = some r := H
                         have A63 := Aside0.mk A630
                         clear A630
                         by_cases c64 : t317 = true
                         ·subst c64
                          have H1 : (some true) = some r := by rw [if_pos rfl] at H; exact H
                          clear H
                          have H := H1
                          clear H1
                          obtain rfl := Option.some.inj H
                          try go_wp2
                          have n0_ := Aside0.mk (blk_drew BK309.out)
                          have n1_ := Aside0.mk (below_drew1 HB.out)
                          clear BK309
                          clear HB
                          have BK309 := n0_
                          have HB := n1_
                          clear n0_ n1_
                          refine start_ (n := 21) (S := fun w' => w'.cell? ⟨gb309, 0, none⟩ = some (.int .i64 ((rd_T31 l0 a1).f0)) ∧ w'.cell? ⟨gb309, 1, none⟩ = some (.string ((rd_T31 l0 a1).f1)) ∧ w'.cell? ⟨gb309, 2, none⟩ = some (.int .i64 ((rd_T31 l0 a1).f2)) ∧ w'.cell? ⟨gb309, 3, none⟩ = some (.int .i64 ((rd_T31 l0 a1).f3))) (ds := []) #[false, false, false, false, false, false, false, false, false, false, false, false, false, false, false, false, false, false, false, false, false] (by kernel_rfl) rfl rfl ⟨(blk_cell BK309.out 0).trans rfl, (blk_cell BK309.out 1).trans rfl, (blk_cell BK309.out 2).trans rfl, (blk_cell BK309.out 3).trans rfl⟩ (fun hHeld => ?_); refine with_tabW impl_makes.tab25 impl_makes.bits25 (fun HT_ HW_ => ?_)
                          generalize wr.drew = w65 at BK309 HB hHeld ⊢
                          refine pure_ (i := 0) (N := some 85) (v := ?_) (a' := ?_) #[true, false, false, false, false, false, false, false, false, false, false, false, false, false, false, false, false, false, false, false, false] rfl rfl (any_of HT_.out (by kernel_rfl)) (fun _ _ _ h => h) (Or.inl ⟨by rfl, ?_⟩) ?_ ?_
                          rotate_left
                          ·intro w'
                           go_simp
                           with_reducible rfl
                          rotate_left
                          ·simp only [Act.put, pt11_, i64_w, i32_w]
                           rfl
                          refine pure_ (i := 1) (N := some 86) (v := ?_) (a' := ?_) #[true, true, false, false, false, false, false, false, false, false, false, false, false, false, false, false, false, false, false, false, false] rfl rfl (any_of HT_.out (by kernel_rfl)) (fun _ _ _ h => h) (Or.inl ⟨by rfl, ?_⟩) ?_ ?_
                          rotate_left
                          ·intro w'
                           go_simp
                           with_reducible rfl
                          rotate_left
                          ·simp only [Act.put, pt11_, i64_w, i32_w]
                           rfl
                          refine pure_ (i := 3) (N := some 88) (v := ?_) (a' := ?_) #[true, true, false, true, false, false, false, false, false, false, false, false, false, false, false, false, false, false, false, false, false] rfl rfl (any_of HT_.out (by kernel_rfl)) (fun _ _ _ h => h) (Or.inl ⟨by rfl, ?_⟩) ?_ ?_
                          rotate_left
                          ·intro w'
                           go_simp
                           with_reducible rfl
                          rotate_left
                          ·simp only [Act.put, pt11_, i64_w, i32_w]
                           rfl
                          refine pure_ (i := 4) (N := some 89) (v := ?_) (a' := ?_) #[true, true, false, true, true, false, false, false, false, false, false, false, false, false, false, false, false, false, false, false, false] rfl rfl (any_of HT_.out (by kernel_rfl)) (fun _ _ _ h => h) (Or.inl ⟨by rfl, ?_⟩) ?_ ?_
                          rotate_left
                          ·intro w'
                           go_simp
                           with_reducible rfl
                          rotate_left
                          ·simp only [Act.put, pt11_, i64_w, i32_w]
                           rfl
                          refine pure_ (i := 5) (N := some 90) (v := ?_) (a' := ?_) #[true, true, false, true, true, true, false, false, false, false, false, false, false, false, false, false, false, false, false, false, false] rfl rfl (any_of HT_.out (by kernel_rfl)) (fun _ _ _ h => h) (Or.inl ⟨by rfl, ?_⟩) ?_ ?_
                          rotate_left
                          ·intro w'
                           go_simp
                           with_reducible rfl
                          rotate_left
                          ·simp only [Act.put, pt11_, i64_w, i32_w]
                           rfl
                          refine pure_ (i := 6) (N := some 91) (v := ?_) (a' := ?_) #[true, true, false, true, true, true, true, false, false, false, false, false, false, false, false, false, false, false, false, false, false] rfl rfl (any_of HT_.out (by kernel_rfl)) (fun _ _ _ h => h) (Or.inl ⟨by rfl, ?_⟩) ?_ ?_
                          rotate_left
                          ·intro w'
                           go_simp
                           with_reducible rfl
                          rotate_left
                          ·simp only [Act.put, pt11_, i64_w, i32_w]
                           rfl
                          refine take_ (i := 2) (N := some 87) (v := ?_) (a' := ?_) #[true, true, true, true, true, true, true, false, false, false, false, false, false, false, false, false, false, false, false, false, false] rfl rfl (take_ofW HT_.out HW_.out (by kernel_rfl)) (fun _ _ _ h => h) (Or.inl ⟨by rfl, ?_⟩) hHeld ?_ ?_
                          rotate_left
                          ·rintro w' ⟨s0, s1, s2, s3⟩
                           go_simp
                           with_reducible rfl
                          rotate_left
                          ·simp only [Act.put, pt11_, i64_w, i32_w]
                           rfl
                          refine one_ (i := 7) (N := some 92) #[true, true, true, true, true, true, true, true, false, false, false, false, false, false, false, false, false, false, false, false, false] rfl rfl (one_of HT_.out (by kernel_rfl)) (by decide) (fun K hK => ?_)
                          refine goes_ Try.func52 (by kernel_rfl) rfl #[.slice (some ad308) l0.length c0, .int .i64 ((rd_T31 l0 a1).f3), .string (a2.extract (x10_1 : Int).toNat (x11_2 : Int).toNat)] (by rfl) rfl rfl z11_4 ?_
                          with_reducible refine (ih k2 (by have := HK1.out; have := HK2.out; omega) _ _ l0 ((rd_T31 l0 a1).f3) (a2.extract (x10_1 : Int).toNat (x11_2 : Int).toNat) true _ ?side1 ?side2 A56.out).mono ?_
                          (case side1 => repeat (first | exact (Kd.C_below HR0.out HB.out) | (with_reducible refine Kd.C_alloc ?_ _) | (with_reducible refine Kd.C_drewN ?_ _) | (with_reducible refine Kd.C_drew ?_)))
                          (case side2 => exact HC0.out)
                          rintro e w66 ⟨rfl, hb⟩
                          refine ⟨_, rfl, ?_⟩
                          have n0_ := Aside0.mk (blk_below (g := gb309) (o := .cells #[.int .i64 ((rd_T31 l0 a1).f0), .string ((rd_T31 l0 a1).f1), .int .i64 ((rd_T31 l0 a1).f2), .int .i64 ((rd_T31 l0 a1).f3)] 31 (0, 0)) (bd11_ BK309.out) hb)
                          have n1_ := Aside0.mk (below_step z11_0 hb)
                          clear BK309
                          clear HB
                          have BK309 := n0_
                          have HB := n1_
                          clear n0_ n1_
                          (try clear hb)
                          (try clear hb2)
                          (try clear hk)
                          (try clear hi)
                          refine hK.out _ _ ⟨(blk_cell BK309.out 0).trans rfl, (blk_cell BK309.out 1).trans rfl, (blk_cell BK309.out 2).trans rfl, (blk_cell BK309.out 3).trans rfl⟩ (fun hHeld => ?_)
                          clear hK K
                          refine norm_ (a' := ?_) ?_ ?_
                          rotate_left
                          ·show Act.put _ (some 92) _ = _
                           simp only [Act.put, pt11_, i64_w, i32_w]
                           rfl
                          refine pure_ (i := 8) (N := some 93) (v := ?_) (a' := ?_) #[true, true, true, true, true, true, true, true, true, false, false, false, false, false, false, false, false, false, false, false, false] rfl rfl (any_of HT_.out (by kernel_rfl)) (fun _ _ _ h => h) (Or.inl ⟨by rfl, ?_⟩) ?_ ?_
                          rotate_left
                          ·intro w'
                           go_simp
                           with_reducible rfl
                          rotate_left
                          ·simp only [Act.put, pt11_, i64_w, i32_w]
                           rfl
                          refine pure_ (i := 9) (N := some 94) (v := ?_) (a' := ?_) #[true, true, true, true, true, true, true, true, true, true, false, false, false, false, false, false, false, false, false, false, false] rfl rfl (any_of HT_.out (by kernel_rfl)) (fun _ _ _ h => h) (Or.inl ⟨by rfl, ?_⟩) ?_ ?_
                          rotate_left
                          ·intro w'
                           go_simp
                           with_reducible rfl
                          rotate_left
                          ·simp only [Act.put, pt11_, i64_w, i32_w]
                           rfl
                          refine pure_ (i := 10) (N := some 95) (v := ?_) (a' := ?_) #[true, true, true, true, true, true, true, true, true, true, true, false, false, false, false, false, false, false, false, false, false] rfl rfl (any_of HT_.out (by kernel_rfl)) (fun _ _ _ h => h) (Or.inl ⟨by rfl, ?_⟩) ?_ ?_
                          rotate_left
                          ·intro w'
                           go_simp
                           with_reducible rfl
                          rotate_left
                          ·simp only [Act.put, pt11_, i64_w, i32_w]
                           rfl
                          refine pure_ (i := 12) (N := some 97) (v := ?_) (a' := ?_) #[true, true, true, true, true, true, true, true, true, true, true, false, true, false, false, false, false, false, false, false, false] rfl rfl (any_of HT_.out (by kernel_rfl)) (fun _ _ _ h => h) (Or.inl ⟨by rfl, ?_⟩) ?_ ?_
                          rotate_left
                          ·intro w'
                           go_simp
                           with_reducible rfl
                          rotate_left
                          ·simp only [Act.put, pt11_, i64_w, i32_w]
                           rfl
                          refine pure_ (i := 13) (N := some 98) (v := ?_) (a' := ?_) #[true, true, true, true, true, true, true, true, true, true, true, false, true, true, false, false, false, false, false, false, false] rfl rfl (any_of HT_.out (by kernel_rfl)) (fun _ _ _ h => h) (Or.inl ⟨by rfl, ?_⟩) ?_ ?_
                          rotate_left
                          ·intro w'
                           go_simp
                           with_reducible rfl
                          rotate_left
                          ·simp only [Act.put, pt11_, i64_w, i32_w]
                           rfl
                          refine pure_ (i := 14) (N := some 99) (v := ?_) (a' := ?_) #[true, true, true, true, true, true, true, true, true, true, true, false, true, true, true, false, false, false, false, false, false] rfl rfl (any_of HT_.out (by kernel_rfl)) (fun _ _ _ h => h) (Or.inl ⟨by rfl, ?_⟩) ?_ ?_
                          rotate_left
                          ·intro w'
                           go_simp
                           with_reducible rfl
                          rotate_left
                          ·simp only [Act.put, pt11_, i64_w, i32_w]
                           rfl
                          refine pure_ (i := 15) (N := some 100) (v := ?_) (a' := ?_) #[true, true, true, true, true, true, true, true, true, true, true, false, true, true, true, true, false, false, false, false, false] rfl rfl (any_of HT_.out (by kernel_rfl)) (fun _ _ _ h => h) (Or.inl ⟨by rfl, ?_⟩) ?_ ?_
                          rotate_left
                          ·intro w'
                           go_simp
                           with_reducible rfl
                          rotate_left
                          ·simp only [Act.put, pt11_, i64_w, i32_w]
                           rfl
                          refine pure_ (i := 16) (N := some 101) (v := ?_) (a' := ?_) #[true, true, true, true, true, true, true, true, true, true, true, false, true, true, true, true, true, false, false, false, false] rfl rfl (any_of HT_.out (by kernel_rfl)) (fun _ _ _ h => h) (Or.inl ⟨by rfl, ?_⟩) ?_ ?_
                          rotate_left
                          ·intro w'
                           go_simp
                           with_reducible rfl
                          rotate_left
                          ·simp only [Act.put, pt11_, i64_w, i32_w]
                           rfl
                          refine pure_ (i := 17) (N := some 102) (v := ?_) (a' := ?_) #[true, true, true, true, true, true, true, true, true, true, true, false, true, true, true, true, true, true, false, false, false] rfl rfl (any_of HT_.out (by kernel_rfl)) (fun _ _ _ h => h) (Or.inl ⟨by rfl, ?_⟩) ?_ ?_
                          rotate_left
                          ·intro w'
                           go_simp
                           with_reducible rfl
                          rotate_left
                          ·simp only [Act.put, pt11_, i64_w, i32_w]
                           rfl
                          refine pure_ (i := 18) (N := some 103) (v := ?_) (a' := ?_) #[true, true, true, true, true, true, true, true, true, true, true, false, true, true, true, true, true, true, true, false, false] rfl rfl (any_of HT_.out (by kernel_rfl)) (fun _ _ _ h => h) (Or.inl ⟨by rfl, ?_⟩) ?_ ?_
                          rotate_left
                          ·intro w'
                           go_simp
                           with_reducible rfl
                          rotate_left
                          ·simp only [Act.put, pt11_, i64_w, i32_w]
                           rfl
                          refine take_ (i := 11) (N := some 96) (v := ?_) (a' := ?_) #[true, true, true, true, true, true, true, true, true, true, true, true, true, true, true, true, true, true, true, false, false] rfl rfl (take_ofW HT_.out HW_.out (by kernel_rfl)) (fun _ _ _ h => h) (Or.inl ⟨by rfl, ?_⟩) hHeld ?_ ?_
                          rotate_left
                          ·rintro w' ⟨s0, s1, s2, s3⟩
                           go_simp
                           with_reducible rfl
                          rotate_left
                          ·simp only [Act.put, pt11_, i64_w, i32_w]
                           rfl
                          refine one_ (i := 19) (N := some 104) #[true, true, true, true, true, true, true, true, true, true, true, true, true, true, true, true, true, true, true, true, false] rfl rfl (one_of HT_.out (by kernel_rfl)) (by decide) (fun K hK => ?_)
                          refine goes_ Try.func52 (by kernel_rfl) rfl #[.slice (some ad308) l0.length c0, .int .i64 ((rd_T31 l0 a1).f2), .string ((a2.extract 0 (x10_1 : Int).toNat) ++ (a2.extract (x11_2 : Int).toNat a2.size))] (by rfl) rfl rfl z11_4 ?_
                          with_reducible refine (ih k2 (by have := HK1.out; have := HK2.out; omega) _ _ l0 ((rd_T31 l0 a1).f2) ((a2.extract 0 (x10_1 : Int).toNat) ++ (a2.extract (x11_2 : Int).toNat a2.size)) true _ ?side1 ?side2 A63.out).mono ?_
                          (case side1 => repeat (first | exact (Kd.C_below HR0.out HB.out) | (with_reducible refine Kd.C_alloc ?_ _) | (with_reducible refine Kd.C_drewN ?_ _) | (with_reducible refine Kd.C_drew ?_)))
                          (case side2 => exact HC0.out)
                          rintro e w67 ⟨rfl, hb⟩
                          refine ⟨_, rfl, ?_⟩
                          have n0_ := Aside0.mk (blk_below (g := gb309) (o := .cells #[.int .i64 ((rd_T31 l0 a1).f0), .string ((rd_T31 l0 a1).f1), .int .i64 ((rd_T31 l0 a1).f2), .int .i64 ((rd_T31 l0 a1).f3)] 31 (0, 0)) (bd11_ BK309.out) hb)
                          have n1_ := Aside0.mk (below_step z11_0 hb)
                          clear BK309
                          clear HB
                          have BK309 := n0_
                          have HB := n1_
                          clear n0_ n1_
                          (try clear hb)
                          (try clear hb2)
                          (try clear hk)
                          (try clear hi)
                          refine hK.out _ _ ⟨(blk_cell BK309.out 0).trans rfl, (blk_cell BK309.out 1).trans rfl, (blk_cell BK309.out 2).trans rfl, (blk_cell BK309.out 3).trans rfl⟩ (fun hHeld => ?_)
                          clear hK K
                          refine norm_ (a' := ?_) ?_ ?_
                          rotate_left
                          ·show Act.put _ (some 104) _ = _
                           simp only [Act.put, pt11_, i64_w, i32_w]
                           rfl
                          refine pure_ (i := 20) (N := some 105) (v := ?_) (a' := ?_) #[true, true, true, true, true, true, true, true, true, true, true, true, true, true, true, true, true, true, true, true, true] rfl rfl (any_of HT_.out (by kernel_rfl)) (fun _ _ _ h => h) (Or.inl ⟨by rfl, ?_⟩) ?_ ?_
                          rotate_left
                          ·intro w'
                           go_simp
                           with_reducible rfl
                          rotate_left
                          ·simp only [Act.put, pt11_, i64_w, i32_w]
                           rfl
                          refine done_ (done_of HT_.out (by kernel_rfl)) ?_
                          try go_wp2
                          go_ret
                          exact ⟨z11_5, z11_0⟩
                         ·replace c64 := Bool.eq_false_iff.mpr c64
                          subst c64
                          have H1 : (impl_makes.l2 k2 l0 a2 x10_1 (wrap64 (x11_2 + 1)) ((rd_T31 l0 a1).f0) ((rd_T31 l0 a1).f1) ((rd_T31 l0 a1).f2) ((rd_T31 l0 a1).f3)) = some r := by rw [if_neg (show ¬ (false = true) by decide)] at H; exact H
                          clear H
                          have H := H1
                          clear H1
                          have H' := Aside0.mk H
                          clear H
                          try go_wp2
                          have n0_ := Aside0.mk (blk_drew BK309.out)
                          have n1_ := Aside0.mk (below_drew1 HB.out)
                          clear BK309
                          clear HB
                          have BK309 := n0_
                          have HB := n1_
                          clear n0_ n1_
                          refine start_ (n := 21) (S := fun w' => w'.cell? ⟨gb309, 0, none⟩ = some (.int .i64 ((rd_T31 l0 a1).f0)) ∧ w'.cell? ⟨gb309, 1, none⟩ = some (.string ((rd_T31 l0 a1).f1)) ∧ w'.cell? ⟨gb309, 2, none⟩ = some (.int .i64 ((rd_T31 l0 a1).f2)) ∧ w'.cell? ⟨gb309, 3, none⟩ = some (.int .i64 ((rd_T31 l0 a1).f3))) (ds := []) #[false, false, false, false, false, false, false, false, false, false, false, false, false, false, false, false, false, false, false, false, false] (by kernel_rfl) rfl rfl ⟨(blk_cell BK309.out 0).trans rfl, (blk_cell BK309.out 1).trans rfl, (blk_cell BK309.out 2).trans rfl, (blk_cell BK309.out 3).trans rfl⟩ (fun hHeld => ?_); refine with_tabW impl_makes.tab25 impl_makes.bits25 (fun HT_ HW_ => ?_)
                          generalize wr.drew = w68 at BK309 HB hHeld ⊢
                          refine pure_ (i := 0) (N := some 85) (v := ?_) (a' := ?_) #[true, false, false, false, false, false, false, false, false, false, false, false, false, false, false, false, false, false, false, false, false] rfl rfl (any_of HT_.out (by kernel_rfl)) (fun _ _ _ h => h) (Or.inl ⟨by rfl, ?_⟩) ?_ ?_
                          rotate_left
                          ·intro w'
                           go_simp
                           with_reducible rfl
                          rotate_left
                          ·simp only [Act.put, pt11_, i64_w, i32_w]
                           rfl
                          refine pure_ (i := 1) (N := some 86) (v := ?_) (a' := ?_) #[true, true, false, false, false, false, false, false, false, false, false, false, false, false, false, false, false, false, false, false, false] rfl rfl (any_of HT_.out (by kernel_rfl)) (fun _ _ _ h => h) (Or.inl ⟨by rfl, ?_⟩) ?_ ?_
                          rotate_left
                          ·intro w'
                           go_simp
                           with_reducible rfl
                          rotate_left
                          ·simp only [Act.put, pt11_, i64_w, i32_w]
                           rfl
                          refine pure_ (i := 3) (N := some 88) (v := ?_) (a' := ?_) #[true, true, false, true, false, false, false, false, false, false, false, false, false, false, false, false, false, false, false, false, false] rfl rfl (any_of HT_.out (by kernel_rfl)) (fun _ _ _ h => h) (Or.inl ⟨by rfl, ?_⟩) ?_ ?_
                          rotate_left
                          ·intro w'
                           go_simp
                           with_reducible rfl
                          rotate_left
                          ·simp only [Act.put, pt11_, i64_w, i32_w]
                           rfl
                          refine pure_ (i := 4) (N := some 89) (v := ?_) (a' := ?_) #[true, true, false, true, true, false, false, false, false, false, false, false, false, false, false, false, false, false, false, false, false] rfl rfl (any_of HT_.out (by kernel_rfl)) (fun _ _ _ h => h) (Or.inl ⟨by rfl, ?_⟩) ?_ ?_
                          rotate_left
                          ·intro w'
                           go_simp
                           with_reducible rfl
                          rotate_left
                          ·simp only [Act.put, pt11_, i64_w, i32_w]
                           rfl
                          refine pure_ (i := 5) (N := some 90) (v := ?_) (a' := ?_) #[true, true, false, true, true, true, false, false, false, false, false, false, false, false, false, false, false, false, false, false, false] rfl rfl (any_of HT_.out (by kernel_rfl)) (fun _ _ _ h => h) (Or.inl ⟨by rfl, ?_⟩) ?_ ?_
                          rotate_left
                          ·intro w'
                           go_simp
                           with_reducible rfl
                          rotate_left
                          ·simp only [Act.put, pt11_, i64_w, i32_w]
                           rfl
                          refine pure_ (i := 6) (N := some 91) (v := ?_) (a' := ?_) #[true, true, false, true, true, true, true, false, false, false, false, false, false, false, false, false, false, false, false, false, false] rfl rfl (any_of HT_.out (by kernel_rfl)) (fun _ _ _ h => h) (Or.inl ⟨by rfl, ?_⟩) ?_ ?_
                          rotate_left
                          ·intro w'
                           go_simp
                           with_reducible rfl
                          rotate_left
                          ·simp only [Act.put, pt11_, i64_w, i32_w]
                           rfl
                          refine take_ (i := 2) (N := some 87) (v := ?_) (a' := ?_) #[true, true, true, true, true, true, true, false, false, false, false, false, false, false, false, false, false, false, false, false, false] rfl rfl (take_ofW HT_.out HW_.out (by kernel_rfl)) (fun _ _ _ h => h) (Or.inl ⟨by rfl, ?_⟩) hHeld ?_ ?_
                          rotate_left
                          ·rintro w' ⟨s0, s1, s2, s3⟩
                           go_simp
                           with_reducible rfl
                          rotate_left
                          ·simp only [Act.put, pt11_, i64_w, i32_w]
                           rfl
                          refine one_ (i := 7) (N := some 92) #[true, true, true, true, true, true, true, true, false, false, false, false, false, false, false, false, false, false, false, false, false] rfl rfl (one_of HT_.out (by kernel_rfl)) (by decide) (fun K hK => ?_)
                          refine goes_ Try.func52 (by kernel_rfl) rfl #[.slice (some ad308) l0.length c0, .int .i64 ((rd_T31 l0 a1).f3), .string (a2.extract (x10_1 : Int).toNat (x11_2 : Int).toNat)] (by rfl) rfl rfl z11_4 ?_
                          with_reducible refine (ih k2 (by have := HK1.out; have := HK2.out; omega) _ _ l0 ((rd_T31 l0 a1).f3) (a2.extract (x10_1 : Int).toNat (x11_2 : Int).toNat) true _ ?side1 ?side2 A56.out).mono ?_
                          (case side1 => repeat (first | exact (Kd.C_below HR0.out HB.out) | (with_reducible refine Kd.C_alloc ?_ _) | (with_reducible refine Kd.C_drewN ?_ _) | (with_reducible refine Kd.C_drew ?_)))
                          (case side2 => exact HC0.out)
                          rintro e w69 ⟨rfl, hb⟩
                          refine ⟨_, rfl, ?_⟩
                          have n0_ := Aside0.mk (blk_below (g := gb309) (o := .cells #[.int .i64 ((rd_T31 l0 a1).f0), .string ((rd_T31 l0 a1).f1), .int .i64 ((rd_T31 l0 a1).f2), .int .i64 ((rd_T31 l0 a1).f3)] 31 (0, 0)) (bd11_ BK309.out) hb)
                          have n1_ := Aside0.mk (below_step z11_0 hb)
                          clear BK309
                          clear HB
                          have BK309 := n0_
                          have HB := n1_
                          clear n0_ n1_
                          (try clear hb)
                          (try clear hb2)
                          (try clear hk)
                          (try clear hi)
                          refine hK.out _ _ ⟨(blk_cell BK309.out 0).trans rfl, (blk_cell BK309.out 1).trans rfl, (blk_cell BK309.out 2).trans rfl, (blk_cell BK309.out 3).trans rfl⟩ (fun hHeld => ?_)
                          clear hK K
                          refine norm_ (a' := ?_) ?_ ?_
                          rotate_left
                          ·show Act.put _ (some 92) _ = _
                           simp only [Act.put, pt11_, i64_w, i32_w]
                           rfl
                          refine pure_ (i := 8) (N := some 93) (v := ?_) (a' := ?_) #[true, true, true, true, true, true, true, true, true, false, false, false, false, false, false, false, false, false, false, false, false] rfl rfl (any_of HT_.out (by kernel_rfl)) (fun _ _ _ h => h) (Or.inl ⟨by rfl, ?_⟩) ?_ ?_
                          rotate_left
                          ·intro w'
                           go_simp
                           with_reducible rfl
                          rotate_left
                          ·simp only [Act.put, pt11_, i64_w, i32_w]
                           rfl
                          refine pure_ (i := 9) (N := some 94) (v := ?_) (a' := ?_) #[true, true, true, true, true, true, true, true, true, true, false, false, false, false, false, false, false, false, false, false, false] rfl rfl (any_of HT_.out (by kernel_rfl)) (fun _ _ _ h => h) (Or.inl ⟨by rfl, ?_⟩) ?_ ?_
                          rotate_left
                          ·intro w'
                           go_simp
                           with_reducible rfl
                          rotate_left
                          ·simp only [Act.put, pt11_, i64_w, i32_w]
                           rfl
                          refine pure_ (i := 10) (N := some 95) (v := ?_) (a' := ?_) #[true, true, true, true, true, true, true, true, true, true, true, false, false, false, false, false, false, false, false, false, false] rfl rfl (any_of HT_.out (by kernel_rfl)) (fun _ _ _ h => h) (Or.inl ⟨by rfl, ?_⟩) ?_ ?_
                          rotate_left
                          ·intro w'
                           go_simp
                           with_reducible rfl
                          rotate_left
                          ·simp only [Act.put, pt11_, i64_w, i32_w]
                           rfl
                          refine pure_ (i := 12) (N := some 97) (v := ?_) (a' := ?_) #[true, true, true, true, true, true, true, true, true, true, true, false, true, false, false, false, false, false, false, false, false] rfl rfl (any_of HT_.out (by kernel_rfl)) (fun _ _ _ h => h) (Or.inl ⟨by rfl, ?_⟩) ?_ ?_
                          rotate_left
                          ·intro w'
                           go_simp
                           with_reducible rfl
                          rotate_left
                          ·simp only [Act.put, pt11_, i64_w, i32_w]
                           rfl
                          refine pure_ (i := 13) (N := some 98) (v := ?_) (a' := ?_) #[true, true, true, true, true, true, true, true, true, true, true, false, true, true, false, false, false, false, false, false, false] rfl rfl (any_of HT_.out (by kernel_rfl)) (fun _ _ _ h => h) (Or.inl ⟨by rfl, ?_⟩) ?_ ?_
                          rotate_left
                          ·intro w'
                           go_simp
                           with_reducible rfl
                          rotate_left
                          ·simp only [Act.put, pt11_, i64_w, i32_w]
                           rfl
                          refine pure_ (i := 14) (N := some 99) (v := ?_) (a' := ?_) #[true, true, true, true, true, true, true, true, true, true, true, false, true, true, true, false, false, false, false, false, false] rfl rfl (any_of HT_.out (by kernel_rfl)) (fun _ _ _ h => h) (Or.inl ⟨by rfl, ?_⟩) ?_ ?_
                          rotate_left
                          ·intro w'
                           go_simp
                           with_reducible rfl
                          rotate_left
                          ·simp only [Act.put, pt11_, i64_w, i32_w]
                           rfl
                          refine pure_ (i := 15) (N := some 100) (v := ?_) (a' := ?_) #[true, true, true, true, true, true, true, true, true, true, true, false, true, true, true, true, false, false, false, false, false] rfl rfl (any_of HT_.out (by kernel_rfl)) (fun _ _ _ h => h) (Or.inl ⟨by rfl, ?_⟩) ?_ ?_
                          rotate_left
                          ·intro w'
                           go_simp
                           with_reducible rfl
                          rotate_left
                          ·simp only [Act.put, pt11_, i64_w, i32_w]
                           rfl
                          refine pure_ (i := 16) (N := some 101) (v := ?_) (a' := ?_) #[true, true, true, true, true, true, true, true, true, true, true, false, true, true, true, true, true, false, false, false, false] rfl rfl (any_of HT_.out (by kernel_rfl)) (fun _ _ _ h => h) (Or.inl ⟨by rfl, ?_⟩) ?_ ?_
                          rotate_left
                          ·intro w'
                           go_simp
                           with_reducible rfl
                          rotate_left
                          ·simp only [Act.put, pt11_, i64_w, i32_w]
                           rfl
                          refine pure_ (i := 17) (N := some 102) (v := ?_) (a' := ?_) #[true, true, true, true, true, true, true, true, true, true, true, false, true, true, true, true, true, true, false, false, false] rfl rfl (any_of HT_.out (by kernel_rfl)) (fun _ _ _ h => h) (Or.inl ⟨by rfl, ?_⟩) ?_ ?_
                          rotate_left
                          ·intro w'
                           go_simp
                           with_reducible rfl
                          rotate_left
                          ·simp only [Act.put, pt11_, i64_w, i32_w]
                           rfl
                          refine pure_ (i := 18) (N := some 103) (v := ?_) (a' := ?_) #[true, true, true, true, true, true, true, true, true, true, true, false, true, true, true, true, true, true, true, false, false] rfl rfl (any_of HT_.out (by kernel_rfl)) (fun _ _ _ h => h) (Or.inl ⟨by rfl, ?_⟩) ?_ ?_
                          rotate_left
                          ·intro w'
                           go_simp
                           with_reducible rfl
                          rotate_left
                          ·simp only [Act.put, pt11_, i64_w, i32_w]
                           rfl
                          refine take_ (i := 11) (N := some 96) (v := ?_) (a' := ?_) #[true, true, true, true, true, true, true, true, true, true, true, true, true, true, true, true, true, true, true, false, false] rfl rfl (take_ofW HT_.out HW_.out (by kernel_rfl)) (fun _ _ _ h => h) (Or.inl ⟨by rfl, ?_⟩) hHeld ?_ ?_
                          rotate_left
                          ·rintro w' ⟨s0, s1, s2, s3⟩
                           go_simp
                           with_reducible rfl
                          rotate_left
                          ·simp only [Act.put, pt11_, i64_w, i32_w]
                           rfl
                          refine one_ (i := 19) (N := some 104) #[true, true, true, true, true, true, true, true, true, true, true, true, true, true, true, true, true, true, true, true, false] rfl rfl (one_of HT_.out (by kernel_rfl)) (by decide) (fun K hK => ?_)
                          refine goes_ Try.func52 (by kernel_rfl) rfl #[.slice (some ad308) l0.length c0, .int .i64 ((rd_T31 l0 a1).f2), .string ((a2.extract 0 (x10_1 : Int).toNat) ++ (a2.extract (x11_2 : Int).toNat a2.size))] (by rfl) rfl rfl z11_4 ?_
                          with_reducible refine (ih k2 (by have := HK1.out; have := HK2.out; omega) _ _ l0 ((rd_T31 l0 a1).f2) ((a2.extract 0 (x10_1 : Int).toNat) ++ (a2.extract (x11_2 : Int).toNat a2.size)) false _ ?side1 ?side2 A63.out).mono ?_
                          (case side1 => repeat (first | exact (Kd.C_below HR0.out HB.out) | (with_reducible refine Kd.C_alloc ?_ _) | (with_reducible refine Kd.C_drewN ?_ _) | (with_reducible refine Kd.C_drew ?_)))
                          (case side2 => exact HC0.out)
                          rintro e w70 ⟨rfl, hb⟩
                          refine ⟨_, rfl, ?_⟩
                          have n0_ := Aside0.mk (blk_below (g := gb309) (o := .cells #[.int .i64 ((rd_T31 l0 a1).f0), .string ((rd_T31 l0 a1).f1), .int .i64 ((rd_T31 l0 a1).f2), .int .i64 ((rd_T31 l0 a1).f3)] 31 (0, 0)) (bd11_ BK309.out) hb)
                          have n1_ := Aside0.mk (below_step z11_0 hb)
                          clear BK309
                          clear HB
                          have BK309 := n0_
                          have HB := n1_
                          clear n0_ n1_
                          (try clear hb)
                          (try clear hb2)
                          (try clear hk)
                          (try clear hi)
                          refine hK.out _ _ ⟨(blk_cell BK309.out 0).trans rfl, (blk_cell BK309.out 1).trans rfl, (blk_cell BK309.out 2).trans rfl, (blk_cell BK309.out 3).trans rfl⟩ (fun hHeld => ?_)
                          clear hK K
                          refine norm_ (a' := ?_) ?_ ?_
                          rotate_left
                          ·show Act.put _ (some 104) _ = _
                           simp only [Act.put, pt11_, i64_w, i32_w]
                           rfl
                          refine pure_ (i := 20) (N := some 105) (v := ?_) (a' := ?_) #[true, true, true, true, true, true, true, true, true, true, true, true, true, true, true, true, true, true, true, true, true] rfl rfl (any_of HT_.out (by kernel_rfl)) (fun _ _ _ h => h) (Or.inl ⟨by rfl, ?_⟩) ?_ ?_
                          rotate_left
                          ·intro w'
                           go_simp
                           with_reducible rfl
                          rotate_left
                          ·simp only [Act.put, pt11_, i64_w, i32_w]
                           rfl
                          refine done_ (done_of HT_.out (by kernel_rfl)) ?_
                          try go_wp2
                          go_roundg k2
                          case measure => have := HK1.out; have := HK2.out; omega
                          case rel => exact ⟨(wrap64 (x11_2 + 1)), (by first | rfl | (simp; done) | (simp [*]; done)), H', ⟨by have := HK1.out; have := HK2.out; omega⟩, ⟨z11_6⟩, ⟨z11_0⟩⟩
                        ·rw [if_neg c62] at H
                         exact absurd H (by simp)
                       ·rw [if_neg c60] at H
                        exact absurd H (by simp)
                      ·rw [if_neg c59] at H
                       exact absurd H (by simp)
                     ·replace c57 := Bool.eq_false_iff.mpr c57
                      subst c57
                      have H1 : (impl_makes.l2 k2 l0 a2 x10_1 (wrap64 (x11_2 + 1)) ((rd_T31 l0 a1).f0) ((rd_T31 l0 a1).f1) ((rd_T31 l0 a1).f2) ((rd_T31 l0 a1).f3)) = some r := by rw [if_neg (show ¬ (false = true) by decide)] at H; exact H
                      clear H
                      have H := H1
                      clear H1
                      have H' := Aside0.mk H
                      clear H
                      try go_wp2
                      have n0_ := Aside0.mk (blk_drew BK309.out)
                      have n1_ := Aside0.mk (below_drew1 HB.out)
                      clear BK309
                      clear HB
                      have BK309 := n0_
                      have HB := n1_
                      clear n0_ n1_
                      refine start_ (n := 21) (S := fun w' => w'.cell? ⟨gb309, 0, none⟩ = some (.int .i64 ((rd_T31 l0 a1).f0)) ∧ w'.cell? ⟨gb309, 1, none⟩ = some (.string ((rd_T31 l0 a1).f1)) ∧ w'.cell? ⟨gb309, 2, none⟩ = some (.int .i64 ((rd_T31 l0 a1).f2)) ∧ w'.cell? ⟨gb309, 3, none⟩ = some (.int .i64 ((rd_T31 l0 a1).f3))) (ds := []) #[false, false, false, false, false, false, false, false, false, false, false, false, false, false, false, false, false, false, false, false, false] (by kernel_rfl) rfl rfl ⟨(blk_cell BK309.out 0).trans rfl, (blk_cell BK309.out 1).trans rfl, (blk_cell BK309.out 2).trans rfl, (blk_cell BK309.out 3).trans rfl⟩ (fun hHeld => ?_); refine with_tabW impl_makes.tab25 impl_makes.bits25 (fun HT_ HW_ => ?_)
                      generalize wr.drew = w71 at BK309 HB hHeld ⊢
                      refine pure_ (i := 0) (N := some 85) (v := ?_) (a' := ?_) #[true, false, false, false, false, false, false, false, false, false, false, false, false, false, false, false, false, false, false, false, false] rfl rfl (any_of HT_.out (by kernel_rfl)) (fun _ _ _ h => h) (Or.inl ⟨by rfl, ?_⟩) ?_ ?_
                      rotate_left
                      ·intro w'
                       go_simp
                       with_reducible rfl
                      rotate_left
                      ·simp only [Act.put, pt11_, i64_w, i32_w]
                       rfl
                      refine pure_ (i := 1) (N := some 86) (v := ?_) (a' := ?_) #[true, true, false, false, false, false, false, false, false, false, false, false, false, false, false, false, false, false, false, false, false] rfl rfl (any_of HT_.out (by kernel_rfl)) (fun _ _ _ h => h) (Or.inl ⟨by rfl, ?_⟩) ?_ ?_
                      rotate_left
                      ·intro w'
                       go_simp
                       with_reducible rfl
                      rotate_left
                      ·simp only [Act.put, pt11_, i64_w, i32_w]
                       rfl
                      refine pure_ (i := 3) (N := some 88) (v := ?_) (a' := ?_) #[true, true, false, true, false, false, false, false, false, false, false, false, false, false, false, false, false, false, false, false, false] rfl rfl (any_of HT_.out (by kernel_rfl)) (fun _ _ _ h => h) (Or.inl ⟨by rfl, ?_⟩) ?_ ?_
                      rotate_left
                      ·intro w'
                       go_simp
                       with_reducible rfl
                      rotate_left
                      ·simp only [Act.put, pt11_, i64_w, i32_w]
                       rfl
                      refine pure_ (i := 4) (N := some 89) (v := ?_) (a' := ?_) #[true, true, false, true, true, false, false, false, false, false, false, false, false, false, false, false, false, false, false, false, false] rfl rfl (any_of HT_.out (by kernel_rfl)) (fun _ _ _ h => h) (Or.inl ⟨by rfl, ?_⟩) ?_ ?_
                      rotate_left
                      ·intro w'
                       go_simp
                       with_reducible rfl
                      rotate_left
                      ·simp only [Act.put, pt11_, i64_w, i32_w]
                       rfl
                      refine pure_ (i := 5) (N := some 90) (v := ?_) (a' := ?_) #[true, true, false, true, true, true, false, false, false, false, false, false, false, false, false, false, false, false, false, false, false] rfl rfl (any_of HT_.out (by kernel_rfl)) (fun _ _ _ h => h) (Or.inl ⟨by rfl, ?_⟩) ?_ ?_
                      rotate_left
                      ·intro w'
                       go_simp
                       with_reducible rfl
                      rotate_left
                      ·simp only [Act.put, pt11_, i64_w, i32_w]
                       rfl
                      refine pure_ (i := 6) (N := some 91) (v := ?_) (a' := ?_) #[true, true, false, true, true, true, true, false, false, false, false, false, false, false, false, false, false, false, false, false, false] rfl rfl (any_of HT_.out (by kernel_rfl)) (fun _ _ _ h => h) (Or.inl ⟨by rfl, ?_⟩) ?_ ?_
                      rotate_left
                      ·intro w'
                       go_simp
                       with_reducible rfl
                      rotate_left
                      ·simp only [Act.put, pt11_, i64_w, i32_w]
                       rfl
                      refine take_ (i := 2) (N := some 87) (v := ?_) (a' := ?_) #[true, true, true, true, true, true, true, false, false, false, false, false, false, false, false, false, false, false, false, false, false] rfl rfl (take_ofW HT_.out HW_.out (by kernel_rfl)) (fun _ _ _ h => h) (Or.inl ⟨by rfl, ?_⟩) hHeld ?_ ?_
                      rotate_left
                      ·rintro w' ⟨s0, s1, s2, s3⟩
                       go_simp
                       with_reducible rfl
                      rotate_left
                      ·simp only [Act.put, pt11_, i64_w, i32_w]
                       rfl
                      refine one_ (i := 7) (N := some 92) #[true, true, true, true, true, true, true, true, false, false, false, false, false, false, false, false, false, false, false, false, false] rfl rfl (one_of HT_.out (by kernel_rfl)) (by decide) (fun K hK => ?_)
                      refine goes_ Try.func52 (by kernel_rfl) rfl #[.slice (some ad308) l0.length c0, .int .i64 ((rd_T31 l0 a1).f3), .string (a2.extract (x10_1 : Int).toNat (x11_2 : Int).toNat)] (by rfl) rfl rfl z11_4 ?_
                      with_reducible refine (ih k2 (by have := HK1.out; have := HK2.out; omega) _ _ l0 ((rd_T31 l0 a1).f3) (a2.extract (x10_1 : Int).toNat (x11_2 : Int).toNat) false _ ?side1 ?side2 A56.out).mono ?_
                      (case side1 => repeat (first | exact (Kd.C_below HR0.out HB.out) | (with_reducible refine Kd.C_alloc ?_ _) | (with_reducible refine Kd.C_drewN ?_ _) | (with_reducible refine Kd.C_drew ?_)))
                      (case side2 => exact HC0.out)
                      rintro e w72 ⟨rfl, hb⟩
                      refine ⟨_, rfl, ?_⟩
                      have n0_ := Aside0.mk (blk_below (g := gb309) (o := .cells #[.int .i64 ((rd_T31 l0 a1).f0), .string ((rd_T31 l0 a1).f1), .int .i64 ((rd_T31 l0 a1).f2), .int .i64 ((rd_T31 l0 a1).f3)] 31 (0, 0)) (bd11_ BK309.out) hb)
                      have n1_ := Aside0.mk (below_step z11_0 hb)
                      clear BK309
                      clear HB
                      have BK309 := n0_
                      have HB := n1_
                      clear n0_ n1_
                      (try clear hb)
                      (try clear hb2)
                      (try clear hk)
                      (try clear hi)
                      refine hK.out _ _ ⟨(blk_cell BK309.out 0).trans rfl, (blk_cell BK309.out 1).trans rfl, (blk_cell BK309.out 2).trans rfl, (blk_cell BK309.out 3).trans rfl⟩ (fun hHeld => ?_)
                      clear hK K
                      refine norm_ (a' := ?_) ?_ ?_
                      rotate_left
                      ·show Act.put _ (some 92) _ = _
                       simp only [Act.put, pt11_, i64_w, i32_w]
                       rfl
                      refine pure_ (i := 8) (N := some 93) (v := ?_) (a' := ?_) #[true, true, true, true, true, true, true, true, true, false, false, false, false, false, false, false, false, false, false, false, false] rfl rfl (any_of HT_.out (by kernel_rfl)) (fun _ _ _ h => h) (Or.inl ⟨by rfl, ?_⟩) ?_ ?_
                      rotate_left
                      ·intro w'
                       go_simp
                       with_reducible rfl
                      rotate_left
                      ·simp only [Act.put, pt11_, i64_w, i32_w]
                       rfl
                      refine pure_ (i := 9) (N := some 94) (v := undef) (a' := ?_) #[true, true, true, true, true, true, true, true, true, true, false, false, false, false, false, false, false, false, false, false, false] rfl rfl (any_of HT_.out (by kernel_rfl)) (fun _ _ _ h => h) (Or.inr ⟨by rfl, rfl⟩) ?_ ?_
                      rotate_left
                      ·simp only [Act.put, pt11_, i64_w, i32_w]
                       rfl
                      refine pure_ (i := 10) (N := some 95) (v := undef) (a' := ?_) #[true, true, true, true, true, true, true, true, true, true, true, false, false, false, false, false, false, false, false, false, false] rfl rfl (any_of HT_.out (by kernel_rfl)) (fun _ _ _ h => h) (Or.inr ⟨by rfl, rfl⟩) ?_ ?_
                      rotate_left
                      ·simp only [Act.put, pt11_, i64_w, i32_w]
                       rfl
                      refine pure_ (i := 11) (N := some 96) (v := undef) (a' := ?_) #[true, true, true, true, true, true, true, true, true, true, true, true, false, false, false, false, false, false, false, false, false] rfl rfl (any_of HT_.out (by kernel_rfl)) (fun _ _ _ h => h) (Or.inr ⟨by rfl, rfl⟩) ?_ ?_
                      rotate_left
                      ·simp only [Act.put, pt11_, i64_w, i32_w]
                       rfl
                      refine pure_ (i := 12) (N := some 97) (v := undef) (a' := ?_) #[true, true, true, true, true, true, true, true, true, true, true, true, true, false, false, false, false, false, false, false, false] rfl rfl (any_of HT_.out (by kernel_rfl)) (fun _ _ _ h => h) (Or.inr ⟨by rfl, rfl⟩) ?_ ?_
                      rotate_left
                      ·simp only [Act.put, pt11_, i64_w, i32_w]
                       rfl
                      refine pure_ (i := 13) (N := some 98) (v := undef) (a' := ?_) #[true, true, true, true, true, true, true, true, true, true, true, true, true, true, false, false, false, false, false, false, false] rfl rfl (any_of HT_.out (by kernel_rfl)) (fun _ _ _ h => h) (Or.inr ⟨by rfl, rfl⟩) ?_ ?_
                      rotate_left
                      ·simp only [Act.put, pt11_, i64_w, i32_w]
                       rfl
                      refine pure_ (i := 14) (N := some 99) (v := undef) (a' := ?_) #[true, true, true, true, true, true, true, true, true, true, true, true, true, true, true, false, false, false, false, false, false] rfl rfl (any_of HT_.out (by kernel_rfl)) (fun _ _ _ h => h) (Or.inr ⟨by rfl, rfl⟩) ?_ ?_
                      rotate_left
                      ·simp only [Act.put, pt11_, i64_w, i32_w]
                       rfl
                      refine pure_ (i := 15) (N := some 100) (v := undef) (a' := ?_) #[true, true, true, true, true, true, true, true, true, true, true, true, true, true, true, true, false, false, false, false, false] rfl rfl (any_of HT_.out (by kernel_rfl)) (fun _ _ _ h => h) (Or.inr ⟨by rfl, rfl⟩) ?_ ?_
                      rotate_left
                      ·simp only [Act.put, pt11_, i64_w, i32_w]
                       rfl
                      refine pure_ (i := 16) (N := some 101) (v := undef) (a' := ?_) #[true, true, true, true, true, true, true, true, true, true, true, true, true, true, true, true, true, false, false, false, false] rfl rfl (any_of HT_.out (by kernel_rfl)) (fun _ _ _ h => h) (Or.inr ⟨by rfl, rfl⟩) ?_ ?_
                      rotate_left
                      ·simp only [Act.put, pt11_, i64_w, i32_w]
                       rfl
                      refine pure_ (i := 17) (N := some 102) (v := undef) (a' := ?_) #[true, true, true, true, true, true, true, true, true, true, true, true, true, true, true, true, true, true, false, false, false] rfl rfl (any_of HT_.out (by kernel_rfl)) (fun _ _ _ h => h) (Or.inr ⟨by rfl, rfl⟩) ?_ ?_
                      rotate_left
                      ·simp only [Act.put, pt11_, i64_w, i32_w]
                       rfl
                      refine pure_ (i := 18) (N := some 103) (v := undef) (a' := ?_) #[true, true, true, true, true, true, true, true, true, true, true, true, true, true, true, true, true, true, true, false, false] rfl rfl (any_of HT_.out (by kernel_rfl)) (fun _ _ _ h => h) (Or.inr ⟨by rfl, rfl⟩) ?_ ?_
                      rotate_left
                      ·simp only [Act.put, pt11_, i64_w, i32_w]
                       rfl
                      refine pure_ (i := 19) (N := some 104) (v := undef) (a' := ?_) #[true, true, true, true, true, true, true, true, true, true, true, true, true, true, true, true, true, true, true, true, false] rfl rfl (any_of HT_.out (by kernel_rfl)) (fun _ _ _ h => h) (Or.inr ⟨by rfl, rfl⟩) ?_ ?_
                      rotate_left
                      ·simp only [Act.put, pt11_, i64_w, i32_w]
                       rfl
                      refine pure_ (i := 20) (N := some 105) (v := ?_) (a' := ?_) #[true, true, true, true, true, true, true, true, true, true, true, true, true, true, true, true, true, true, true, true, true] rfl rfl (any_of HT_.out (by kernel_rfl)) (fun _ _ _ h => h) (Or.inl ⟨by rfl, ?_⟩) ?_ ?_
                      rotate_left
                      ·intro w'
                       go_simp
                       with_reducible rfl
                      rotate_left
                      ·simp only [Act.put, pt11_, i64_w, i32_w]
                       rfl
                      refine done_ (done_of HT_.out (by kernel_rfl)) ?_
                      try go_wp2
                      go_roundg k2
                      case measure => have := HK1.out; have := HK2.out; omega
                      case rel => exact ⟨(wrap64 (x11_2 + 1)), (by first | rfl | (simp; done) | (simp [*]; done)), H', ⟨by have := HK1.out; have := HK2.out; omega⟩, ⟨z11_6⟩, ⟨z11_0⟩⟩
                    ·rw [if_neg c55] at H
                     exact absurd H (by simp)
                   ·rw [if_neg c54] at H
                    exact absurd H (by simp)
                  ·rw [if_neg c53] at H
                   exact absurd H (by simp)
                 ·rw [if_neg c52] at H
                  have c52b0 : decide (x11_2 < (a2.size : Int)) = false := decide_eq_false c52
                  clear c52
                  have H' := Aside0.mk H
                  clear H
                  go_wp2
                  go_roundg k2
                  case measure => have := HK1.out; have := HK2.out; omega
                  case rel => exact ⟨(wrap64 (x10_1 + 1)), (by first | rfl | (simp; done) | (simp [*]; done)), H', ⟨by have := HK1.out; have := HK2.out; omega⟩, ⟨z11_6⟩, ⟨z11_0⟩⟩
              ·rw [if_neg c51] at H
               have c51b0 : decide (x10_1 < (a2.size : Int)) = false := decide_eq_false c51
               clear c51
               obtain rfl := Option.some.inj H
               go_wp2
               go_ret
               exact ⟨z11_5, z11_0⟩
           ·rw [if_neg c48] at H
            have c48b0 : (((rd_T31 l0 a1).f0) == 5) = false := beq_eq_false_iff_ne.mpr c48
            have c48b1 : (((rd_T31 l0 a1).f0) != 5) = true := bne_iff_ne.mpr c48
            by_cases c73 : ((rd_T31 l0 a1).f0) = 6
            ·rw [if_pos c73] at H
             have c73b0 : (((rd_T31 l0 a1).f0) == 6) = true := beq_iff_eq.mpr c73
             have c73b1 : (((rd_T31 l0 a1).f0) != 6) = false := bne_eq_false_iff_eq.mpr c73
             clear c73
             replace H := Option.bind_eq_some_iff.mp H
             obtain ⟨t318, A740, H⟩ := H
             replace H : (some (a2.toList == t318.toList)) = some r := H
             have A74 := Aside0.mk A740
             clear A740
             obtain rfl := Option.some.inj H
             have p308 : 0 ≤ (a1 : Int) := of_decide_eq_true z11_3
             have q308 : a1 < (l0.length : Int) := of_decide_eq_true z11_3
             obtain ⟨ad308, e308, hx308_0, hx308_1, hx308_2, hx308_3⟩ := at_T31 HR0.out a1 p308 q308
             cases e308
             replace p308 := eq_true p308
             replace q308 := eq_true q308
             go_enter Try.func52, Try.ntmps52
             go_wp2_with (first | ((with_reducible refine gate_dst (N := 7) rfl ?_); refine box_event ?hg (N := 7) ?hd (cs := #[.int .i64 0, .string (⟨#[]⟩ : ByteArray), .int .i64 0, .int .i64 0]) (t := 31) ?hr ?_; (case hd => rfl); (case hg => rfl); (case hr => first | (go_simp; done) | (go_simp; rfl)); intro gb309 hg w75 hbox hb; have n0_ := Aside0.mk (below_step z11_1 hb); have n1_ := Aside0.mk (hbox); have n2_ := Aside0.mk ((by rw [hg]; exact (below_size z11_1) : w.heap.size ≤ gb309)); have n3_ := Aside0.mk ((by rw [hg]; exact (below_size z11_1) : w.heap.size ≤ gb309)); clear HB; have HB := n0_; have BK309 := n1_; have GW309 := n2_; have GE309 := n3_; clear n0_ n1_ n2_ n3_; clear hb hbox hg; have hcz76_0 : w75.cell? ⟨gb309, 0, none⟩ = some (.int .i64 0) := (blk_cell BK309.out 0).trans rfl; have hcz76_1 : w75.cell? ⟨gb309, 1, none⟩ = some (.string (⟨#[]⟩ : ByteArray)) := (blk_cell BK309.out 1).trans rfl; have hcz76_2 : w75.cell? ⟨gb309, 2, none⟩ = some (.int .i64 0) := (blk_cell BK309.out 2).trans rfl; have hcz76_3 : w75.cell? ⟨gb309, 3, none⟩ = some (.int .i64 0) := (blk_cell BK309.out 3).trans rfl; have hfz76_0 := blk_frozen BK309.out 0; have hfz76_1 := blk_frozen BK309.out 1; have hfz76_2 := blk_frozen BK309.out 2; have hfz76_3 := blk_frozen BK309.out 3; have p310 : 0 ≤ (((rd_T31 l0 a1).f2) : Int) := of_decide_eq_true z11_3; have q310 : ((rd_T31 l0 a1).f2) < (l0.length : Int) := of_decide_eq_true z11_3; obtain ⟨ad310, e310, hx310_0, hx310_1, hx310_2, hx310_3⟩ := at_T31 HR0.out ((rd_T31 l0 a1).f2) p310 q310; obtain rfl : ad308 = ad310 := (by injection e310); have hn310_0 : ad308.block ≠ gb309 := Nat.ne_of_lt (Nat.lt_of_lt_of_le (bl11_ hx310_0) GW309.out); have hn310_1 : ad308.block ≠ gb309 := Nat.ne_of_lt (Nat.lt_of_lt_of_le (bl11_ hx310_0) GW309.out); have hn310_2 : ad308.block ≠ gb309 := Nat.ne_of_lt (Nat.lt_of_lt_of_le (bl11_ hx310_0) GW309.out); have hn310_3 : ad308.block ≠ gb309 := Nat.ne_of_lt (Nat.lt_of_lt_of_le (bl11_ hx310_0) GW309.out); replace hx310_0 := (HB.out.cell (World.block_lt_of_cell? w _ hx310_0)).trans hx310_0; replace hx310_1 := (HB.out.cell (World.block_lt_of_cell? w _ hx310_1)).trans hx310_1; replace hx310_2 := (HB.out.cell (World.block_lt_of_cell? w _ hx310_2)).trans hx310_2; replace hx310_3 := (HB.out.cell (World.block_lt_of_cell? w _ hx310_3)).trans hx310_3; replace hx310_0 := (cell_far (p := ⟨gb309, 0, none⟩) (ab11_ hn310_0) (.int .i64 ((rd_T31 l0 a1).f0))).trans hx310_0; replace hx310_1 := (cell_far (p := ⟨gb309, 0, none⟩) (ab11_ hn310_0) (.int .i64 ((rd_T31 l0 a1).f0))).trans hx310_1; replace hx310_2 := (cell_far (p := ⟨gb309, 0, none⟩) (ab11_ hn310_0) (.int .i64 ((rd_T31 l0 a1).f0))).trans hx310_2; replace hx310_3 := (cell_far (p := ⟨gb309, 0, none⟩) (ab11_ hn310_0) (.int .i64 ((rd_T31 l0 a1).f0))).trans hx310_3; replace hx310_0 := (cell_far (p := ⟨gb309, 1, none⟩) (ab11_ hn310_1) (.string ((rd_T31 l0 a1).f1))).trans hx310_0; replace hx310_1 := (cell_far (p := ⟨gb309, 1, none⟩) (ab11_ hn310_1) (.string ((rd_T31 l0 a1).f1))).trans hx310_1; replace hx310_2 := (cell_far (p := ⟨gb309, 1, none⟩) (ab11_ hn310_1) (.string ((rd_T31 l0 a1).f1))).trans hx310_2; replace hx310_3 := (cell_far (p := ⟨gb309, 1, none⟩) (ab11_ hn310_1) (.string ((rd_T31 l0 a1).f1))).trans hx310_3; replace hx310_0 := (cell_far (p := ⟨gb309, 2, none⟩) (ab11_ hn310_2) (.int .i64 ((rd_T31 l0 a1).f2))).trans hx310_0; replace hx310_1 := (cell_far (p := ⟨gb309, 2, none⟩) (ab11_ hn310_2) (.int .i64 ((rd_T31 l0 a1).f2))).trans hx310_1; replace hx310_2 := (cell_far (p := ⟨gb309, 2, none⟩) (ab11_ hn310_2) (.int .i64 ((rd_T31 l0 a1).f2))).trans hx310_2; replace hx310_3 := (cell_far (p := ⟨gb309, 2, none⟩) (ab11_ hn310_2) (.int .i64 ((rd_T31 l0 a1).f2))).trans hx310_3; replace hx310_0 := (cell_far (p := ⟨gb309, 3, none⟩) (ab11_ hn310_3) (.int .i64 ((rd_T31 l0 a1).f3))).trans hx310_0; replace hx310_1 := (cell_far (p := ⟨gb309, 3, none⟩) (ab11_ hn310_3) (.int .i64 ((rd_T31 l0 a1).f3))).trans hx310_1; replace hx310_2 := (cell_far (p := ⟨gb309, 3, none⟩) (ab11_ hn310_3) (.int .i64 ((rd_T31 l0 a1).f3))).trans hx310_2; replace hx310_3 := (cell_far (p := ⟨gb309, 3, none⟩) (ab11_ hn310_3) (.int .i64 ((rd_T31 l0 a1).f3))).trans hx310_3; clear hn310_0; clear hn310_1; clear hn310_2; clear hn310_3; replace p310 := eq_true p310; replace q310 := eq_true q310) | ((with_reducible refine gate_callee (f := 25) rfl ?_); refine goesL_ (some 110) rfl rfl Try.func25 (by kernel_rfl) rfl #[.string ((rd_T31 l0 ((rd_T31 l0 a1).f2)).f1)] rfl z11_4 ?_; (with_reducible refine (impl_HeadOf.calls k ((rd_T31 l0 ((rd_T31 l0 a1).f2)).f1) t318 _ A74.out).mono ?_); rintro e w' ⟨rfl, ⟨nd, rfl⟩⟩; refine ⟨_, rfl, ?_⟩))
             go_ret
             exact ⟨z11_5, z11_0⟩
            ·rw [if_neg c73] at H
             have c73b0 : (((rd_T31 l0 a1).f0) == 6) = false := beq_eq_false_iff_ne.mpr c73
             have c73b1 : (((rd_T31 l0 a1).f0) != 6) = true := bne_iff_ne.mpr c73
             by_cases c77 : ((rd_T31 l0 a1).f0) = 7
             ·rw [if_pos c77] at H
              have c77b0 : (((rd_T31 l0 a1).f0) == 7) = true := beq_iff_eq.mpr c77
              have c77b1 : (((rd_T31 l0 a1).f0) != 7) = false := bne_eq_false_iff_eq.mpr c77
              clear c77
              replace H := Option.bind_eq_some_iff.mp H
              obtain ⟨t319, A780, H⟩ := H
              replace H : (some (a2.toList == t319.toList)) = some r := H
              have A78 := Aside0.mk A780
              clear A780
              obtain rfl := Option.some.inj H
              have p308 : 0 ≤ (a1 : Int) := of_decide_eq_true z11_3
              have q308 : a1 < (l0.length : Int) := of_decide_eq_true z11_3
              obtain ⟨ad308, e308, hx308_0, hx308_1, hx308_2, hx308_3⟩ := at_T31 HR0.out a1 p308 q308
              cases e308
              replace p308 := eq_true p308
              replace q308 := eq_true q308
              go_enter Try.func52, Try.ntmps52
              go_wp2_with (first | ((with_reducible refine gate_dst (N := 7) rfl ?_); refine box_event ?hg (N := 7) ?hd (cs := #[.int .i64 0, .string (⟨#[]⟩ : ByteArray), .int .i64 0, .int .i64 0]) (t := 31) ?hr ?_; (case hd => rfl); (case hg => rfl); (case hr => first | (go_simp; done) | (go_simp; rfl)); intro gb309 hg w79 hbox hb; have n0_ := Aside0.mk (below_step z11_1 hb); have n1_ := Aside0.mk (hbox); have n2_ := Aside0.mk ((by rw [hg]; exact (below_size z11_1) : w.heap.size ≤ gb309)); have n3_ := Aside0.mk ((by rw [hg]; exact (below_size z11_1) : w.heap.size ≤ gb309)); clear HB; have HB := n0_; have BK309 := n1_; have GW309 := n2_; have GE309 := n3_; clear n0_ n1_ n2_ n3_; clear hb hbox hg; have hcz80_0 : w79.cell? ⟨gb309, 0, none⟩ = some (.int .i64 0) := (blk_cell BK309.out 0).trans rfl; have hcz80_1 : w79.cell? ⟨gb309, 1, none⟩ = some (.string (⟨#[]⟩ : ByteArray)) := (blk_cell BK309.out 1).trans rfl; have hcz80_2 : w79.cell? ⟨gb309, 2, none⟩ = some (.int .i64 0) := (blk_cell BK309.out 2).trans rfl; have hcz80_3 : w79.cell? ⟨gb309, 3, none⟩ = some (.int .i64 0) := (blk_cell BK309.out 3).trans rfl; have hfz80_0 := blk_frozen BK309.out 0; have hfz80_1 := blk_frozen BK309.out 1; have hfz80_2 := blk_frozen BK309.out 2; have hfz80_3 := blk_frozen BK309.out 3; have p310 : 0 ≤ (((rd_T31 l0 a1).f2) : Int) := of_decide_eq_true z11_3; have q310 : ((rd_T31 l0 a1).f2) < (l0.length : Int) := of_decide_eq_true z11_3; obtain ⟨ad310, e310, hx310_0, hx310_1, hx310_2, hx310_3⟩ := at_T31 HR0.out ((rd_T31 l0 a1).f2) p310 q310; obtain rfl : ad308 = ad310 := (by injection e310); have hn310_0 : ad308.block ≠ gb309 := Nat.ne_of_lt (Nat.lt_of_lt_of_le (bl11_ hx310_0) GW309.out); have hn310_1 : ad308.block ≠ gb309 := Nat.ne_of_lt (Nat.lt_of_lt_of_le (bl11_ hx310_0) GW309.out); have hn310_2 : ad308.block ≠ gb309 := Nat.ne_of_lt (Nat.lt_of_lt_of_le (bl11_ hx310_0) GW309.out); have hn310_3 : ad308.block ≠ gb309 := Nat.ne_of_lt (Nat.lt_of_lt_of_le (bl11_ hx310_0) GW309.out); replace hx310_0 := (HB.out.cell (World.block_lt_of_cell? w _ hx310_0)).trans hx310_0; replace hx310_1 := (HB.out.cell (World.block_lt_of_cell? w _ hx310_1)).trans hx310_1; replace hx310_2 := (HB.out.cell (World.block_lt_of_cell? w _ hx310_2)).trans hx310_2; replace hx310_3 := (HB.out.cell (World.block_lt_of_cell? w _ hx310_3)).trans hx310_3; replace hx310_0 := (cell_far (p := ⟨gb309, 0, none⟩) (ab11_ hn310_0) (.int .i64 ((rd_T31 l0 a1).f0))).trans hx310_0; replace hx310_1 := (cell_far (p := ⟨gb309, 0, none⟩) (ab11_ hn310_0) (.int .i64 ((rd_T31 l0 a1).f0))).trans hx310_1; replace hx310_2 := (cell_far (p := ⟨gb309, 0, none⟩) (ab11_ hn310_0) (.int .i64 ((rd_T31 l0 a1).f0))).trans hx310_2; replace hx310_3 := (cell_far (p := ⟨gb309, 0, none⟩) (ab11_ hn310_0) (.int .i64 ((rd_T31 l0 a1).f0))).trans hx310_3; replace hx310_0 := (cell_far (p := ⟨gb309, 1, none⟩) (ab11_ hn310_1) (.string ((rd_T31 l0 a1).f1))).trans hx310_0; replace hx310_1 := (cell_far (p := ⟨gb309, 1, none⟩) (ab11_ hn310_1) (.string ((rd_T31 l0 a1).f1))).trans hx310_1; replace hx310_2 := (cell_far (p := ⟨gb309, 1, none⟩) (ab11_ hn310_1) (.string ((rd_T31 l0 a1).f1))).trans hx310_2; replace hx310_3 := (cell_far (p := ⟨gb309, 1, none⟩) (ab11_ hn310_1) (.string ((rd_T31 l0 a1).f1))).trans hx310_3; replace hx310_0 := (cell_far (p := ⟨gb309, 2, none⟩) (ab11_ hn310_2) (.int .i64 ((rd_T31 l0 a1).f2))).trans hx310_0; replace hx310_1 := (cell_far (p := ⟨gb309, 2, none⟩) (ab11_ hn310_2) (.int .i64 ((rd_T31 l0 a1).f2))).trans hx310_1; replace hx310_2 := (cell_far (p := ⟨gb309, 2, none⟩) (ab11_ hn310_2) (.int .i64 ((rd_T31 l0 a1).f2))).trans hx310_2; replace hx310_3 := (cell_far (p := ⟨gb309, 2, none⟩) (ab11_ hn310_2) (.int .i64 ((rd_T31 l0 a1).f2))).trans hx310_3; replace hx310_0 := (cell_far (p := ⟨gb309, 3, none⟩) (ab11_ hn310_3) (.int .i64 ((rd_T31 l0 a1).f3))).trans hx310_0; replace hx310_1 := (cell_far (p := ⟨gb309, 3, none⟩) (ab11_ hn310_3) (.int .i64 ((rd_T31 l0 a1).f3))).trans hx310_1; replace hx310_2 := (cell_far (p := ⟨gb309, 3, none⟩) (ab11_ hn310_3) (.int .i64 ((rd_T31 l0 a1).f3))).trans hx310_2; replace hx310_3 := (cell_far (p := ⟨gb309, 3, none⟩) (ab11_ hn310_3) (.int .i64 ((rd_T31 l0 a1).f3))).trans hx310_3; clear hn310_0; clear hn310_1; clear hn310_2; clear hn310_3; replace p310 := eq_true p310; replace q310 := eq_true q310) | ((with_reducible refine gate_callee (f := 26) rfl ?_); refine goesL_ (some 116) rfl rfl Try.func26 (by kernel_rfl) rfl #[.string ((rd_T31 l0 ((rd_T31 l0 a1).f2)).f1)] rfl z11_4 ?_; (with_reducible refine (impl_WithoutHead.calls k ((rd_T31 l0 ((rd_T31 l0 a1).f2)).f1) t319 _ A78.out).mono ?_); rintro e w' ⟨rfl, ⟨nd, rfl⟩⟩; refine ⟨_, rfl, ?_⟩))
              go_ret
              exact ⟨z11_5, z11_0⟩
             ·rw [if_neg c77] at H
              have c77b0 : (((rd_T31 l0 a1).f0) == 7) = false := beq_eq_false_iff_ne.mpr c77
              have c77b1 : (((rd_T31 l0 a1).f0) != 7) = true := bne_iff_ne.mpr c77
              by_cases c81 : ((rd_T31 l0 a1).f0) = 8
              ·rw [if_pos c81] at H
               have c81b0 : (((rd_T31 l0 a1).f0) == 8) = true := beq_iff_eq.mpr c81
               have c81b1 : (((rd_T31 l0 a1).f0) != 8) = false := bne_eq_false_iff_eq.mpr c81
               clear c81
               replace H := Option.bind_eq_some_iff.mp H
               obtain ⟨t320, A820, H⟩ := H
               replace H : (some (a2.toList == t320.toList)) = some r := H
               have A82 := Aside0.mk A820
               clear A820
               obtain rfl := Option.some.inj H
               have p308 : 0 ≤ (a1 : Int) := of_decide_eq_true z11_3
               have q308 : a1 < (l0.length : Int) := of_decide_eq_true z11_3
               obtain ⟨ad308, e308, hx308_0, hx308_1, hx308_2, hx308_3⟩ := at_T31 HR0.out a1 p308 q308
               cases e308
               replace p308 := eq_true p308
               replace q308 := eq_true q308
               go_enter Try.func52, Try.ntmps52
               go_wp2_with (first | ((with_reducible refine gate_dst (N := 7) rfl ?_); refine box_event ?hg (N := 7) ?hd (cs := #[.int .i64 0, .string (⟨#[]⟩ : ByteArray), .int .i64 0, .int .i64 0]) (t := 31) ?hr ?_; (case hd => rfl); (case hg => rfl); (case hr => first | (go_simp; done) | (go_simp; rfl)); intro gb309 hg w83 hbox hb; have n0_ := Aside0.mk (below_step z11_1 hb); have n1_ := Aside0.mk (hbox); have n2_ := Aside0.mk ((by rw [hg]; exact (below_size z11_1) : w.heap.size ≤ gb309)); have n3_ := Aside0.mk ((by rw [hg]; exact (below_size z11_1) : w.heap.size ≤ gb309)); clear HB; have HB := n0_; have BK309 := n1_; have GW309 := n2_; have GE309 := n3_; clear n0_ n1_ n2_ n3_; clear hb hbox hg; have hcz84_0 : w83.cell? ⟨gb309, 0, none⟩ = some (.int .i64 0) := (blk_cell BK309.out 0).trans rfl; have hcz84_1 : w83.cell? ⟨gb309, 1, none⟩ = some (.string (⟨#[]⟩ : ByteArray)) := (blk_cell BK309.out 1).trans rfl; have hcz84_2 : w83.cell? ⟨gb309, 2, none⟩ = some (.int .i64 0) := (blk_cell BK309.out 2).trans rfl; have hcz84_3 : w83.cell? ⟨gb309, 3, none⟩ = some (.int .i64 0) := (blk_cell BK309.out 3).trans rfl; have hfz84_0 := blk_frozen BK309.out 0; have hfz84_1 := blk_frozen BK309.out 1; have hfz84_2 := blk_frozen BK309.out 2; have hfz84_3 := blk_frozen BK309.out 3; have p310 : 0 ≤ (((rd_T31 l0 a1).f2) : Int) := of_decide_eq_true z11_3; have q310 : ((rd_T31 l0 a1).f2) < (l0.length : Int) := of_decide_eq_true z11_3; obtain ⟨ad310, e310, hx310_0, hx310_1, hx310_2, hx310_3⟩ := at_T31 HR0.out ((rd_T31 l0 a1).f2) p310 q310; obtain rfl : ad308 = ad310 := (by injection e310); have hn310_0 : ad308.block ≠ gb309 := Nat.ne_of_lt (Nat.lt_of_lt_of_le (bl11_ hx310_0) GW309.out); have hn310_1 : ad308.block ≠ gb309 := Nat.ne_of_lt (Nat.lt_of_lt_of_le (bl11_ hx310_0) GW309.out); have hn310_2 : ad308.block ≠ gb309 := Nat.ne_of_lt (Nat.lt_of_lt_of_le (bl11_ hx310_0) GW309.out); have hn310_3 : ad308.block ≠ gb309 := Nat.ne_of_lt (Nat.lt_of_lt_of_le (bl11_ hx310_0) GW309.out); replace hx310_0 := (HB.out.cell (World.block_lt_of_cell? w _ hx310_0)).trans hx310_0; replace hx310_1 := (HB.out.cell (World.block_lt_of_cell? w _ hx310_1)).trans hx310_1; replace hx310_2 := (HB.out.cell (World.block_lt_of_cell? w _ hx310_2)).trans hx310_2; replace hx310_3 := (HB.out.cell (World.block_lt_of_cell? w _ hx310_3)).trans hx310_3; replace hx310_0 := (cell_far (p := ⟨gb309, 0, none⟩) (ab11_ hn310_0) (.int .i64 ((rd_T31 l0 a1).f0))).trans hx310_0; replace hx310_1 := (cell_far (p := ⟨gb309, 0, none⟩) (ab11_ hn310_0) (.int .i64 ((rd_T31 l0 a1).f0))).trans hx310_1; replace hx310_2 := (cell_far (p := ⟨gb309, 0, none⟩) (ab11_ hn310_0) (.int .i64 ((rd_T31 l0 a1).f0))).trans hx310_2; replace hx310_3 := (cell_far (p := ⟨gb309, 0, none⟩) (ab11_ hn310_0) (.int .i64 ((rd_T31 l0 a1).f0))).trans hx310_3; replace hx310_0 := (cell_far (p := ⟨gb309, 1, none⟩) (ab11_ hn310_1) (.string ((rd_T31 l0 a1).f1))).trans hx310_0; replace hx310_1 := (cell_far (p := ⟨gb309, 1, none⟩) (ab11_ hn310_1) (.string ((rd_T31 l0 a1).f1))).trans hx310_1; replace hx310_2 := (cell_far (p := ⟨gb309, 1, none⟩) (ab11_ hn310_1) (.string ((rd_T31 l0 a1).f1))).trans hx310_2; replace hx310_3 := (cell_far (p := ⟨gb309, 1, none⟩) (ab11_ hn310_1) (.string ((rd_T31 l0 a1).f1))).trans hx310_3; replace hx310_0 := (cell_far (p := ⟨gb309, 2, none⟩) (ab11_ hn310_2) (.int .i64 ((rd_T31 l0 a1).f2))).trans hx310_0; replace hx310_1 := (cell_far (p := ⟨gb309, 2, none⟩) (ab11_ hn310_2) (.int .i64 ((rd_T31 l0 a1).f2))).trans hx310_1; replace hx310_2 := (cell_far (p := ⟨gb309, 2, none⟩) (ab11_ hn310_2) (.int .i64 ((rd_T31 l0 a1).f2))).trans hx310_2; replace hx310_3 := (cell_far (p := ⟨gb309, 2, none⟩) (ab11_ hn310_2) (.int .i64 ((rd_T31 l0 a1).f2))).trans hx310_3; replace hx310_0 := (cell_far (p := ⟨gb309, 3, none⟩) (ab11_ hn310_3) (.int .i64 ((rd_T31 l0 a1).f3))).trans hx310_0; replace hx310_1 := (cell_far (p := ⟨gb309, 3, none⟩) (ab11_ hn310_3) (.int .i64 ((rd_T31 l0 a1).f3))).trans hx310_1; replace hx310_2 := (cell_far (p := ⟨gb309, 3, none⟩) (ab11_ hn310_3) (.int .i64 ((rd_T31 l0 a1).f3))).trans hx310_2; replace hx310_3 := (cell_far (p := ⟨gb309, 3, none⟩) (ab11_ hn310_3) (.int .i64 ((rd_T31 l0 a1).f3))).trans hx310_3; clear hn310_0; clear hn310_1; clear hn310_2; clear hn310_3; replace p310 := eq_true p310; replace q310 := eq_true q310) | ((with_reducible refine gate_callee (f := 27) rfl ?_); refine goesL_ (some 122) rfl rfl Try.func27 (by kernel_rfl) rfl #[.string ((rd_T31 l0 ((rd_T31 l0 a1).f2)).f1)] rfl z11_4 ?_; (with_reducible refine (impl_WithoutTail.calls k ((rd_T31 l0 ((rd_T31 l0 a1).f2)).f1) t320 _ A82.out).mono ?_); rintro e w' ⟨rfl, ⟨nd, rfl⟩⟩; refine ⟨_, rfl, ?_⟩))
               go_ret
               exact ⟨z11_5, z11_0⟩
              ·rw [if_neg c81] at H
               have c81b0 : (((rd_T31 l0 a1).f0) == 8) = false := beq_eq_false_iff_ne.mpr c81
               have c81b1 : (((rd_T31 l0 a1).f0) != 8) = true := bne_iff_ne.mpr c81
               by_cases c85 : ((rd_T31 l0 a1).f0) = 9
               ·rw [if_pos c85] at H
                have c85b0 : (((rd_T31 l0 a1).f0) == 9) = true := beq_iff_eq.mpr c85
                have c85b1 : (((rd_T31 l0 a1).f0) != 9) = false := bne_eq_false_iff_eq.mpr c85
                clear c85
                replace H := Option.bind_eq_some_iff.mp H
                obtain ⟨t321, A860, H⟩ := H
                replace H : (some t321) = some r := H
                have A86 := Aside0.mk A860
                clear A860
                obtain rfl := Option.some.inj H
                have p308 : 0 ≤ (a1 : Int) := of_decide_eq_true z11_3
                have q308 : a1 < (l0.length : Int) := of_decide_eq_true z11_3
                obtain ⟨ad308, e308, hx308_0, hx308_1, hx308_2, hx308_3⟩ := at_T31 HR0.out a1 p308 q308
                cases e308
                replace p308 := eq_true p308
                replace q308 := eq_true q308
                go_enter Try.func52, Try.ntmps52
                go_wp2_with (first | ((with_reducible refine gate_dst (N := 7) rfl ?_); refine box_event ?hg (N := 7) ?hd (cs := #[.int .i64 0, .string (⟨#[]⟩ : ByteArray), .int .i64 0, .int .i64 0]) (t := 31) ?hr ?_; (case hd => rfl); (case hg => rfl); (case hr => first | (go_simp; done) | (go_simp; rfl)); intro gb309 hg w87 hbox hb; have n0_ := Aside0.mk (below_step z11_1 hb); have n1_ := Aside0.mk (hbox); have n2_ := Aside0.mk ((by rw [hg]; exact (below_size z11_1) : w.heap.size ≤ gb309)); have n3_ := Aside0.mk ((by rw [hg]; exact (below_size z11_1) : w.heap.size ≤ gb309)); clear HB; have HB := n0_; have BK309 := n1_; have GW309 := n2_; have GE309 := n3_; clear n0_ n1_ n2_ n3_; clear hb hbox hg; have hcz88_0 : w87.cell? ⟨gb309, 0, none⟩ = some (.int .i64 0) := (blk_cell BK309.out 0).trans rfl; have hcz88_1 : w87.cell? ⟨gb309, 1, none⟩ = some (.string (⟨#[]⟩ : ByteArray)) := (blk_cell BK309.out 1).trans rfl; have hcz88_2 : w87.cell? ⟨gb309, 2, none⟩ = some (.int .i64 0) := (blk_cell BK309.out 2).trans rfl; have hcz88_3 : w87.cell? ⟨gb309, 3, none⟩ = some (.int .i64 0) := (blk_cell BK309.out 3).trans rfl; have hfz88_0 := blk_frozen BK309.out 0; have hfz88_1 := blk_frozen BK309.out 1; have hfz88_2 := blk_frozen BK309.out 2; have hfz88_3 := blk_frozen BK309.out 3; have p310 : 0 ≤ (((rd_T31 l0 a1).f2) : Int) := of_decide_eq_true z11_3; have q310 : ((rd_T31 l0 a1).f2) < (l0.length : Int) := of_decide_eq_true z11_3; obtain ⟨ad310, e310, hx310_0, hx310_1, hx310_2, hx310_3⟩ := at_T31 HR0.out ((rd_T31 l0 a1).f2) p310 q310; obtain rfl : ad308 = ad310 := (by injection e310); have hn310_0 : ad308.block ≠ gb309 := Nat.ne_of_lt (Nat.lt_of_lt_of_le (bl11_ hx310_0) GW309.out); have hn310_1 : ad308.block ≠ gb309 := Nat.ne_of_lt (Nat.lt_of_lt_of_le (bl11_ hx310_0) GW309.out); have hn310_2 : ad308.block ≠ gb309 := Nat.ne_of_lt (Nat.lt_of_lt_of_le (bl11_ hx310_0) GW309.out); have hn310_3 : ad308.block ≠ gb309 := Nat.ne_of_lt (Nat.lt_of_lt_of_le (bl11_ hx310_0) GW309.out); replace hx310_0 := (HB.out.cell (World.block_lt_of_cell? w _ hx310_0)).trans hx310_0; replace hx310_1 := (HB.out.cell (World.block_lt_of_cell? w _ hx310_1)).trans hx310_1; replace hx310_2 := (HB.out.cell (World.block_lt_of_cell? w _ hx310_2)).trans hx310_2; replace hx310_3 := (HB.out.cell (World.block_lt_of_cell? w _ hx310_3)).trans hx310_3; replace hx310_0 := (cell_far (p := ⟨gb309, 0, none⟩) (ab11_ hn310_0) (.int .i64 ((rd_T31 l0 a1).f0))).trans hx310_0; replace hx310_1 := (cell_far (p := ⟨gb309, 0, none⟩) (ab11_ hn310_0) (.int .i64 ((rd_T31 l0 a1).f0))).trans hx310_1; replace hx310_2 := (cell_far (p := ⟨gb309, 0, none⟩) (ab11_ hn310_0) (.int .i64 ((rd_T31 l0 a1).f0))).trans hx310_2; replace hx310_3 := (cell_far (p := ⟨gb309, 0, none⟩) (ab11_ hn310_0) (.int .i64 ((rd_T31 l0 a1).f0))).trans hx310_3; replace hx310_0 := (cell_far (p := ⟨gb309, 1, none⟩) (ab11_ hn310_1) (.string ((rd_T31 l0 a1).f1))).trans hx310_0; replace hx310_1 := (cell_far (p := ⟨gb309, 1, none⟩) (ab11_ hn310_1) (.string ((rd_T31 l0 a1).f1))).trans hx310_1; replace hx310_2 := (cell_far (p := ⟨gb309, 1, none⟩) (ab11_ hn310_1) (.string ((rd_T31 l0 a1).f1))).trans hx310_2; replace hx310_3 := (cell_far (p := ⟨gb309, 1, none⟩) (ab11_ hn310_1) (.string ((rd_T31 l0 a1).f1))).trans hx310_3; replace hx310_0 := (cell_far (p := ⟨gb309, 2, none⟩) (ab11_ hn310_2) (.int .i64 ((rd_T31 l0 a1).f2))).trans hx310_0; replace hx310_1 := (cell_far (p := ⟨gb309, 2, none⟩) (ab11_ hn310_2) (.int .i64 ((rd_T31 l0 a1).f2))).trans hx310_1; replace hx310_2 := (cell_far (p := ⟨gb309, 2, none⟩) (ab11_ hn310_2) (.int .i64 ((rd_T31 l0 a1).f2))).trans hx310_2; replace hx310_3 := (cell_far (p := ⟨gb309, 2, none⟩) (ab11_ hn310_2) (.int .i64 ((rd_T31 l0 a1).f2))).trans hx310_3; replace hx310_0 := (cell_far (p := ⟨gb309, 3, none⟩) (ab11_ hn310_3) (.int .i64 ((rd_T31 l0 a1).f3))).trans hx310_0; replace hx310_1 := (cell_far (p := ⟨gb309, 3, none⟩) (ab11_ hn310_3) (.int .i64 ((rd_T31 l0 a1).f3))).trans hx310_1; replace hx310_2 := (cell_far (p := ⟨gb309, 3, none⟩) (ab11_ hn310_3) (.int .i64 ((rd_T31 l0 a1).f3))).trans hx310_2; replace hx310_3 := (cell_far (p := ⟨gb309, 3, none⟩) (ab11_ hn310_3) (.int .i64 ((rd_T31 l0 a1).f3))).trans hx310_3; clear hn310_0; clear hn310_1; clear hn310_2; clear hn310_3; replace p310 := eq_true p310; replace q310 := eq_true q310) | ((with_reducible refine gate_callee (f := 16) rfl ?_); refine goesL_ (some 128) rfl rfl Try.func16 (by kernel_rfl) rfl #[.string a2, .string ((rd_T31 l0 ((rd_T31 l0 a1).f2)).f1)] rfl z11_4 ?_; (with_reducible refine (impl_IsInside.calls k a2 ((rd_T31 l0 ((rd_T31 l0 a1).f2)).f1) t321 _ A86.out).mono ?_); rintro e w' ⟨rfl, ⟨nd, rfl⟩⟩; refine ⟨_, rfl, ?_⟩))
                go_ret
                exact ⟨z11_5, z11_0⟩
               ·rw [if_neg c85] at H
                have c85b0 : (((rd_T31 l0 a1).f0) == 9) = false := beq_eq_false_iff_ne.mpr c85
                have c85b1 : (((rd_T31 l0 a1).f0) != 9) = true := bne_iff_ne.mpr c85
                obtain rfl := Option.some.inj H
                have p308 : 0 ≤ (a1 : Int) := of_decide_eq_true z11_3
                have q308 : a1 < (l0.length : Int) := of_decide_eq_true z11_3
                obtain ⟨ad308, e308, hx308_0, hx308_1, hx308_2, hx308_3⟩ := at_T31 HR0.out a1 p308 q308
                cases e308
                replace p308 := eq_true p308
                replace q308 := eq_true q308
                go_enter Try.func52, Try.ntmps52
                go_wp2_with (first | ((with_reducible refine gate_dst (N := 7) rfl ?_); refine box_event ?hg (N := 7) ?hd (cs := #[.int .i64 0, .string (⟨#[]⟩ : ByteArray), .int .i64 0, .int .i64 0]) (t := 31) ?hr ?_; (case hd => rfl); (case hg => rfl); (case hr => first | (go_simp; done) | (go_simp; rfl)); intro gb309 hg w89 hbox hb; have n0_ := Aside0.mk (below_step z11_1 hb); have n1_ := Aside0.mk (hbox); have n2_ := Aside0.mk ((by rw [hg]; exact (below_size z11_1) : w.heap.size ≤ gb309)); have n3_ := Aside0.mk ((by rw [hg]; exact (below_size z11_1) : w.heap.size ≤ gb309)); clear HB; have HB := n0_; have BK309 := n1_; have GW309 := n2_; have GE309 := n3_; clear n0_ n1_ n2_ n3_; clear hb hbox hg; have hcz90_0 : w89.cell? ⟨gb309, 0, none⟩ = some (.int .i64 0) := (blk_cell BK309.out 0).trans rfl; have hcz90_1 : w89.cell? ⟨gb309, 1, none⟩ = some (.string (⟨#[]⟩ : ByteArray)) := (blk_cell BK309.out 1).trans rfl; have hcz90_2 : w89.cell? ⟨gb309, 2, none⟩ = some (.int .i64 0) := (blk_cell BK309.out 2).trans rfl; have hcz90_3 : w89.cell? ⟨gb309, 3, none⟩ = some (.int .i64 0) := (blk_cell BK309.out 3).trans rfl; have hfz90_0 := blk_frozen BK309.out 0; have hfz90_1 := blk_frozen BK309.out 1; have hfz90_2 := blk_frozen BK309.out 2; have hfz90_3 := blk_frozen BK309.out 3; have p310 : 0 ≤ (((rd_T31 l0 a1).f2) : Int) := of_decide_eq_true z11_3; have q310 : ((rd_T31 l0 a1).f2) < (l0.length : Int) := of_decide_eq_true z11_3; obtain ⟨ad310, e310, hx310_0, hx310_1, hx310_2, hx310_3⟩ := at_T31 HR0.out ((rd_T31 l0 a1).f2) p310 q310; obtain rfl : ad308 = ad310 := (by injection e310); have hn310_0 : ad308.block ≠ gb309 := Nat.ne_of_lt (Nat.lt_of_lt_of_le (bl11_ hx310_0) GW309.out); have hn310_1 : ad308.block ≠ gb309 := Nat.ne_of_lt (Nat.lt_of_lt_of_le (bl11_ hx310_0) GW309.out); have hn310_2 : ad308.block ≠ gb309 := Nat.ne_of_lt (Nat.lt_of_lt_of_le (bl11_ hx310_0) GW309.out); have hn310_3 : ad308.block ≠ gb309 := Nat.ne_of_lt (Nat.lt_of_lt_of_le (bl11_ hx310_0) GW309.out); replace hx310_0 := (HB.out.cell (World.block_lt_of_cell? w _ hx310_0)).trans hx310_0; replace hx310_1 := (HB.out.cell (World.block_lt_of_cell? w _ hx310_1)).trans hx310_1; replace hx310_2 := (HB.out.cell (World.block_lt_of_cell? w _ hx310_2)).trans hx310_2; replace hx310_3 := (HB.out.cell (World.block_lt_of_cell? w _ hx310_3)).trans hx310_3; replace hx310_0 := (cell_far (p := ⟨gb309, 0, none⟩) (ab11_ hn310_0) (.int .i64 ((rd_T31 l0 a1).f0))).trans hx310_0; replace hx310_1 := (cell_far (p := ⟨gb309, 0, none⟩) (ab11_ hn310_0) (.int .i64 ((rd_T31 l0 a1).f0))).trans hx310_1; replace hx310_2 := (cell_far (p := ⟨gb309, 0, none⟩) (ab11_ hn310_0) (.int .i64 ((rd_T31 l0 a1).f0))).trans hx310_2; replace hx310_3 := (cell_far (p := ⟨gb309, 0, none⟩) (ab11_ hn310_0) (.int .i64 ((rd_T31 l0 a1).f0))).trans hx310_3; replace hx310_0 := (cell_far (p := ⟨gb309, 1, none⟩) (ab11_ hn310_1) (.string ((rd_T31 l0 a1).f1))).trans hx310_0; replace hx310_1 := (cell_far (p := ⟨gb309, 1, none⟩) (ab11_ hn310_1) (.string ((rd_T31 l0 a1).f1))).trans hx310_1; replace hx310_2 := (cell_far (p := ⟨gb309, 1, none⟩) (ab11_ hn310_1) (.string ((rd_T31 l0 a1).f1))).trans hx310_2; replace hx310_3 := (cell_far (p := ⟨gb309, 1, none⟩) (ab11_ hn310_1) (.string ((rd_T31 l0 a1).f1))).trans hx310_3; replace hx310_0 := (cell_far (p := ⟨gb309, 2, none⟩) (ab11_ hn310_2) (.int .i64 ((rd_T31 l0 a1).f2))).trans hx310_0; replace hx310_1 := (cell_far (p := ⟨gb309, 2, none⟩) (ab11_ hn310_2) (.int .i64 ((rd_T31 l0 a1).f2))).trans hx310_1; replace hx310_2 := (cell_far (p := ⟨gb309, 2, none⟩) (ab11_ hn310_2) (.int .i64 ((rd_T31 l0 a1).f2))).trans hx310_2; replace hx310_3 := (cell_far (p := ⟨gb309, 2, none⟩) (ab11_ hn310_2) (.int .i64 ((rd_T31 l0 a1).f2))).trans hx310_3; replace hx310_0 := (cell_far (p := ⟨gb309, 3, none⟩) (ab11_ hn310_3) (.int .i64 ((rd_T31 l0 a1).f3))).trans hx310_0; replace hx310_1 := (cell_far (p := ⟨gb309, 3, none⟩) (ab11_ hn310_3) (.int .i64 ((rd_T31 l0 a1).f3))).trans hx310_1; replace hx310_2 := (cell_far (p := ⟨gb309, 3, none⟩) (ab11_ hn310_3) (.int .i64 ((rd_T31 l0 a1).f3))).trans hx310_2; replace hx310_3 := (cell_far (p := ⟨gb309, 3, none⟩) (ab11_ hn310_3) (.int .i64 ((rd_T31 l0 a1).f3))).trans hx310_3; clear hn310_0; clear hn310_1; clear hn310_2; clear hn310_3; replace p310 := eq_true p310; replace q310 := eq_true q310))
                go_ret
                exact ⟨z11_5, z11_0⟩
      ·rw [if_neg c10] at H
       exact absurd H (by simp)
     ·rw [if_neg c9] at H
      exact absurd H (by simp)
   ·rw [if_neg c5] at H
    exact absurd H (by simp)
  ·rw [if_neg c4] at H
   exact absurd H (by simp)

end Go.Proofs.Ytodcckiphdnjeab.QFnPlays
