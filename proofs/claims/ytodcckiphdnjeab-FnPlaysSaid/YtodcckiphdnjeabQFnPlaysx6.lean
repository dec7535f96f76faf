-- Written by a changed copy of the kit's printer (wip/mp.py of this repo), for this claim; Lean checks it.
import Derived.Test.YtodcckiphdnjeabQFnPlaysx0
import Derived.Test.YtodcckiphdnjeabQFnPlaysx5
namespace Go.Proofs.Ytodcckiphdnjeab.QFnPlays
open Go.RowKit Go.Proofs.YtodcckiphdnjeabW.PrintWords Go.Proofs.YtodcckiphdnjeabW.PrintLast Go.Proofs.YtodcckiphdnjeabW.PrintMore
attribute [local go_sem] max2_int min2_int max_two min_two max_three min_three max_four min_four   -- for this text's walks alone
set_option linter.unusedVariables false
set_option linter.unusedSimpArgs false

theorem ab6_ {p q : Prop} (h0 : q) (h : q → p := by intro h_; first | (rw [add_block]; exact h_) | (show (Addr.add _ _).block ≠ _; rw [add_block]; exact h_) | exact h_) : p := h h0
theorem bl6_ {p q : Prop} (h0 : q) (h : q → p := by intro h_; have := World.block_lt_of_cell? _ _ h_; first | rwa [add_block] at this | exact this) : p := h h0
theorem bd6_ {p q : Prop} (h0 : q) (h : q → p := by intro h_; (with_reducible repeat (first | refine blk_drewN ?_ _ | refine blk_drew ?_ | refine blk_alloc ?_ _)); exact h_) : p := h h0
theorem z6_0 {p : Prop} (h : p := by repeat (first | (with_reducible first | exact HB.out | apply below_alloc | apply pw_below_drewN | apply below_drew1) | exact HB.out)) : p := h
theorem z6_1 {p : Prop} (h : p := by (try simp only [List.map_toArray, List.map_cons, List.map_nil]); first | done | rfl | (simp only [List.length_drop, List.length_take]; rfl)) : p := h
theorem z6_2 {p : Prop} (h : p := by repeat (first | (with_reducible first | exact HB.out | apply below_alloc | apply pw_below_drewN | apply below_drew1 | refine below_set ?_ GE242.out) | exact HB.out)) : p := h
theorem z6_3 {p : Prop} (h : p := by (with_reducible repeat (first | refine blk_drewN ?_ _ | refine blk_drew ?_ | refine blk_alloc ?_ _)); refine blk_put (cs := #[.int .i64 ((rd_T31 l0 a1).f0), .string ((rd_T31 l0 a1).f1), .int .i64 ((rd_T31 l0 a1).f2), .int .i64 0]) ?_ 3 _ rfl; (with_reducible repeat (first | refine blk_drewN ?_ _ | refine blk_drew ?_ | refine blk_alloc ?_ _)); refine blk_put (cs := #[.int .i64 ((rd_T31 l0 a1).f0), .string ((rd_T31 l0 a1).f1), .int .i64 0, .int .i64 0]) ?_ 2 _ rfl; (with_reducible repeat (first | refine blk_drewN ?_ _ | refine blk_drew ?_ | refine blk_alloc ?_ _)); refine blk_put (cs := #[.int .i64 ((rd_T31 l0 a1).f0), .string (⟨#[]⟩ : ByteArray), .int .i64 0, .int .i64 0]) ?_ 1 _ rfl; (with_reducible repeat (first | refine blk_drewN ?_ _ | refine blk_drew ?_ | refine blk_alloc ?_ _)); refine blk_put (cs := #[.int .i64 0, .string (⟨#[]⟩ : ByteArray), .int .i64 0, .int .i64 0]) ?_ 0 _ rfl; (with_reducible repeat (first | refine blk_drewN ?_ _ | refine blk_drew ?_ | refine blk_alloc ?_ _)); exact BK242.out) : p := h
theorem z6_4 {p : Prop} (h : p := by repeat (first | (with_reducible first | exact HB.out | apply below_alloc | apply pw_below_drewN | apply below_drew1 | refine below_set ?_ GE447.out) | exact HB.out)) : p := h
theorem z6_5 {p : Prop} (h : p := by first | (with_reducible assumption) | assumption) : p := h
theorem z6_6 {p : Prop} (h : p := by repeat (first | (with_reducible first | exact HB.out | apply below_alloc | apply pw_below_drewN | apply below_drew1 | refine below_set ?_ GE444.out) | exact HB.out)) : p := h
theorem z6_7 {p : Prop} (h : p := by first | rfl | (simp [errW_none, errW_some] <;> rfl) | (simp [*, errW_none, errW_some] <;> rfl)) : p := h
theorem z6_8 {p : Prop} (h : p := by (with_reducible repeat (first | refine blk_drewN ?_ _ | refine blk_drew ?_ | refine blk_alloc ?_ _)); exact BK447.out) : p := h
theorem pt6_ : (∀ (l : List Value) (i : Nat) (x : Value), l.toArray.setIfInBounds i x = (l.set i x).toArray) ∧ (∀ (a : Value) (l : List Value) (x : Value), (a :: l).set 0 x = x :: l) ∧ (∀ (a : Value) (l : List Value) (i : Nat) (x : Value), (a :: l).set (i + 1) x = a :: l.set i x) := ⟨fun _ _ _ => List.setIfInBounds_toArray .., fun _ _ _ => rfl, fun _ _ _ _ => rfl⟩
/-! ### spec_l15Makes: function 104 (given) -/
/-! ### spec_l15Makes, spec_l15Join, spec_l15In: one definition -/
mutual
def spec_l15Makes.f : Nat → List (S31) → Int → ByteArray → Option (Bool)
  | 0, _, _, _ => none
  | k + 1, l0, a1, a2 => if 0 ≤ a1 then (if a1 < (l0.length : Int) then (if ((rd_T31 l0 a1).f0) = 1 then (some (((rd_T31 l0 a1).f1).toList == a2.toList)) else (if ((rd_T31 l0 a1).f0) = 2 then ((spec_Backwards.f k a2).bind fun t243 => ((spec_l15Makes.f k l0 ((rd_T31 l0 a1).f2) t243).bind fun t244 => (some t244))) else (if ((rd_T31 l0 a1).f0) = 3 then (if 0 ≤ ((rd_T31 l0 a1).f2) then (if ((rd_T31 l0 a1).f2) < (l0.length : Int) then ((spec_IsRearranged.f k ((rd_T31 l0 ((rd_T31 l0 a1).f2)).f1) a2).bind fun t246 => (some t246)) else (none)) else (none)) else (if ((rd_T31 l0 a1).f0) = 4 then ((spec_l15Join.l0 k l0 a2 1 ((rd_T31 l0 a1).f0) ((rd_T31 l0 a1).f1) ((rd_T31 l0 a1).f2) ((rd_T31 l0 a1).f3)).bind fun t247 => (some t247)) else (if ((rd_T31 l0 a1).f0) = 5 then ((spec_l15In.l0 k l0 a2 1 ((rd_T31 l0 a1).f0) ((rd_T31 l0 a1).f1) ((rd_T31 l0 a1).f2) ((rd_T31 l0 a1).f3)).bind fun t248 => (some t248)) else (if ((rd_T31 l0 a1).f0) = 6 then (if 0 ≤ ((rd_T31 l0 a1).f2) then (if ((rd_T31 l0 a1).f2) < (l0.length : Int) then ((spec_HeadOf.f k ((rd_T31 l0 ((rd_T31 l0 a1).f2)).f1)).bind fun t250 => (some (t250.toList == a2.toList))) else (none)) else (none)) else (if ((rd_T31 l0 a1).f0) = 7 then (if 0 ≤ ((rd_T31 l0 a1).f2) then (if ((rd_T31 l0 a1).f2) < (l0.length : Int) then ((spec_WithoutHead.f k ((rd_T31 l0 ((rd_T31 l0 a1).f2)).f1)).bind fun t252 => (some (t252.toList == a2.toList))) else (none)) else (none)) else (if ((rd_T31 l0 a1).f0) = 8 then (if 0 ≤ ((rd_T31 l0 a1).f2) then (if ((rd_T31 l0 a1).f2) < (l0.length : Int) then ((spec_WithoutTail.f k ((rd_T31 l0 ((rd_T31 l0 a1).f2)).f1)).bind fun t254 => (some (t254.toList == a2.toList))) else (none)) else (none)) else (if 0 ≤ ((rd_T31 l0 a1).f2) then (if ((rd_T31 l0 a1).f2) < (l0.length : Int) then ((spec_IsInside.f k a2 ((rd_T31 l0 ((rd_T31 l0 a1).f2)).f1)).bind fun t256 => (some t256)) else (none)) else (none)))))))))) else (none)) else (none)
def spec_l15Join.l0 : Nat → List (S31) → ByteArray → Int → Int → ByteArray → Int → Int → Option (Bool)
  | 0, _, _, _, _, _, _, _ => none
  | k + 1, x0, x2, x7, x445000, x445001, x445002, x445003 => if x7 < (x2.size : Int) then (if 0 ≤ x7 then (if x7 ≤ (x2.size : Int) then ((spec_l15Makes.f k x0 x445002 (x2.extract 0 (x7 : Int).toNat)).bind fun t445 => (if t445 = true then ((spec_l15Makes.f k x0 x445003 (x2.extract (x7 : Int).toNat x2.size)).bind fun t446 => (if t446 = true then (some true) else (spec_l15Join.l0 k x0 x2 (wrap64 (x7 + 1)) x445000 x445001 x445002 x445003))) else (spec_l15Join.l0 k x0 x2 (wrap64 (x7 + 1)) x445000 x445001 x445002 x445003))) else (none)) else (none)) else (some false)
def spec_l15In.l0 : Nat → List (S31) → ByteArray → Int → Int → ByteArray → Int → Int → Option (Bool)
  | 0, _, _, _, _, _, _, _ => none
  | k + 1, x0, x2, x7, x448000, x448001, x448002, x448003 => if x7 < (x2.size : Int) then (spec_l15In.l1 k x0 x2 x7 (wrap64 (x7 + 1)) x448000 x448001 x448002 x448003) else (some false)
def spec_l15In.l1 : Nat → List (S31) → ByteArray → Int → Int → Int → ByteArray → Int → Int → Option (Bool)
  | 0, _, _, _, _, _, _, _, _ => none
  | k + 1, x0, x2, x7, x8, x448000, x448001, x448002, x448003 => if x8 < (x2.size : Int) then (if 0 ≤ x7 then (if x7 ≤ x8 then (if x8 ≤ (x2.size : Int) then ((spec_l15Makes.f k x0 x448003 (x2.extract (x7 : Int).toNat (x8 : Int).toNat)).bind fun t448 => (if t448 = true then (if x7 ≤ (x2.size : Int) then (if 0 ≤ x8 then (if (x2.extract 0 (x7 : Int).toNat).size + (x2.extract (x8 : Int).toNat x2.size).size ≤ 9223372036854775807 then ((spec_l15Makes.f k x0 x448002 ((x2.extract 0 (x7 : Int).toNat) ++ (x2.extract (x8 : Int).toNat x2.size))).bind fun t449 => (if t449 = true then (some true) else (spec_l15In.l1 k x0 x2 x7 (wrap64 (x8 + 1)) x448000 x448001 x448002 x448003))) else (none)) else (none)) else (none)) else (spec_l15In.l1 k x0 x2 x7 (wrap64 (x8 + 1)) x448000 x448001 x448002 x448003))) else (none)) else (none)) else (none)) else (spec_l15In.l0 k x0 x2 (wrap64 (x7 + 1)) x448000 x448001 x448002 x448003)
end
def spec_l15Join.f (k : Nat) (l0 : List (S31)) (a1_0 : Int) (a1_1 : ByteArray) (a1_2 : Int) (a1_3 : Int) (a2 : ByteArray) : Option (Bool) := spec_l15Join.l0 k l0 a2 1 a1_0 a1_1 a1_2 a1_3
def spec_l15In.f (k : Nat) (l0 : List (S31)) (a1_0 : Int) (a1_1 : ByteArray) (a1_2 : Int) (a1_3 : Int) (a2 : ByteArray) : Option (Bool) := spec_l15In.l0 k l0 a2 1 a1_0 a1_1 a1_2 a1_3
theorem spec_l15Makes.mono_l : ∀ k, (∀ y0 y1 y2, LeO (spec_l15Makes.f k y0 y1 y2) (spec_l15Makes.f (k + 1) y0 y1 y2)) ∧ (∀ y0 y1 y2 y3 y4 y5 y6, LeO (spec_l15Join.l0 k y0 y1 y2 y3 y4 y5 y6) (spec_l15Join.l0 (k + 1) y0 y1 y2 y3 y4 y5 y6)) ∧ (∀ y0 y1 y2 y3 y4 y5 y6, LeO (spec_l15In.l0 k y0 y1 y2 y3 y4 y5 y6) (spec_l15In.l0 (k + 1) y0 y1 y2 y3 y4 y5 y6)) ∧ (∀ y0 y1 y2 y3 y4 y5 y6 y7, LeO (spec_l15In.l1 k y0 y1 y2 y3 y4 y5 y6 y7) (spec_l15In.l1 (k + 1) y0 y1 y2 y3 y4 y5 y6 y7))
  | 0 => ⟨fun _ _ _ r h => by simp [spec_l15Makes.f] at h, fun _ _ _ _ _ _ _ r h => by simp [spec_l15Join.l0] at h, fun _ _ _ _ _ _ _ r h => by simp [spec_l15In.l0] at h, fun _ _ _ _ _ _ _ _ r h => by simp [spec_l15In.l1] at h⟩
  | k + 1 => by
   obtain ⟨ih0, ih1, ih2, ih3⟩ := spec_l15Makes.mono_l k
   refine ⟨?_, ?_, ?_, ?_⟩
   ·intro y0 y1 y2
    unfold spec_l15Makes.f
    repeat' first
    | (with_reducible exact ih0 _ _ _)
    | (with_reducible exact ih1 _ _ _ _ _ _ _)
    | (with_reducible exact ih2 _ _ _ _ _ _ _)
    | (with_reducible exact ih3 _ _ _ _ _ _ _ _)
    | (with_reducible exact spec_Backwards.mono _ _)
    | (with_reducible exact spec_HeadOf.mono _ _)
    | (with_reducible exact spec_IsInside.mono _ _ _)
    | (with_reducible exact spec_IsRearranged.mono _ _ _)
    | (with_reducible exact spec_WithoutHead.mono _ _)
    | (with_reducible exact spec_WithoutTail.mono _ _)
    | (with_reducible exact LeO.refl _)
    | (with_reducible exact LeO.none _)
    | (with_reducible refine LeO.ite ?_ ?_)
    | (with_reducible refine LeO.bind ?_ (fun _ => ?_))
    | exact ih0 _ _ _
    | exact ih1 _ _ _ _ _ _ _
    | exact ih2 _ _ _ _ _ _ _
    | exact ih3 _ _ _ _ _ _ _ _
    | exact spec_Backwards.mono _ _
    | exact spec_HeadOf.mono _ _
    | exact spec_IsInside.mono _ _ _
    | exact spec_IsRearranged.mono _ _ _
    | exact spec_WithoutHead.mono _ _
    | exact spec_WithoutTail.mono _ _
    | exact LeO.none _
    | refine LeO.ite ?_ ?_
    | refine LeO.bind ?_ (fun _ => ?_)
   ·intro y0 y1 y2 y3 y4 y5 y6
    unfold spec_l15Join.l0
    repeat' first
    | (with_reducible exact ih0 _ _ _)
    | (with_reducible exact ih1 _ _ _ _ _ _ _)
    | (with_reducible exact ih2 _ _ _ _ _ _ _)
    | (with_reducible exact ih3 _ _ _ _ _ _ _ _)
    | (with_reducible exact spec_Backwards.mono _ _)
    | (with_reducible exact spec_HeadOf.mono _ _)
    | (with_reducible exact spec_IsInside.mono _ _ _)
    | (with_reducible exact spec_IsRearranged.mono _ _ _)
    | (with_reducible exact spec_WithoutHead.mono _ _)
    | (with_reducible exact spec_WithoutTail.mono _ _)
    | (with_reducible exact LeO.refl _)
    | (with_reducible exact LeO.none _)
    | (with_reducible refine LeO.ite ?_ ?_)
    | (with_reducible refine LeO.bind ?_ (fun _ => ?_))
    | exact ih0 _ _ _
    | exact ih1 _ _ _ _ _ _ _
    | exact ih2 _ _ _ _ _ _ _
    | exact ih3 _ _ _ _ _ _ _ _
    | exact spec_Backwards.mono _ _
    | exact spec_HeadOf.mono _ _
    | exact spec_IsInside.mono _ _ _
    | exact spec_IsRearranged.mono _ _ _
    | exact spec_WithoutHead.mono _ _
    | exact spec_WithoutTail.mono _ _
    | exact LeO.none _
    | refine LeO.ite ?_ ?_
    | refine LeO.bind ?_ (fun _ => ?_)
   ·intro y0 y1 y2 y3 y4 y5 y6
    unfold spec_l15In.l0
    repeat' first
    | (with_reducible exact ih0 _ _ _)
    | (with_reducible exact ih1 _ _ _ _ _ _ _)
    | (with_reducible exact ih2 _ _ _ _ _ _ _)
    | (with_reducible exact ih3 _ _ _ _ _ _ _ _)
    | (with_reducible exact spec_Backwards.mono _ _)
    | (with_reducible exact spec_HeadOf.mono _ _)
    | (with_reducible exact spec_IsInside.mono _ _ _)
    | (with_reducible exact spec_IsRearranged.mono _ _ _)
    | (with_reducible exact spec_WithoutHead.mono _ _)
    | (with_reducible exact spec_WithoutTail.mono _ _)
    | (with_reducible exact LeO.refl _)
    | (with_reducible exact LeO.none _)
    | (with_reducible refine LeO.ite ?_ ?_)
    | (with_reducible refine LeO.bind ?_ (fun _ => ?_))
    | exact ih0 _ _ _
    | exact ih1 _ _ _ _ _ _ _
    | exact ih2 _ _ _ _ _ _ _
    | exact ih3 _ _ _ _ _ _ _ _
    | exact spec_Backwards.mono _ _
    | exact spec_HeadOf.mono _ _
    | exact spec_IsInside.mono _ _ _
    | exact spec_IsRearranged.mono _ _ _
    | exact spec_WithoutHead.mono _ _
    | exact spec_WithoutTail.mono _ _
    | exact LeO.none _
    | refine LeO.ite ?_ ?_
    | refine LeO.bind ?_ (fun _ => ?_)
   ·intro y0 y1 y2 y3 y4 y5 y6 y7
    unfold spec_l15In.l1
    repeat' first
    | (with_reducible exact ih0 _ _ _)
    | (with_reducible exact ih1 _ _ _ _ _ _ _)
    | (with_reducible exact ih2 _ _ _ _ _ _ _)
    | (with_reducible exact ih3 _ _ _ _ _ _ _ _)
    | (with_reducible exact spec_Backwards.mono _ _)
    | (with_reducible exact spec_HeadOf.mono _ _)
    | (with_reducible exact spec_IsInside.mono _ _ _)
    | (with_reducible exact spec_IsRearranged.mono _ _ _)
    | (with_reducible exact spec_WithoutHead.mono _ _)
    | (with_reducible exact spec_WithoutTail.mono _ _)
    | (with_reducible exact LeO.refl _)
    | (with_reducible exact LeO.none _)
    | (with_reducible refine LeO.ite ?_ ?_)
    | (with_reducible refine LeO.bind ?_ (fun _ => ?_))
    | exact ih0 _ _ _
    | exact ih1 _ _ _ _ _ _ _
    | exact ih2 _ _ _ _ _ _ _
    | exact ih3 _ _ _ _ _ _ _ _
    | exact spec_Backwards.mono _ _
    | exact spec_HeadOf.mono _ _
    | exact spec_IsInside.mono _ _ _
    | exact spec_IsRearranged.mono _ _ _
    | exact spec_WithoutHead.mono _ _
    | exact spec_WithoutTail.mono _ _
    | exact LeO.none _
    | refine LeO.ite ?_ ?_
    | refine LeO.bind ?_ (fun _ => ?_)
theorem spec_l15Makes.mono : ∀ a0 a1 a2 k, LeO (spec_l15Makes.f k a0 a1 a2) (spec_l15Makes.f (k + 1) a0 a1 a2) := fun a0 a1 a2 k => (spec_l15Makes.mono_l k).1 a0 a1 a2
/-- What l15Makes does in k rounds. -/
abbrev MakesAt (k : Nat) : Prop := ∀ (A0 : Option Addr) (c0 : Nat) (l0 : List (S31)) (a1 : Int) (a2 : ByteArray) (r : Bool) (w : World) (hr0 : Kd.C k31 w A0 l0.length l0) (hc0 : l0.length ≤ c0) (h : spec_l15Makes.f k l0 a1 a2 = some r),
   Calls Try.prog 104 #[.slice A0 l0.length c0, .int .i64 a1, .string a2] w fun e w' => e = .returned (.bool r) ∧ Below w.heap.size w w'
def spec_l15Join.T4 : Bool × List (List Nat × List Nat) := (true, [([], []), ([], []), ([1], [1]), ([], []), ([], []), ([3, 4], [3, 4]), ([0, 2, 5], [0, 2, 5]), ([6, 6], [6]), ([7], [7]), ([7], [7]), ([9, 7], [7, 9]), ([7], [7]), ([7], [7]), ([11, 12, 7], [7, 11, 12]), ([8, 10, 13, 7, 7], [7, 8, 10, 13]), ([7, 14], [7, 14])])
def spec_l15Join.B4 : List Nat := [0, 0, 2, 0, 0, 24, 63, 127, 255, 255, 767, 255, 255, 6399, 16383, 32767]
theorem spec_l15Join.tab4 : rtab .any (opsOf Try.f129 4) = spec_l15Join.T4 := by kernel_rfl
theorem spec_l15Join.bits4 : waitsOk spec_l15Join.T4.2 spec_l15Join.B4 = true := by kernel_rfl
set_option maxHeartbeats 8000000 in
set_option maxRecDepth 100000 in
theorem spec_l15Join.calls (k : Nat) (HM_ : ∀ k' : Nat, k' ≤ k → MakesAt k') (A0 : Option Addr) (c0 : Nat) (l0 : List (S31)) (a1_0 : Int) (a1_1 : ByteArray) (a1_2 : Int) (a1_3 : Int) (a2 : ByteArray) (r : Bool) (w : World) (hr0 : Kd.C k31 w A0 l0.length l0) (hc0 : l0.length ≤ c0) (h : spec_l15Join.f k l0 a1_0 a1_1 a1_2 a1_3 a2 = some r) :
   Calls Try.prog 129 #[.slice A0 l0.length c0, .agg #[.int .i64 a1_0, .string a1_1, .int .i64 a1_2, .int .i64 a1_3], .string a2] w fun e w' => e = .returned (.bool r) ∧ Below w.heap.size w w' := by
  have hu31 := Try.underlying31
  have HR0 := Aside0.mk hr0
  have HC0 := Aside0.mk hc0
  clear hr0 hc0
  have HB := Aside0.mk (Below.refl w.heap.size w)
  have H : (spec_l15Join.l0 k l0 a2 1 a1_0 a1_1 a1_2 a1_3) = some r := h
  clear h
  have H' := Aside0.mk H
  clear H
  go_enter Try.func129, Try.ntmps129
  go_wp2_with (first | ((with_reducible refine gate_dst (N := 4) rfl ?_); refine box_event ?hg (N := 4) ?hd (cs := #[.int .i64 a1_0, .string a1_1, .int .i64 a1_2, .int .i64 a1_3]) (t := 31) ?hr ?_; (case hd => rfl); (case hg => rfl); (case hr => first | (go_simp; done) | (go_simp; rfl)); intro gb444 hg w4 hbox hb; have n0_ := Aside0.mk (below_step z6_0 hb); have n1_ := Aside0.mk (hbox); have n2_ := Aside0.mk ((by rw [hg]; exact (below_size z6_0) : w.heap.size ≤ gb444)); have n3_ := Aside0.mk ((by rw [hg]; exact (below_size z6_0) : w.heap.size ≤ gb444)); clear HB; have HB := n0_; have BK444 := n1_; have GW444 := n2_; have GE444 := n3_; clear n0_ n1_ n2_ n3_; clear hb hbox hg))
  go_loopg [7] k (fun kq v7 w' => ∃ (x7_1 : Int), v7 = .int .i64 x7_1 ∧ Aside0 (spec_l15Join.l0 kq l0 a2 x7_1 a1_0 a1_1 a1_2 a1_3 = some r) ∧ Aside0 (kq ≤ k) ∧ Aside0 (w'.heap[gb444]? = some (.cells #[.int .i64 a1_0, .string a1_1, .int .i64 a1_2, .int .i64 a1_3] 31 (0, 0))) ∧ Aside0 (Below w.heap.size w w'))
  case atStart => exact ⟨(1), (by first | rfl | (simp; done) | (simp [*]; done)), H', ⟨Nat.le_refl _⟩, ⟨by (with_reducible repeat (first | refine blk_drewN ?_ _ | refine blk_drew ?_ | refine blk_alloc ?_ _)); exact BK444.out⟩, ⟨z6_6⟩⟩
  case round =>
   clear H'
   try clear c1
   try clear p2
   obtain ⟨x7_1, rfl, HA, HK1, BK444, HB⟩ := hrel
   cases gk with
   | zero => exact absurd HA.out (by simp [spec_l15Join.l0])
   | succ k1 =>
    have H := HA.out
    clear HA
    simp only [spec_l15Join.l0] at H
    by_cases c5 : x7_1 < (a2.size : Int)
    ·rw [if_pos c5] at H
     have c5b0 : decide (x7_1 < (a2.size : Int)) = true := decide_eq_true c5
     clear c5
     by_cases c6 : 0 ≤ x7_1
     ·rw [if_pos c6] at H
      have c6b0 := eq_true c6
      have c6b1 : decide (0 ≤ x7_1) = true := decide_eq_true c6
      clear c6
      by_cases c7 : x7_1 ≤ (a2.size : Int)
      ·rw [if_pos c7] at H
       have c7b0 := eq_true c7
       have c7b1 : decide (x7_1 ≤ (a2.size : Int)) = true := decide_eq_true c7
       clear c7
       replace H := Option.bind_eq_some_iff.mp H
       obtain ⟨t445, A80, H⟩ := H
       replace H : (if t445 = true then ((spec_l15Makes.f k1 l0 a1_3 (a2.extract (x7_1 : Int).toNat a2.size)).bind fun t446 => (if t446 = true then (some true) else (spec_l15Join.l0 k1 l0 a2 (wrap64 (x7_1 + 1)) a1_0 a1_1 a1_2 a1_3))) else (spec_l15Join.l0 k1 l0 a2 (wrap64 (x7_1 + 1)) a1_0 a1_1 a1_2 a1_3)) = some r := H
       have A8 := Aside0.mk A80
       clear A80
       by_cases c9 : t445 = true
       ·subst c9
        have H1 : ((spec_l15Makes.f k1 l0 a1_3 (a2.extract (x7_1 : Int).toNat a2.size)).bind fun t446 => (if t446 = true then (some true) else (spec_l15Join.l0 k1 l0 a2 (wrap64 (x7_1 + 1)) a1_0 a1_1 a1_2 a1_3))) = some r := by rw [if_pos rfl] at H; exact H
        clear H
        have H := H1
        clear H1
        have c10b0 := eq_true (of_decide_eq_true z6_5 : 0 ≤ x7_1)
        have c11b0 := eq_true (of_decide_eq_true z6_5 : x7_1 ≤ (a2.size : Int))
        replace H := Option.bind_eq_some_iff.mp H
        obtain ⟨t446, A120, H⟩ := H
        replace H : (if t446 = true then (some true) else (spec_l15Join.l0 k1 l0 a2 (wrap64 (x7_1 + 1)) a1_0 a1_1 a1_2 a1_3)) = some r := H
        have A12 := Aside0.mk A120
        clear A120
        by_cases c13 : t446 = true
        ·subst c13
         have H1 : (some true) = some r := by rw [if_pos rfl] at H; exact H
         clear H
         have H := H1
         clear H1
         obtain rfl := Option.some.inj H
         try go_wp2
         have n0_ := Aside0.mk (blk_drew BK444.out)
         have n1_ := Aside0.mk (below_drew1 HB.out)
         clear BK444
         clear HB
         have BK444 := n0_
         have HB := n1_
         clear n0_ n1_
         refine start_ (n := 16) (S := fun w' => w'.cell? ⟨gb444, 0, none⟩ = some (.int .i64 a1_0) ∧ w'.cell? ⟨gb444, 1, none⟩ = some (.string a1_1) ∧ w'.cell? ⟨gb444, 2, none⟩ = some (.int .i64 a1_2) ∧ w'.cell? ⟨gb444, 3, none⟩ = some (.int .i64 a1_3)) (ds := []) #[false, false, false, false, false, false, false, false, false, false, false, false, false, false, false, false] (by kernel_rfl) rfl rfl ⟨(blk_cell BK444.out 0).trans rfl, (blk_cell BK444.out 1).trans rfl, (blk_cell BK444.out 2).trans rfl, (blk_cell BK444.out 3).trans rfl⟩ (fun hHeld => ?_); refine with_tabW spec_l15Join.tab4 spec_l15Join.bits4 (fun HT_ HW_ => ?_)
         generalize wr.drew = w14 at BK444 HB hHeld ⊢
         refine pure_ (i := 0) (N := some 14) (v := ?_) (a' := ?_) #[true, false, false, false, false, false, false, false, false, false, false, false, false, false, false, false] rfl rfl (any_of HT_.out (by kernel_rfl)) (fun _ _ _ h => h) (Or.inl ⟨by rfl, ?_⟩) ?_ ?_
         rotate_left
         ·intro w'
          go_simp
          with_reducible rfl
         rotate_left
         ·simp only [Act.put, pt6_, i64_w, i32_w]
          rfl
         refine pure_ (i := 1) (N := some 15) (v := ?_) (a' := ?_) #[true, true, false, false, false, false, false, false, false, false, false, false, false, false, false, false] rfl rfl (any_of HT_.out (by kernel_rfl)) (fun _ _ _ h => h) (Or.inl ⟨by rfl, ?_⟩) ?_ ?_
         rotate_left
         ·intro w'
          go_simp
          with_reducible rfl
         rotate_left
         ·simp only [Act.put, pt6_, i64_w, i32_w]
          rfl
         refine pure_ (i := 3) (N := some 17) (v := ?_) (a' := ?_) #[true, true, false, true, false, false, false, false, false, false, false, false, false, false, false, false] rfl rfl (any_of HT_.out (by kernel_rfl)) (fun _ _ _ h => h) (Or.inl ⟨by rfl, ?_⟩) ?_ ?_
         rotate_left
         ·intro w'
          go_simp
          with_reducible rfl
         rotate_left
         ·simp only [Act.put, pt6_, i64_w, i32_w]
          rfl
         refine pure_ (i := 4) (N := some 18) (v := ?_) (a' := ?_) #[true, true, false, true, true, false, false, false, false, false, false, false, false, false, false, false] rfl rfl (any_of HT_.out (by kernel_rfl)) (fun _ _ _ h => h) (Or.inl ⟨by rfl, ?_⟩) ?_ ?_
         rotate_left
         ·intro w'
          go_simp
          with_reducible rfl
         rotate_left
         ·simp only [Act.put, pt6_, i64_w, i32_w]
          rfl
         refine pure_ (i := 5) (N := some 19) (v := ?_) (a' := ?_) #[true, true, false, true, true, true, false, false, false, false, false, false, false, false, false, false] rfl rfl (any_of HT_.out (by kernel_rfl)) (fun _ _ _ h => h) (Or.inl ⟨by rfl, ?_⟩) ?_ ?_
         rotate_left
         ·intro w'
          go_simp
          with_reducible rfl
         rotate_left
         ·simp only [Act.put, pt6_, i64_w, i32_w]
          rfl
         refine take_ (i := 2) (N := some 16) (v := ?_) (a' := ?_) #[true, true, true, true, true, true, false, false, false, false, false, false, false, false, false, false] rfl rfl (take_ofW HT_.out HW_.out (by kernel_rfl)) (fun _ _ _ h => h) (Or.inl ⟨by rfl, ?_⟩) hHeld ?_ ?_
         rotate_left
         ·rintro w' ⟨s0, s1, s2, s3⟩
          go_simp
          with_reducible rfl
         rotate_left
         ·simp only [Act.put, pt6_, i64_w, i32_w]
          rfl
         refine one_ (i := 6) (N := some 20) #[true, true, true, true, true, true, true, false, false, false, false, false, false, false, false, false] rfl rfl (one_of HT_.out (by kernel_rfl)) (by decide) (fun K hK => ?_)
         refine goes_ Try.func104 (by kernel_rfl) rfl #[.slice A0 l0.length c0, .int .i64 a1_2, .string (a2.extract 0 (x7_1 : Int).toNat)] (by rfl) rfl rfl z6_1 ?_
         with_reducible refine (HM_ k1 (Nat.le_of_succ_le HK1.out) _ _ l0 a1_2 (a2.extract 0 (x7_1 : Int).toNat) true _ ?side1 ?side2 A8.out).mono ?_
         (case side1 => repeat (first | exact (Kd.C_below HR0.out HB.out) | (with_reducible refine Kd.C_alloc ?_ _) | (with_reducible refine Kd.C_drewN ?_ _) | (with_reducible refine Kd.C_drew ?_)))
         (case side2 => exact HC0.out)
         rintro e w15 ⟨rfl, hb⟩
         refine ⟨_, rfl, ?_⟩
         have n0_ := Aside0.mk (blk_below (g := gb444) (o := .cells #[.int .i64 a1_0, .string a1_1, .int .i64 a1_2, .int .i64 a1_3] 31 (0, 0)) (bd6_ BK444.out) hb)
         have n1_ := Aside0.mk (below_step z6_6 hb)
         clear BK444
         clear HB
         have BK444 := n0_
         have HB := n1_
         clear n0_ n1_
         (try clear hb)
         (try clear hb2)
         (try clear hk)
         (try clear hi)
         refine hK.out _ _ ⟨(blk_cell BK444.out 0).trans rfl, (blk_cell BK444.out 1).trans rfl, (blk_cell BK444.out 2).trans rfl, (blk_cell BK444.out 3).trans rfl⟩ (fun hHeld => ?_)
         clear hK K
         refine norm_ (a' := ?_) ?_ ?_
         rotate_left
         ·show Act.put _ (some 20) _ = _
          simp only [Act.put, pt6_, i64_w, i32_w]
          rfl
         refine pure_ (i := 7) (N := some 21) (v := ?_) (a' := ?_) #[true, true, true, true, true, true, true, true, false, false, false, false, false, false, false, false] rfl rfl (any_of HT_.out (by kernel_rfl)) (fun _ _ _ h => h) (Or.inl ⟨by rfl, ?_⟩) ?_ ?_
         rotate_left
         ·intro w'
          go_simp
          with_reducible rfl
         rotate_left
         ·simp only [Act.put, pt6_, i64_w, i32_w]
          rfl
         refine pure_ (i := 8) (N := some 22) (v := ?_) (a' := ?_) #[true, true, true, true, true, true, true, true, true, false, false, false, false, false, false, false] rfl rfl (any_of HT_.out (by kernel_rfl)) (fun _ _ _ h => h) (Or.inl ⟨by rfl, ?_⟩) ?_ ?_
         rotate_left
         ·intro w'
          go_simp
          with_reducible rfl
         rotate_left
         ·simp only [Act.put, pt6_, i64_w, i32_w]
          rfl
         refine pure_ (i := 9) (N := some 23) (v := ?_) (a' := ?_) #[true, true, true, true, true, true, true, true, true, true, false, false, false, false, false, false] rfl rfl (any_of HT_.out (by kernel_rfl)) (fun _ _ _ h => h) (Or.inl ⟨by rfl, ?_⟩) ?_ ?_
         rotate_left
         ·intro w'
          go_simp
          with_reducible rfl
         rotate_left
         ·simp only [Act.put, pt6_, i64_w, i32_w]
          rfl
         refine pure_ (i := 11) (N := some 25) (v := ?_) (a' := ?_) #[true, true, true, true, true, true, true, true, true, true, false, true, false, false, false, false] rfl rfl (any_of HT_.out (by kernel_rfl)) (fun _ _ _ h => h) (Or.inl ⟨by rfl, ?_⟩) ?_ ?_
         rotate_left
         ·intro w'
          go_simp
          with_reducible rfl
         rotate_left
         ·simp only [Act.put, pt6_, i64_w, i32_w]
          rfl
         refine pure_ (i := 12) (N := some 26) (v := ?_) (a' := ?_) #[true, true, true, true, true, true, true, true, true, true, false, true, true, false, false, false] rfl rfl (any_of HT_.out (by kernel_rfl)) (fun _ _ _ h => h) (Or.inl ⟨by rfl, ?_⟩) ?_ ?_
         rotate_left
         ·intro w'
          go_simp
          with_reducible rfl
         rotate_left
         ·simp only [Act.put, pt6_, i64_w, i32_w]
          rfl
         refine pure_ (i := 13) (N := some 27) (v := ?_) (a' := ?_) #[true, true, true, true, true, true, true, true, true, true, false, true, true, true, false, false] rfl rfl (any_of HT_.out (by kernel_rfl)) (fun _ _ _ h => h) (Or.inl ⟨by rfl, ?_⟩) ?_ ?_
         rotate_left
         ·intro w'
          go_simp
          with_reducible rfl
         rotate_left
         ·simp only [Act.put, pt6_, i64_w, i32_w]
          rfl
         refine take_ (i := 10) (N := some 24) (v := ?_) (a' := ?_) #[true, true, true, true, true, true, true, true, true, true, true, true, true, true, false, false] rfl rfl (take_ofW HT_.out HW_.out (by kernel_rfl)) (fun _ _ _ h => h) (Or.inl ⟨by rfl, ?_⟩) hHeld ?_ ?_
         rotate_left
         ·rintro w' ⟨s0, s1, s2, s3⟩
          go_simp
          with_reducible rfl
         rotate_left
         ·simp only [Act.put, pt6_, i64_w, i32_w]
          rfl
         refine one_ (i := 14) (N := some 28) #[true, true, true, true, true, true, true, true, true, true, true, true, true, true, true, false] rfl rfl (one_of HT_.out (by kernel_rfl)) (by decide) (fun K hK => ?_)
         refine goes_ Try.func104 (by kernel_rfl) rfl #[.slice A0 l0.length c0, .int .i64 a1_3, .string (a2.extract (x7_1 : Int).toNat a2.size)] (by rfl) rfl rfl z6_1 ?_
         with_reducible refine (HM_ k1 (Nat.le_of_succ_le HK1.out) _ _ l0 a1_3 (a2.extract (x7_1 : Int).toNat a2.size) true _ ?side1 ?side2 A12.out).mono ?_
         (case side1 => repeat (first | exact (Kd.C_below HR0.out HB.out) | (with_reducible refine Kd.C_alloc ?_ _) | (with_reducible refine Kd.C_drewN ?_ _) | (with_reducible refine Kd.C_drew ?_)))
         (case side2 => exact HC0.out)
         rintro e w16 ⟨rfl, hb⟩
         refine ⟨_, rfl, ?_⟩
         have n0_ := Aside0.mk (blk_below (g := gb444) (o := .cells #[.int .i64 a1_0, .string a1_1, .int .i64 a1_2, .int .i64 a1_3] 31 (0, 0)) (bd6_ BK444.out) hb)
         have n1_ := Aside0.mk (below_step z6_6 hb)
         clear BK444
         clear HB
         have BK444 := n0_
         have HB := n1_
         clear n0_ n1_
         (try clear hb)
         (try clear hb2)
         (try clear hk)
         (try clear hi)
         refine hK.out _ _ ⟨(blk_cell BK444.out 0).trans rfl, (blk_cell BK444.out 1).trans rfl, (blk_cell BK444.out 2).trans rfl, (blk_cell BK444.out 3).trans rfl⟩ (fun hHeld => ?_)
         clear hK K
         refine norm_ (a' := ?_) ?_ ?_
         rotate_left
         ·show Act.put _ (some 28) _ = _
          simp only [Act.put, pt6_, i64_w, i32_w]
          rfl
         refine pure_ (i := 15) (N := some 29) (v := ?_) (a' := ?_) #[true, true, true, true, true, true, true, true, true, true, true, true, true, true, true, true] rfl rfl (any_of HT_.out (by kernel_rfl)) (fun _ _ _ h => h) (Or.inl ⟨by rfl, ?_⟩) ?_ ?_
         rotate_left
         ·intro w'
          go_simp
          with_reducible rfl
         rotate_left
         ·simp only [Act.put, pt6_, i64_w, i32_w]
          rfl
         refine done_ (done_of HT_.out (by kernel_rfl)) ?_
         try go_wp2
         go_ret
         exact ⟨z6_7, z6_6⟩
        ·replace c13 := Bool.eq_false_iff.mpr c13
         subst c13
         have H1 : (spec_l15Join.l0 k1 l0 a2 (wrap64 (x7_1 + 1)) a1_0 a1_1 a1_2 a1_3) = some r := by rw [if_neg (show ¬ (false = true) by decide)] at H; exact H
         clear H
         have H := H1
         clear H1
         have H' := Aside0.mk H
         clear H
         try go_wp2
         have n0_ := Aside0.mk (blk_drew BK444.out)
         have n1_ := Aside0.mk (below_drew1 HB.out)
         clear BK444
         clear HB
         have BK444 := n0_
         have HB := n1_
         clear n0_ n1_
         refine start_ (n := 16) (S := fun w' => w'.cell? ⟨gb444, 0, none⟩ = some (.int .i64 a1_0) ∧ w'.cell? ⟨gb444, 1, none⟩ = some (.string a1_1) ∧ w'.cell? ⟨gb444, 2, none⟩ = some (.int .i64 a1_2) ∧ w'.cell? ⟨gb444, 3, none⟩ = some (.int .i64 a1_3)) (ds := []) #[false, false, false, false, false, false, false, false, false, false, false, false, false, false, false, false] (by kernel_rfl) rfl rfl ⟨(blk_cell BK444.out 0).trans rfl, (blk_cell BK444.out 1).trans rfl, (blk_cell BK444.out 2).trans rfl, (blk_cell BK444.out 3).trans rfl⟩ (fun hHeld => ?_); refine with_tabW spec_l15Join.tab4 spec_l15Join.bits4 (fun HT_ HW_ => ?_)
         generalize wr.drew = w17 at BK444 HB hHeld ⊢
         refine pure_ (i := 0) (N := some 14) (v := ?_) (a' := ?_) #[true, false, false, false, false, false, false, false, false, false, false, false, false, false, false, false] rfl rfl (any_of HT_.out (by kernel_rfl)) (fun _ _ _ h => h) (Or.inl ⟨by rfl, ?_⟩) ?_ ?_
         rotate_left
         ·intro w'
          go_simp
          with_reducible rfl
         rotate_left
         ·simp only [Act.put, pt6_, i64_w, i32_w]
          rfl
         refine pure_ (i := 1) (N := some 15) (v := ?_) (a' := ?_) #[true, true, false, false, false, false, false, false, false, false, false, false, false, false, false, false] rfl rfl (any_of HT_.out (by kernel_rfl)) (fun _ _ _ h => h) (Or.inl ⟨by rfl, ?_⟩) ?_ ?_
         rotate_left
         ·intro w'
          go_simp
          with_reducible rfl
         rotate_left
         ·simp only [Act.put, pt6_, i64_w, i32_w]
          rfl
         refine pure_ (i := 3) (N := some 17) (v := ?_) (a' := ?_) #[true, true, false, true, false, false, false, false, false, false, false, false, false, false, false, false] rfl rfl (any_of HT_.out (by kernel_rfl)) (fun _ _ _ h => h) (Or.inl ⟨by rfl, ?_⟩) ?_ ?_
         rotate_left
         ·intro w'
          go_simp
          with_reducible rfl
         rotate_left
         ·simp only [Act.put, pt6_, i64_w, i32_w]
          rfl
         refine pure_ (i := 4) (N := some 18) (v := ?_) (a' := ?_) #[true, true, false, true, true, false, false, false, false, false, false, false, false, false, false, false] rfl rfl (any_of HT_.out (by kernel_rfl)) (fun _ _ _ h => h) (Or.inl ⟨by rfl, ?_⟩) ?_ ?_
         rotate_left
         ·intro w'
          go_simp
          with_reducible rfl
         rotate_left
         ·simp only [Act.put, pt6_, i64_w, i32_w]
          rfl
         refine pure_ (i := 5) (N := some 19) (v := ?_) (a' := ?_) #[true, true, false, true, true, true, false, false, false, false, false, false, false, false, false, false] rfl rfl (any_of HT_.out (by kernel_rfl)) (fun _ _ _ h => h) (Or.inl ⟨by rfl, ?_⟩) ?_ ?_
         rotate_left
         ·intro w'
          go_simp
          with_reducible rfl
         rotate_left
         ·simp only [Act.put, pt6_, i64_w, i32_w]
          rfl
         refine take_ (i := 2) (N := some 16) (v := ?_) (a' := ?_) #[true, true, true, true, true, true, false, false, false, false, false, false, false, false, false, false] rfl rfl (take_ofW HT_.out HW_.out (by kernel_rfl)) (fun _ _ _ h => h) (Or.inl ⟨by rfl, ?_⟩) hHeld ?_ ?_
         rotate_left
         ·rintro w' ⟨s0, s1, s2, s3⟩
          go_simp
          with_reducible rfl
         rotate_left
         ·simp only [Act.put, pt6_, i64_w, i32_w]
          rfl
         refine one_ (i := 6) (N := some 20) #[true, true, true, true, true, true, true, false, false, false, false, false, false, false, false, false] rfl rfl (one_of HT_.out (by kernel_rfl)) (by decide) (fun K hK => ?_)
         refine goes_ Try.func104 (by kernel_rfl) rfl #[.slice A0 l0.length c0, .int .i64 a1_2, .string (a2.extract 0 (x7_1 : Int).toNat)] (by rfl) rfl rfl z6_1 ?_
         with_reducible refine (HM_ k1 (Nat.le_of_succ_le HK1.out) _ _ l0 a1_2 (a2.extract 0 (x7_1 : Int).toNat) true _ ?side1 ?side2 A8.out).mono ?_
         (case side1 => repeat (first | exact (Kd.C_below HR0.out HB.out) | (with_reducible refine Kd.C_alloc ?_ _) | (with_reducible refine Kd.C_drewN ?_ _) | (with_reducible refine Kd.C_drew ?_)))
         (case side2 => exact HC0.out)
         rintro e w18 ⟨rfl, hb⟩
         refine ⟨_, rfl, ?_⟩
         have n0_ := Aside0.mk (blk_below (g := gb444) (o := .cells #[.int .i64 a1_0, .string a1_1, .int .i64 a1_2, .int .i64 a1_3] 31 (0, 0)) (bd6_ BK444.out) hb)
         have n1_ := Aside0.mk (below_step z6_6 hb)
         clear BK444
         clear HB
         have BK444 := n0_
         have HB := n1_
         clear n0_ n1_
         (try clear hb)
         (try clear hb2)
         (try clear hk)
         (try clear hi)
         refine hK.out _ _ ⟨(blk_cell BK444.out 0).trans rfl, (blk_cell BK444.out 1).trans rfl, (blk_cell BK444.out 2).trans rfl, (blk_cell BK444.out 3).trans rfl⟩ (fun hHeld => ?_)
         clear hK K
         refine norm_ (a' := ?_) ?_ ?_
         rotate_left
         ·show Act.put _ (some 20) _ = _
          simp only [Act.put, pt6_, i64_w, i32_w]
          rfl
         refine pure_ (i := 7) (N := some 21) (v := ?_) (a' := ?_) #[true, true, true, true, true, true, true, true, false, false, false, false, false, false, false, false] rfl rfl (any_of HT_.out (by kernel_rfl)) (fun _ _ _ h => h) (Or.inl ⟨by rfl, ?_⟩) ?_ ?_
         rotate_left
         ·intro w'
          go_simp
          with_reducible rfl
         rotate_left
         ·simp only [Act.put, pt6_, i64_w, i32_w]
          rfl
         refine pure_ (i := 8) (N := some 22) (v := ?_) (a' := ?_) #[true, true, true, true, true, true, true, true, true, false, false, false, false, false, false, false] rfl rfl (any_of HT_.out (by kernel_rfl)) (fun _ _ _ h => h) (Or.inl ⟨by rfl, ?_⟩) ?_ ?_
         rotate_left
         ·intro w'
          go_simp
          with_reducible rfl
         rotate_left
         ·simp only [Act.put, pt6_, i64_w, i32_w]
          rfl
         refine pure_ (i := 9) (N := some 23) (v := ?_) (a' := ?_) #[true, true, true, true, true, true, true, true, true, true, false, false, false, false, false, false] rfl rfl (any_of HT_.out (by kernel_rfl)) (fun _ _ _ h => h) (Or.inl ⟨by rfl, ?_⟩) ?_ ?_
         rotate_left
         ·intro w'
          go_simp
          with_reducible rfl
         rotate_left
         ·simp only [Act.put, pt6_, i64_w, i32_w]
          rfl
         refine pure_ (i := 11) (N := some 25) (v := ?_) (a' := ?_) #[true, true, true, true, true, true, true, true, true, true, false, true, false, false, false, false] rfl rfl (any_of HT_.out (by kernel_rfl)) (fun _ _ _ h => h) (Or.inl ⟨by rfl, ?_⟩) ?_ ?_
         rotate_left
         ·intro w'
          go_simp
          with_reducible rfl
         rotate_left
         ·simp only [Act.put, pt6_, i64_w, i32_w]
          rfl
         refine pure_ (i := 12) (N := some 26) (v := ?_) (a' := ?_) #[true, true, true, true, true, true, true, true, true, true, false, true, true, false, false, false] rfl rfl (any_of HT_.out (by kernel_rfl)) (fun _ _ _ h => h) (Or.inl ⟨by rfl, ?_⟩) ?_ ?_
         rotate_left
         ·intro w'
          go_simp
          with_reducible rfl
         rotate_left
         ·simp only [Act.put, pt6_, i64_w, i32_w]
          rfl
         refine pure_ (i := 13) (N := some 27) (v := ?_) (a' := ?_) #[true, true, true, true, true, true, true, true, true, true, false, true, true, true, false, false] rfl rfl (any_of HT_.out (by kernel_rfl)) (fun _ _ _ h => h) (Or.inl ⟨by rfl, ?_⟩) ?_ ?_
         rotate_left
         ·intro w'
          go_simp
          with_reducible rfl
         rotate_left
         ·simp only [Act.put, pt6_, i64_w, i32_w]
          rfl
         refine take_ (i := 10) (N := some 24) (v := ?_) (a' := ?_) #[true, true, true, true, true, true, true, true, true, true, true, true, true, true, false, false] rfl rfl (take_ofW HT_.out HW_.out (by kernel_rfl)) (fun _ _ _ h => h) (Or.inl ⟨by rfl, ?_⟩) hHeld ?_ ?_
         rotate_left
         ·rintro w' ⟨s0, s1, s2, s3⟩
          go_simp
          with_reducible rfl
         rotate_left
         ·simp only [Act.put, pt6_, i64_w, i32_w]
          rfl
         refine one_ (i := 14) (N := some 28) #[true, true, true, true, true, true, true, true, true, true, true, true, true, true, true, false] rfl rfl (one_of HT_.out (by kernel_rfl)) (by decide) (fun K hK => ?_)
         refine goes_ Try.func104 (by kernel_rfl) rfl #[.slice A0 l0.length c0, .int .i64 a1_3, .string (a2.extract (x7_1 : Int).toNat a2.size)] (by rfl) rfl rfl z6_1 ?_
         with_reducible refine (HM_ k1 (Nat.le_of_succ_le HK1.out) _ _ l0 a1_3 (a2.extract (x7_1 : Int).toNat a2.size) false _ ?side1 ?side2 A12.out).mono ?_
         (case side1 => repeat (first | exact (Kd.C_below HR0.out HB.out) | (with_reducible refine Kd.C_alloc ?_ _) | (with_reducible refine Kd.C_drewN ?_ _) | (with_reducible refine Kd.C_drew ?_)))
         (case side2 => exact HC0.out)
         rintro e w19 ⟨rfl, hb⟩
         refine ⟨_, rfl, ?_⟩
         have n0_ := Aside0.mk (blk_below (g := gb444) (o := .cells #[.int .i64 a1_0, .string a1_1, .int .i64 a1_2, .int .i64 a1_3] 31 (0, 0)) (bd6_ BK444.out) hb)
         have n1_ := Aside0.mk (below_step z6_6 hb)
         clear BK444
         clear HB
         have BK444 := n0_
         have HB := n1_
         clear n0_ n1_
         (try clear hb)
         (try clear hb2)
         (try clear hk)
         (try clear hi)
         refine hK.out _ _ ⟨(blk_cell BK444.out 0).trans rfl, (blk_cell BK444.out 1).trans rfl, (blk_cell BK444.out 2).trans rfl, (blk_cell BK444.out 3).trans rfl⟩ (fun hHeld => ?_)
         clear hK K
         refine norm_ (a' := ?_) ?_ ?_
         rotate_left
         ·show Act.put _ (some 28) _ = _
          simp only [Act.put, pt6_, i64_w, i32_w]
          rfl
         refine pure_ (i := 15) (N := some 29) (v := ?_) (a' := ?_) #[true, true, true, true, true, true, true, true, true, true, true, true, true, true, true, true] rfl rfl (any_of HT_.out (by kernel_rfl)) (fun _ _ _ h => h) (Or.inl ⟨by rfl, ?_⟩) ?_ ?_
         rotate_left
         ·intro w'
          go_simp
          with_reducible rfl
         rotate_left
         ·simp only [Act.put, pt6_, i64_w, i32_w]
          rfl
         refine done_ (done_of HT_.out (by kernel_rfl)) ?_
         try go_wp2
         go_roundg k1
         case measure => have := HK1.out; omega
         case rel => exact ⟨(wrap64 (x7_1 + 1)), (by first | rfl | (simp; done) | (simp [*]; done)), H', ⟨by have := HK1.out; omega⟩, ⟨by (with_reducible repeat (first | refine blk_drewN ?_ _ | refine blk_drew ?_ | refine blk_alloc ?_ _)); exact BK444.out⟩, ⟨z6_6⟩⟩
       ·replace c9 := Bool.eq_false_iff.mpr c9
        subst c9
        have H1 : (spec_l15Join.l0 k1 l0 a2 (wrap64 (x7_1 + 1)) a1_0 a1_1 a1_2 a1_3) = some r := by rw [if_neg (show ¬ (false = true) by decide)] at H; exact H
        clear H
        have H := H1
        clear H1
        have H' := Aside0.mk H
        clear H
        try go_wp2
        have n0_ := Aside0.mk (blk_drew BK444.out)
        have n1_ := Aside0.mk (below_drew1 HB.out)
        clear BK444
        clear HB
        have BK444 := n0_
        have HB := n1_
        clear n0_ n1_
        refine start_ (n := 16) (S := fun w' => w'.cell? ⟨gb444, 0, none⟩ = some (.int .i64 a1_0) ∧ w'.cell? ⟨gb444, 1, none⟩ = some (.string a1_1) ∧ w'.cell? ⟨gb444, 2, none⟩ = some (.int .i64 a1_2) ∧ w'.cell? ⟨gb444, 3, none⟩ = some (.int .i64 a1_3)) (ds := []) #[false, false, false, false, false, false, false, false, false, false, false, false, false, false, false, false] (by kernel_rfl) rfl rfl ⟨(blk_cell BK444.out 0).trans rfl, (blk_cell BK444.out 1).trans rfl, (blk_cell BK444.out 2).trans rfl, (blk_cell BK444.out 3).trans rfl⟩ (fun hHeld => ?_); refine with_tabW spec_l15Join.tab4 spec_l15Join.bits4 (fun HT_ HW_ => ?_)
        generalize wr.drew = w20 at BK444 HB hHeld ⊢
        refine pure_ (i := 0) (N := some 14) (v := ?_) (a' := ?_) #[true, false, false, false, false, false, false, false, false, false, false, false, false, false, false, false] rfl rfl (any_of HT_.out (by kernel_rfl)) (fun _ _ _ h => h) (Or.inl ⟨by rfl, ?_⟩) ?_ ?_
        rotate_left
        ·intro w'
         go_simp
         with_reducible rfl
        rotate_left
        ·simp only [Act.put, pt6_, i64_w, i32_w]
         rfl
        refine pure_ (i := 1) (N := some 15) (v := ?_) (a' := ?_) #[true, true, false, false, false, false, false, false, false, false, false, false, false, false, false, false] rfl rfl (any_of HT_.out (by kernel_rfl)) (fun _ _ _ h => h) (Or.inl ⟨by rfl, ?_⟩) ?_ ?_
        rotate_left
        ·intro w'
         go_simp
         with_reducible rfl
        rotate_left
        ·simp only [Act.put, pt6_, i64_w, i32_w]
         rfl
        refine pure_ (i := 3) (N := some 17) (v := ?_) (a' := ?_) #[true, true, false, true, false, false, false, false, false, false, false, false, false, false, false, false] rfl rfl (any_of HT_.out (by kernel_rfl)) (fun _ _ _ h => h) (Or.inl ⟨by rfl, ?_⟩) ?_ ?_
        rotate_left
        ·intro w'
         go_simp
         with_reducible rfl
        rotate_left
        ·simp only [Act.put, pt6_, i64_w, i32_w]
         rfl
        refine pure_ (i := 4) (N := some 18) (v := ?_) (a' := ?_) #[true, true, false, true, true, false, false, false, false, false, false, false, false, false, false, false] rfl rfl (any_of HT_.out (by kernel_rfl)) (fun _ _ _ h => h) (Or.inl ⟨by rfl, ?_⟩) ?_ ?_
        rotate_left
        ·intro w'
         go_simp
         with_reducible rfl
        rotate_left
        ·simp only [Act.put, pt6_, i64_w, i32_w]
         rfl
        refine pure_ (i := 5) (N := some 19) (v := ?_) (a' := ?_) #[true, true, false, true, true, true, false, false, false, false, false, false, false, false, false, false] rfl rfl (any_of HT_.out (by kernel_rfl)) (fun _ _ _ h => h) (Or.inl ⟨by rfl, ?_⟩) ?_ ?_
        rotate_left
        ·intro w'
         go_simp
         with_reducible rfl
        rotate_left
        ·simp only [Act.put, pt6_, i64_w, i32_w]
         rfl
        refine take_ (i := 2) (N := some 16) (v := ?_) (a' := ?_) #[true, true, true, true, true, true, false, false, false, false, false, false, false, false, false, false] rfl rfl (take_ofW HT_.out HW_.out (by kernel_rfl)) (fun _ _ _ h => h) (Or.inl ⟨by rfl, ?_⟩) hHeld ?_ ?_
        rotate_left
        ·rintro w' ⟨s0, s1, s2, s3⟩
         go_simp
         with_reducible rfl
        rotate_left
        ·simp only [Act.put, pt6_, i64_w, i32_w]
         rfl
        refine one_ (i := 6) (N := some 20) #[true, true, true, true, true, true, true, false, false, false, false, false, false, false, false, false] rfl rfl (one_of HT_.out (by kernel_rfl)) (by decide) (fun K hK => ?_)
        refine goes_ Try.func104 (by kernel_rfl) rfl #[.slice A0 l0.length c0, .int .i64 a1_2, .string (a2.extract 0 (x7_1 : Int).toNat)] (by rfl) rfl rfl z6_1 ?_
        with_reducible refine (HM_ k1 (Nat.le_of_succ_le HK1.out) _ _ l0 a1_2 (a2.extract 0 (x7_1 : Int).toNat) false _ ?side1 ?side2 A8.out).mono ?_
        (case side1 => repeat (first | exact (Kd.C_below HR0.out HB.out) | (with_reducible refine Kd.C_alloc ?_ _) | (with_reducible refine Kd.C_drewN ?_ _) | (with_reducible refine Kd.C_drew ?_)))
        (case side2 => exact HC0.out)
        rintro e w21 ⟨rfl, hb⟩
        refine ⟨_, rfl, ?_⟩
        have n0_ := Aside0.mk (blk_below (g := gb444) (o := .cells #[.int .i64 a1_0, .string a1_1, .int .i64 a1_2, .int .i64 a1_3] 31 (0, 0)) (bd6_ BK444.out) hb)
        have n1_ := Aside0.mk (below_step z6_6 hb)
        clear BK444
        clear HB
        have BK444 := n0_
        have HB := n1_
        clear n0_ n1_
        (try clear hb)
        (try clear hb2)
        (try clear hk)
        (try clear hi)
        refine hK.out _ _ ⟨(blk_cell BK444.out 0).trans rfl, (blk_cell BK444.out 1).trans rfl, (blk_cell BK444.out 2).trans rfl, (blk_cell BK444.out 3).trans rfl⟩ (fun hHeld => ?_)
        clear hK K
        refine norm_ (a' := ?_) ?_ ?_
        rotate_left
        ·show Act.put _ (some 20) _ = _
         simp only [Act.put, pt6_, i64_w, i32_w]
         rfl
        refine pure_ (i := 7) (N := some 21) (v := ?_) (a' := ?_) #[true, true, true, true, true, true, true, true, false, false, false, false, false, false, false, false] rfl rfl (any_of HT_.out (by kernel_rfl)) (fun _ _ _ h => h) (Or.inl ⟨by rfl, ?_⟩) ?_ ?_
        rotate_left
        ·intro w'
         go_simp
         with_reducible rfl
        rotate_left
        ·simp only [Act.put, pt6_, i64_w, i32_w]
         rfl
        refine pure_ (i := 8) (N := some 22) (v := undef) (a' := ?_) #[true, true, true, true, true, true, true, true, true, false, false, false, false, false, false, false] rfl rfl (any_of HT_.out (by kernel_rfl)) (fun _ _ _ h => h) (Or.inr ⟨by rfl, rfl⟩) ?_ ?_
        rotate_left
        ·simp only [Act.put, pt6_, i64_w, i32_w]
         rfl
        refine pure_ (i := 9) (N := some 23) (v := undef) (a' := ?_) #[true, true, true, true, true, true, true, true, true, true, false, false, false, false, false, false] rfl rfl (any_of HT_.out (by kernel_rfl)) (fun _ _ _ h => h) (Or.inr ⟨by rfl, rfl⟩) ?_ ?_
        rotate_left
        ·simp only [Act.put, pt6_, i64_w, i32_w]
         rfl
        refine pure_ (i := 10) (N := some 24) (v := undef) (a' := ?_) #[true, true, true, true, true, true, true, true, true, true, true, false, false, false, false, false] rfl rfl (any_of HT_.out (by kernel_rfl)) (fun _ _ _ h => h) (Or.inr ⟨by rfl, rfl⟩) ?_ ?_
        rotate_left
        ·simp only [Act.put, pt6_, i64_w, i32_w]
         rfl
        refine pure_ (i := 11) (N := some 25) (v := undef) (a' := ?_) #[true, true, true, true, true, true, true, true, true, true, true, true, false, false, false, false] rfl rfl (any_of HT_.out (by kernel_rfl)) (fun _ _ _ h => h) (Or.inr ⟨by rfl, rfl⟩) ?_ ?_
        rotate_left
        ·simp only [Act.put, pt6_, i64_w, i32_w]
         rfl
        refine pure_ (i := 12) (N := some 26) (v := undef) (a' := ?_) #[true, true, true, true, true, true, true, true, true, true, true, true, true, false, false, false] rfl rfl (any_of HT_.out (by kernel_rfl)) (fun _ _ _ h => h) (Or.inr ⟨by rfl, rfl⟩) ?_ ?_
        rotate_left
        ·simp only [Act.put, pt6_, i64_w, i32_w]
         rfl
        refine pure_ (i := 13) (N := some 27) (v := undef) (a' := ?_) #[true, true, true, true, true, true, true, true, true, true, true, true, true, true, false, false] rfl rfl (any_of HT_.out (by kernel_rfl)) (fun _ _ _ h => h) (Or.inr ⟨by rfl, rfl⟩) ?_ ?_
        rotate_left
        ·simp only [Act.put, pt6_, i64_w, i32_w]
         rfl
        refine pure_ (i := 14) (N := some 28) (v := undef) (a' := ?_) #[true, true, true, true, true, true, true, true, true, true, true, true, true, true, true, false] rfl rfl (any_of HT_.out (by kernel_rfl)) (fun _ _ _ h => h) (Or.inr ⟨by rfl, rfl⟩) ?_ ?_
        rotate_left
        ·simp only [Act.put, pt6_, i64_w, i32_w]
         rfl
        refine pure_ (i := 15) (N := some 29) (v := ?_) (a' := ?_) #[true, true, true, true, true, true, true, true, true, true, true, true, true, true, true, true] rfl rfl (any_of HT_.out (by kernel_rfl)) (fun _ _ _ h => h) (Or.inl ⟨by rfl, ?_⟩) ?_ ?_
        rotate_left
        ·intro w'
         go_simp
         with_reducible rfl
        rotate_left
        ·simp only [Act.put, pt6_, i64_w, i32_w]
         rfl
        refine done_ (done_of HT_.out (by kernel_rfl)) ?_
        try go_wp2
        go_roundg k1
        case measure => have := HK1.out; omega
        case rel => exact ⟨(wrap64 (x7_1 + 1)), (by first | rfl | (simp; done) | (simp [*]; done)), H', ⟨by have := HK1.out; omega⟩, ⟨by (with_reducible repeat (first | refine blk_drewN ?_ _ | refine blk_drew ?_ | refine blk_alloc ?_ _)); exact BK444.out⟩, ⟨z6_6⟩⟩
      ·rw [if_neg c7] at H
       exact absurd H (by simp)
     ·rw [if_neg c6] at H
      exact absurd H (by simp)
    ·rw [if_neg c5] at H
     have c5b0 : decide (x7_1 < (a2.size : Int)) = false := decide_eq_false c5
     clear c5
     obtain rfl := Option.some.inj H
     go_wp2
     go_ret
     exact ⟨z6_7, z6_6⟩

def spec_l15In.T7 : Bool × List (List Nat × List Nat) := (true, [([], []), ([], []), ([1], [1]), ([], []), ([], []), ([], []), ([3, 4, 5], [3, 4, 5]), ([0, 2, 6], [0, 2, 6]), ([7, 7], [7]), ([8], [8]), ([8], [8]), ([10, 8], [8, 10]), ([8], [8]), ([8], [8]), ([12, 13, 8], [8, 12, 13]), ([8], [8]), ([8], [8]), ([15, 16, 8], [8, 15, 16]), ([14, 17, 8], [8, 14, 17]), ([9, 11, 18, 8, 8], [8, 9, 11, 18]), ([8, 19], [8, 19])])
def spec_l15In.B7 : List Nat := [0, 0, 2, 0, 0, 0, 56, 127, 255, 511, 511, 1535, 511, 511, 12799, 511, 511, 98815, 258559, 524287, 1048575]
theorem spec_l15In.tab7 : rtab .any (opsOf Try.f130 7) = spec_l15In.T7 := by kernel_rfl
theorem spec_l15In.bits7 : waitsOk spec_l15In.T7.2 spec_l15In.B7 = true := by kernel_rfl
set_option maxHeartbeats 8000000 in
set_option maxRecDepth 100000 in
theorem spec_l15In.calls (k : Nat) (HM_ : ∀ k' : Nat, k' ≤ k → MakesAt k') (A0 : Option Addr) (c0 : Nat) (l0 : List (S31)) (a1_0 : Int) (a1_1 : ByteArray) (a1_2 : Int) (a1_3 : Int) (a2 : ByteArray) (r : Bool) (w : World) (hr0 : Kd.C k31 w A0 l0.length l0) (hc0 : l0.length ≤ c0) (h : spec_l15In.f k l0 a1_0 a1_1 a1_2 a1_3 a2 = some r) :
   Calls Try.prog 130 #[.slice A0 l0.length c0, .agg #[.int .i64 a1_0, .string a1_1, .int .i64 a1_2, .int .i64 a1_3], .string a2] w fun e w' => e = .returned (.bool r) ∧ Below w.heap.size w w' := by
  have hu31 := Try.underlying31
  have HR0 := Aside0.mk hr0
  have HC0 := Aside0.mk hc0
  clear hr0 hc0
  have HB := Aside0.mk (Below.refl w.heap.size w)
  have H : (spec_l15In.l0 k l0 a2 1 a1_0 a1_1 a1_2 a1_3) = some r := h
  clear h
  have H' := Aside0.mk H
  clear H
  go_enter Try.func130, Try.ntmps130
  go_wp2_with (first | ((with_reducible refine gate_dst (N := 4) rfl ?_); refine box_event ?hg (N := 4) ?hd (cs := #[.int .i64 a1_0, .string a1_1, .int .i64 a1_2, .int .i64 a1_3]) (t := 31) ?hr ?_; (case hd => rfl); (case hg => rfl); (case hr => first | (go_simp; done) | (go_simp; rfl)); intro gb447 hg w4 hbox hb; have n0_ := Aside0.mk (below_step z6_0 hb); have n1_ := Aside0.mk (hbox); have n2_ := Aside0.mk ((by rw [hg]; exact (below_size z6_0) : w.heap.size ≤ gb447)); have n3_ := Aside0.mk ((by rw [hg]; exact (below_size z6_0) : w.heap.size ≤ gb447)); clear HB; have HB := n0_; have BK447 := n1_; have GW447 := n2_; have GE447 := n3_; clear n0_ n1_ n2_ n3_; clear hb hbox hg))
  go_loopg [7] k (fun kq v7 w' => ∃ (x7_1 : Int), v7 = .int .i64 x7_1 ∧ Aside0 (spec_l15In.l0 kq l0 a2 x7_1 a1_0 a1_1 a1_2 a1_3 = some r) ∧ Aside0 (kq ≤ k) ∧ Aside0 (w'.heap[gb447]? = some (.cells #[.int .i64 a1_0, .string a1_1, .int .i64 a1_2, .int .i64 a1_3] 31 (0, 0))) ∧ Aside0 (Below w.heap.size w w'))
  case atStart => exact ⟨(1), (by first | rfl | (simp; done) | (simp [*]; done)), H', ⟨Nat.le_refl _⟩, ⟨z6_8⟩, ⟨z6_4⟩⟩
  case round =>
   clear H'
   try clear c1
   try clear p2
   obtain ⟨x7_1, rfl, HA, HK1, BK447, HB⟩ := hrel
   cases gk with
   | zero => exact absurd HA.out (by simp [spec_l15In.l0])
   | succ k1 =>
    have H := HA.out
    clear HA
    simp only [spec_l15In.l0] at H
    by_cases c5 : x7_1 < (a2.size : Int)
    ·rw [if_pos c5] at H
     have c5b0 : decide (x7_1 < (a2.size : Int)) = true := decide_eq_true c5
     clear c5
     have H' := Aside0.mk H
     clear H
     go_wp2
     go_loopg [8] k1 (fun kq v8 w' => ∃ (x8_2 : Int), v8 = .int .i64 x8_2 ∧ Aside0 (spec_l15In.l1 kq l0 a2 x7_1 x8_2 a1_0 a1_1 a1_2 a1_3 = some r) ∧ Aside0 (kq ≤ k1) ∧ Aside0 (w'.heap[gb447]? = some (.cells #[.int .i64 a1_0, .string a1_1, .int .i64 a1_2, .int .i64 a1_3] 31 (0, 0))) ∧ Aside0 (Below w.heap.size w w'))
     case atStart => exact ⟨(wrap64 (x7_1 + 1)), (by first | rfl | (simp; done) | (simp [*]; done)), H', ⟨Nat.le_refl _⟩, ⟨z6_8⟩, ⟨z6_4⟩⟩
     case round =>
      clear H'
      try clear c1
      try clear p2
      try clear c5
      try clear c5b0
      try clear p2
      obtain ⟨x8_2, rfl, HA, HK2, BK447, HB⟩ := hrel
      cases gk with
      | zero => exact absurd HA.out (by simp [spec_l15In.l1])
      | succ k2 =>
       have H := HA.out
       clear HA
       simp only [spec_l15In.l1] at H
       by_cases c6 : x8_2 < (a2.size : Int)
       ·rw [if_pos c6] at H
        have c6b0 : decide (x8_2 < (a2.size : Int)) = true := decide_eq_true c6
        clear c6
        by_cases c7 : 0 ≤ x7_1
        ·rw [if_pos c7] at H
         have c7b0 := eq_true c7
         have c7b1 : decide (0 ≤ x7_1) = true := decide_eq_true c7
         clear c7
         by_cases c8 : x7_1 ≤ x8_2
         ·rw [if_pos c8] at H
          have c8b0 := eq_true c8
          have c8b1 : decide (x7_1 ≤ x8_2) = true := decide_eq_true c8
          clear c8
          by_cases c9 : x8_2 ≤ (a2.size : Int)
          ·rw [if_pos c9] at H
           have c9b0 := eq_true c9
           have c9b1 : decide (x8_2 ≤ (a2.size : Int)) = true := decide_eq_true c9
           clear c9
           replace H := Option.bind_eq_some_iff.mp H
           obtain ⟨t448, A100, H⟩ := H
           replace H : (if t448 = true then (if x7_1 ≤ (a2.size : Int) then (if 0 ≤ x8_2 then (if (a2.extract 0 (x7_1 : Int).toNat).size + (a2.extract (x8_2 : Int).toNat a2.size).size ≤ 9223372036854775807 then ((spec_l15Makes.f k2 l0 a1_2 ((a2.extract 0 (x7_1 : Int).toNat) ++ (a2.extract (x8_2 : Int).toNat a2.size))).bind fun t449 => (if t449 = true then (some true) else (spec_l15In.l1 k2 l0 a2 x7_1 (wrap64 (x8_2 + 1)) a1_0 a1_1 a1_2 a1_3))) else (none)) else (none)) else (none)) else (spec_l15In.l1 k2 l0 a2 x7_1 (wrap64 (x8_2 + 1)) a1_0 a1_1 a1_2 a1_3)) = some r := H
           have A10 := Aside0.mk A100
           clear A100
           by_cases c11 : t448 = true
           ·subst c11
            have H1 : (if x7_1 ≤ (a2.size : Int) then (if 0 ≤ x8_2 then (if (a2.extract 0 (x7_1 : Int).toNat).size + (a2.extract (x8_2 : Int).toNat a2.size).size ≤ 9223372036854775807 then ((spec_l15Makes.f k2 l0 a1_2 ((a2.extract 0 (x7_1 : Int).toNat) ++ (a2.extract (x8_2 : Int).toNat a2.size))).bind fun t449 => (if t449 = true then (some true) else (spec_l15In.l1 k2 l0 a2 x7_1 (wrap64 (x8_2 + 1)) a1_0 a1_1 a1_2 a1_3))) else (none)) else (none)) else (none)) = some r := by rw [if_pos rfl] at H; exact H
            clear H
            have H := H1
            clear H1
            have c12b0 := eq_true (of_decide_eq_true z6_5 : 0 ≤ x7_1)
            by_cases c13 : x7_1 ≤ (a2.size : Int)
            ·rw [if_pos c13] at H
             have c13b0 := eq_true c13
             have c13b1 : decide (x7_1 ≤ (a2.size : Int)) = true := decide_eq_true c13
             clear c13
             by_cases c14 : 0 ≤ x8_2
             ·rw [if_pos c14] at H
              have c14b0 := eq_true c14
              have c14b1 : decide (0 ≤ x8_2) = true := decide_eq_true c14
              clear c14
              have c15b0 := eq_true (of_decide_eq_true z6_5 : x8_2 ≤ (a2.size : Int))
              by_cases c16 : (a2.extract 0 (x7_1 : Int).toNat).size + (a2.extract (x8_2 : Int).toNat a2.size).size ≤ 9223372036854775807
              ·rw [if_pos c16] at H
               have c16b0 := eq_true c16
               have c16b1 : decide ((a2.extract 0 (x7_1 : Int).toNat).size + (a2.extract (x8_2 : Int).toNat a2.size).size ≤ 9223372036854775807) = true := decide_eq_true c16
               try have c16b2 : (9223372036854775807 < (a2.extract 0 (x7_1 : Int).toNat).size + (a2.extract (x8_2 : Int).toNat a2.size).size) = False := eq_false (Nat.not_lt.2 c16)
               try have c16b3 : (9223372036854775807 < x7_1.toNat + (a2.size - x8_2.toNat)) = False := eq_false (by have q0_ : (x7_1 : Int) ≤ (a2.size : Int) := of_decide_eq_true z6_5; have q1_ : (x8_2 : Int) ≤ (a2.size : Int) := of_decide_eq_true z6_5; have h_ := c16; simp only [ByteArray.size_append, ByteArray.size_extract] at h_; omega)
               replace H := Option.bind_eq_some_iff.mp H
               obtain ⟨t449, A170, H⟩ := H
               replace H : (if t449 = true then (some true) else (spec_l15In.l1 k2 l0 a2 x7_1 (wrap64 (x8_2 + 1)) a1_0 a1_1 a1_2 a1_3)) = some r := H
               have A17 := Aside0.mk A170
               clear A170
               by_cases c18 : t449 = true
               ·subst c18
                have H1 : (some true) = some r := by rw [if_pos rfl] at H; exact H
                clear H
                have H := H1
                clear H1
                obtain rfl := Option.some.inj H
                try go_wp2
                have n0_ := Aside0.mk (blk_drew BK447.out)
                have n1_ := Aside0.mk (below_drew1 HB.out)
                clear BK447
                clear HB
                have BK447 := n0_
                have HB := n1_
                clear n0_ n1_
                refine start_ (n := 21) (S := fun w' => w'.cell? ⟨gb447, 0, none⟩ = some (.int .i64 a1_0) ∧ w'.cell? ⟨gb447, 1, none⟩ = some (.string a1_1) ∧ w'.cell? ⟨gb447, 2, none⟩ = some (.int .i64 a1_2) ∧ w'.cell? ⟨gb447, 3, none⟩ = some (.int .i64 a1_3)) (ds := []) #[false, false, false, false, false, false, false, false, false, false, false, false, false, false, false, false, false, false, false, false, false] (by kernel_rfl) rfl rfl ⟨(blk_cell BK447.out 0).trans rfl, (blk_cell BK447.out 1).trans rfl, (blk_cell BK447.out 2).trans rfl, (blk_cell BK447.out 3).trans rfl⟩ (fun hHeld => ?_); refine with_tabW spec_l15In.tab7 spec_l15In.bits7 (fun HT_ HW_ => ?_)
                generalize wr.drew = w19 at BK447 HB hHeld ⊢
                refine pure_ (i := 0) (N := some 23) (v := ?_) (a' := ?_) #[true, false, false, false, false, false, false, false, false, false, false, false, false, false, false, false, false, false, false, false, false] rfl rfl (any_of HT_.out (by kernel_rfl)) (fun _ _ _ h => h) (Or.inl ⟨by rfl, ?_⟩) ?_ ?_
                rotate_left
                ·intro w'
                 go_simp
                 with_reducible rfl
                rotate_left
                ·simp only [Act.put, pt6_, i64_w, i32_w]
                 rfl
                refine pure_ (i := 1) (N := some 24) (v := ?_) (a' := ?_) #[true, true, false, false, false, false, false, false, false, false, false, false, false, false, false, false, false, false, false, false, false] rfl rfl (any_of HT_.out (by kernel_rfl)) (fun _ _ _ h => h) (Or.inl ⟨by rfl, ?_⟩) ?_ ?_
                rotate_left
                ·intro w'
                 go_simp
                 with_reducible rfl
                rotate_left
                ·simp only [Act.put, pt6_, i64_w, i32_w]
                 rfl
                refine pure_ (i := 3) (N := some 26) (v := ?_) (a' := ?_) #[true, true, false, true, false, false, false, false, false, false, false, false, false, false, false, false, false, false, false, false, false] rfl rfl (any_of HT_.out (by kernel_rfl)) (fun _ _ _ h => h) (Or.inl ⟨by rfl, ?_⟩) ?_ ?_
                rotate_left
                ·intro w'
                 go_simp
                 with_reducible rfl
                rotate_left
                ·simp only [Act.put, pt6_, i64_w, i32_w]
                 rfl
                refine pure_ (i := 4) (N := some 27) (v := ?_) (a' := ?_) #[true, true, false, true, true, false, false, false, false, false, false, false, false, false, false, false, false, false, false, false, false] rfl rfl (any_of HT_.out (by kernel_rfl)) (fun _ _ _ h => h) (Or.inl ⟨by rfl, ?_⟩) ?_ ?_
                rotate_left
                ·intro w'
                 go_simp
                 with_reducible rfl
                rotate_left
                ·simp only [Act.put, pt6_, i64_w, i32_w]
                 rfl
                refine pure_ (i := 5) (N := some 28) (v := ?_) (a' := ?_) #[true, true, false, true, true, true, false, false, false, false, false, false, false, false, false, false, false, false, false, false, false] rfl rfl (any_of HT_.out (by kernel_rfl)) (fun _ _ _ h => h) (Or.inl ⟨by rfl, ?_⟩) ?_ ?_
                rotate_left
                ·intro w'
                 go_simp
                 with_reducible rfl
                rotate_left
                ·simp only [Act.put, pt6_, i64_w, i32_w]
                 rfl
                refine pure_ (i := 6) (N := some 29) (v := ?_) (a' := ?_) #[true, true, false, true, true, true, true, false, false, false, false, false, false, false, false, false, false, false, false, false, false] rfl rfl (any_of HT_.out (by kernel_rfl)) (fun _ _ _ h => h) (Or.inl ⟨by rfl, ?_⟩) ?_ ?_
                rotate_left
                ·intro w'
                 go_simp
                 with_reducible rfl
                rotate_left
                ·simp only [Act.put, pt6_, i64_w, i32_w]
                 rfl
                refine take_ (i := 2) (N := some 25) (v := ?_) (a' := ?_) #[true, true, true, true, true, true, true, false, false, false, false, false, false, false, false, false, false, false, false, false, false] rfl rfl (take_ofW HT_.out HW_.out (by kernel_rfl)) (fun _ _ _ h => h) (Or.inl ⟨by rfl, ?_⟩) hHeld ?_ ?_
                rotate_left
                ·rintro w' ⟨s0, s1, s2, s3⟩
                 go_simp
                 with_reducible rfl
                rotate_left
                ·simp only [Act.put, pt6_, i64_w, i32_w]
                 rfl
                refine one_ (i := 7) (N := some 30) #[true, true, true, true, true, true, true, true, false, false, false, false, false, false, false, false, false, false, false, false, false] rfl rfl (one_of HT_.out (by kernel_rfl)) (by decide) (fun K hK => ?_)
                refine goes_ Try.func104 (by kernel_rfl) rfl #[.slice A0 l0.length c0, .int .i64 a1_3, .string (a2.extract (x7_1 : Int).toNat (x8_2 : Int).toNat)] (by rfl) rfl rfl z6_1 ?_
                with_reducible refine (HM_ k2 (Nat.le_of_succ_le (Nat.le_trans HK2.out (Nat.le_of_succ_le HK1.out))) _ _ l0 a1_3 (a2.extract (x7_1 : Int).toNat (x8_2 : Int).toNat) true _ ?side1 ?side2 A10.out).mono ?_
                (case side1 => repeat (first | exact (Kd.C_below HR0.out HB.out) | (with_reducible refine Kd.C_alloc ?_ _) | (with_reducible refine Kd.C_drewN ?_ _) | (with_reducible refine Kd.C_drew ?_)))
                (case side2 => exact HC0.out)
                rintro e w20 ⟨rfl, hb⟩
                refine ⟨_, rfl, ?_⟩
                have n0_ := Aside0.mk (blk_below (g := gb447) (o := .cells #[.int .i64 a1_0, .string a1_1, .int .i64 a1_2, .int .i64 a1_3] 31 (0, 0)) (bd6_ BK447.out) hb)
                have n1_ := Aside0.mk (below_step z6_4 hb)
                clear BK447
                clear HB
                have BK447 := n0_
                have HB := n1_
                clear n0_ n1_
                (try clear hb)
                (try clear hb2)
                (try clear hk)
                (try clear hi)
                refine hK.out _ _ ⟨(blk_cell BK447.out 0).trans rfl, (blk_cell BK447.out 1).trans rfl, (blk_cell BK447.out 2).trans rfl, (blk_cell BK447.out 3).trans rfl⟩ (fun hHeld => ?_)
                clear hK K
                refine norm_ (a' := ?_) ?_ ?_
                rotate_left
                ·show Act.put _ (some 30) _ = _
                 simp only [Act.put, pt6_, i64_w, i32_w]
                 rfl
                refine pure_ (i := 8) (N := some 31) (v := ?_) (a' := ?_) #[true, true, true, true, true, true, true, true, true, false, false, false, false, false, false, false, false, false, false, false, false] rfl rfl (any_of HT_.out (by kernel_rfl)) (fun _ _ _ h => h) (Or.inl ⟨by rfl, ?_⟩) ?_ ?_
                rotate_left
                ·intro w'
                 go_simp
                 with_reducible rfl
                rotate_left
                ·simp only [Act.put, pt6_, i64_w, i32_w]
                 rfl
                refine pure_ (i := 9) (N := some 32) (v := ?_) (a' := ?_) #[true, true, true, true, true, true, true, true, true, true, false, false, false, false, false, false, false, false, false, false, false] rfl rfl (any_of HT_.out (by kernel_rfl)) (fun _ _ _ h => h) (Or.inl ⟨by rfl, ?_⟩) ?_ ?_
                rotate_left
                ·intro w'
                 go_simp
                 with_reducible rfl
                rotate_left
                ·simp only [Act.put, pt6_, i64_w, i32_w]
                 rfl
                refine pure_ (i := 10) (N := some 33) (v := ?_) (a' := ?_) #[true, true, true, true, true, true, true, true, true, true, true, false, false, false, false, false, false, false, false, false, false] rfl rfl (any_of HT_.out (by kernel_rfl)) (fun _ _ _ h => h) (Or.inl ⟨by rfl, ?_⟩) ?_ ?_
                rotate_left
                ·intro w'
                 go_simp
                 with_reducible rfl
                rotate_left
                ·simp only [Act.put, pt6_, i64_w, i32_w]
                 rfl
                refine pure_ (i := 12) (N := some 35) (v := ?_) (a' := ?_) #[true, true, true, true, true, true, true, true, true, true, true, false, true, false, false, false, false, false, false, false, false] rfl rfl (any_of HT_.out (by kernel_rfl)) (fun _ _ _ h => h) (Or.inl ⟨by rfl, ?_⟩) ?_ ?_
                rotate_left
                ·intro w'
                 go_simp
                 with_reducible rfl
                rotate_left
                ·simp only [Act.put, pt6_, i64_w, i32_w]
                 rfl
                refine pure_ (i := 13) (N := some 36) (v := ?_) (a' := ?_) #[true, true, true, true, true, true, true, true, true, true, true, false, true, true, false, false, false, false, false, false, false] rfl rfl (any_of HT_.out (by kernel_rfl)) (fun _ _ _ h => h) (Or.inl ⟨by rfl, ?_⟩) ?_ ?_
                rotate_left
                ·intro w'
                 go_simp
                 with_reducible rfl
                rotate_left
                ·simp only [Act.put, pt6_, i64_w, i32_w]
                 rfl
                refine pure_ (i := 14) (N := some 37) (v := ?_) (a' := ?_) #[true, true, true, true, true, true, true, true, true, true, true, false, true, true, true, false, false, false, false, false, false] rfl rfl (any_of HT_.out (by kernel_rfl)) (fun _ _ _ h => h) (Or.inl ⟨by rfl, ?_⟩) ?_ ?_
                rotate_left
                ·intro w'
                 go_simp
                 with_reducible rfl
                rotate_left
                ·simp only [Act.put, pt6_, i64_w, i32_w]
                 rfl
                refine pure_ (i := 15) (N := some 38) (v := ?_) (a' := ?_) #[true, true, true, true, true, true, true, true, true, true, true, false, true, true, true, true, false, false, false, false, false] rfl rfl (any_of HT_.out (by kernel_rfl)) (fun _ _ _ h => h) (Or.inl ⟨by rfl, ?_⟩) ?_ ?_
                rotate_left
                ·intro w'
                 go_simp
                 with_reducible rfl
                rotate_left
                ·simp only [Act.put, pt6_, i64_w, i32_w]
                 rfl
                refine pure_ (i := 16) (N := some 39) (v := ?_) (a' := ?_) #[true, true, true, true, true, true, true, true, true, true, true, false, true, true, true, true, true, false, false, false, false] rfl rfl (any_of HT_.out (by kernel_rfl)) (fun _ _ _ h => h) (Or.inl ⟨by rfl, ?_⟩) ?_ ?_
                rotate_left
                ·intro w'
                 go_simp
                 with_reducible rfl
                rotate_left
                ·simp only [Act.put, pt6_, i64_w, i32_w]
                 rfl
                refine pure_ (i := 17) (N := some 40) (v := ?_) (a' := ?_) #[true, true, true, true, true, true, true, true, true, true, true, false, true, true, true, true, true, true, false, false, false] rfl rfl (any_of HT_.out (by kernel_rfl)) (fun _ _ _ h => h) (Or.inl ⟨by rfl, ?_⟩) ?_ ?_
                rotate_left
                ·intro w'
                 go_simp
                 with_reducible rfl
                rotate_left
                ·simp only [Act.put, pt6_, i64_w, i32_w]
                 rfl
                refine pure_ (i := 18) (N := some 41) (v := ?_) (a' := ?_) #[true, true, true, true, true, true, true, true, true, true, true, false, true, true, true, true, true, true, true, false, false] rfl rfl (any_of HT_.out (by kernel_rfl)) (fun _ _ _ h => h) (Or.inl ⟨by rfl, ?_⟩) ?_ ?_
                rotate_left
                ·intro w'
                 go_simp
                 with_reducible rfl
                rotate_left
                ·simp only [Act.put, pt6_, i64_w, i32_w]
                 rfl
                refine take_ (i := 11) (N := some 34) (v := ?_) (a' := ?_) #[true, true, true, true, true, true, true, true, true, true, true, true, true, true, true, true, true, true, true, false, false] rfl rfl (take_ofW HT_.out HW_.out (by kernel_rfl)) (fun _ _ _ h => h) (Or.inl ⟨by rfl, ?_⟩) hHeld ?_ ?_
                rotate_left
                ·rintro w' ⟨s0, s1, s2, s3⟩
                 go_simp
                 with_reducible rfl
                rotate_left
                ·simp only [Act.put, pt6_, i64_w, i32_w]
                 rfl
                refine one_ (i := 19) (N := some 42) #[true, true, true, true, true, true, true, true, true, true, true, true, true, true, true, true, true, true, true, true, false] rfl rfl (one_of HT_.out (by kernel_rfl)) (by decide) (fun K hK => ?_)
                refine goes_ Try.func104 (by kernel_rfl) rfl #[.slice A0 l0.length c0, .int .i64 a1_2, .string ((a2.extract 0 (x7_1 : Int).toNat) ++ (a2.extract (x8_2 : Int).toNat a2.size))] (by rfl) rfl rfl z6_1 ?_
                with_reducible refine (HM_ k2 (Nat.le_of_succ_le (Nat.le_trans HK2.out (Nat.le_of_succ_le HK1.out))) _ _ l0 a1_2 ((a2.extract 0 (x7_1 : Int).toNat) ++ (a2.extract (x8_2 : Int).toNat a2.size)) true _ ?side1 ?side2 A17.out).mono ?_
                (case side1 => repeat (first | exact (Kd.C_below HR0.out HB.out) | (with_reducible refine Kd.C_alloc ?_ _) | (with_reducible refine Kd.C_drewN ?_ _) | (with_reducible refine Kd.C_drew ?_)))
                (case side2 => exact HC0.out)
                rintro e w21 ⟨rfl, hb⟩
                refine ⟨_, rfl, ?_⟩
                have n0_ := Aside0.mk (blk_below (g := gb447) (o := .cells #[.int .i64 a1_0, .string a1_1, .int .i64 a1_2, .int .i64 a1_3] 31 (0, 0)) (bd6_ BK447.out) hb)
                have n1_ := Aside0.mk (below_step z6_4 hb)
                clear BK447
                clear HB
                have BK447 := n0_
                have HB := n1_
                clear n0_ n1_
                (try clear hb)
                (try clear hb2)
                (try clear hk)
                (try clear hi)
                refine hK.out _ _ ⟨(blk_cell BK447.out 0).trans rfl, (blk_cell BK447.out 1).trans rfl, (blk_cell BK447.out 2).trans rfl, (blk_cell BK447.out 3).trans rfl⟩ (fun hHeld => ?_)
                clear hK K
                refine norm_ (a' := ?_) ?_ ?_
                rotate_left
                ·show Act.put _ (some 42) _ = _
                 simp only [Act.put, pt6_, i64_w, i32_w]
                 rfl
                refine pure_ (i := 20) (N := some 43) (v := ?_) (a' := ?_) #[true, true, true, true, true, true, true, true, true, true, true, true, true, true, true, true, true, true, true, true, true] rfl rfl (any_of HT_.out (by kernel_rfl)) (fun _ _ _ h => h) (Or.inl ⟨by rfl, ?_⟩) ?_ ?_
                rotate_left
                ·intro w'
                 go_simp
                 with_reducible rfl
                rotate_left
                ·simp only [Act.put, pt6_, i64_w, i32_w]
                 rfl
                refine done_ (done_of HT_.out (by kernel_rfl)) ?_
                try go_wp2
                go_ret
                exact ⟨z6_7, z6_4⟩
               ·replace c18 := Bool.eq_false_iff.mpr c18
                subst c18
                have H1 : (spec_l15In.l1 k2 l0 a2 x7_1 (wrap64 (x8_2 + 1)) a1_0 a1_1 a1_2 a1_3) = some r := by rw [if_neg (show ¬ (false = true) by decide)] at H; exact H
                clear H
                have H := H1
                clear H1
                have H' := Aside0.mk H
                clear H
                try go_wp2
                have n0_ := Aside0.mk (blk_drew BK447.out)
                have n1_ := Aside0.mk (below_drew1 HB.out)
                clear BK447
                clear HB
                have BK447 := n0_
                have HB := n1_
                clear n0_ n1_
                refine start_ (n := 21) (S := fun w' => w'.cell? ⟨gb447, 0, none⟩ = some (.int .i64 a1_0) ∧ w'.cell? ⟨gb447, 1, none⟩ = some (.string a1_1) ∧ w'.cell? ⟨gb447, 2, none⟩ = some (.int .i64 a1_2) ∧ w'.cell? ⟨gb447, 3, none⟩ = some (.int .i64 a1_3)) (ds := []) #[false, false, false, false, false, false, false, false, false, false, false, false, false, false, false, false, false, false, false, false, false] (by kernel_rfl) rfl rfl ⟨(blk_cell BK447.out 0).trans rfl, (blk_cell BK447.out 1).trans rfl, (blk_cell BK447.out 2).trans rfl, (blk_cell BK447.out 3).trans rfl⟩ (fun hHeld => ?_); refine with_tabW spec_l15In.tab7 spec_l15In.bits7 (fun HT_ HW_ => ?_)
                generalize wr.drew = w22 at BK447 HB hHeld ⊢
                refine pure_ (i := 0) (N := some 23) (v := ?_) (a' := ?_) #[true, false, false, false, false, false, false, false, false, false, false, false, false, false, false, false, false, false, false, false, false] rfl rfl (any_of HT_.out (by kernel_rfl)) (fun _ _ _ h => h) (Or.inl ⟨by rfl, ?_⟩) ?_ ?_
                rotate_left
                ·intro w'
                 go_simp
                 with_reducible rfl
                rotate_left
                ·simp only [Act.put, pt6_, i64_w, i32_w]
                 rfl
                refine pure_ (i := 1) (N := some 24) (v := ?_) (a' := ?_) #[true, true, false, false, false, false, false, false, false, false, false, false, false, false, false, false, false, false, false, false, false] rfl rfl (any_of HT_.out (by kernel_rfl)) (fun _ _ _ h => h) (Or.inl ⟨by rfl, ?_⟩) ?_ ?_
                rotate_left
                ·intro w'
                 go_simp
                 with_reducible rfl
                rotate_left
                ·simp only [Act.put, pt6_, i64_w, i32_w]
                 rfl
                refine pure_ (i := 3) (N := some 26) (v := ?_) (a' := ?_) #[true, true, false, true, false, false, false, false, false, false, false, false, false, false, false, false, false, false, false, false, false] rfl rfl (any_of HT_.out (by kernel_rfl)) (fun _ _ _ h => h) (Or.inl ⟨by rfl, ?_⟩) ?_ ?_
                rotate_left
                ·intro w'
                 go_simp
                 with_reducible rfl
                rotate_left
                ·simp only [Act.put, pt6_, i64_w, i32_w]
                 rfl
                refine pure_ (i := 4) (N := some 27) (v := ?_) (a' := ?_) #[true, true, false, true, true, false, false, false, false, false, false, false, false, false, false, false, false, false, false, false, false] rfl rfl (any_of HT_.out (by kernel_rfl)) (fun _ _ _ h => h) (Or.inl ⟨by rfl, ?_⟩) ?_ ?_
                rotate_left
                ·intro w'
                 go_simp
                 with_reducible rfl
                rotate_left
                ·simp only [Act.put, pt6_, i64_w, i32_w]
                 rfl
                refine pure_ (i := 5) (N := some 28) (v := ?_) (a' := ?_) #[true, true, false, true, true, true, false, false, false, false, false, false, false, false, false, false, false, false, false, false, false] rfl rfl (any_of HT_.out (by kernel_rfl)) (fun _ _ _ h => h) (Or.inl ⟨by rfl, ?_⟩) ?_ ?_
                rotate_left
                ·intro w'
                 go_simp
                 with_reducible rfl
                rotate_left
                ·simp only [Act.put, pt6_, i64_w, i32_w]
                 rfl
                refine pure_ (i := 6) (N := some 29) (v := ?_) (a' := ?_) #[true, true, false, true, true, true, true, false, false, false, false, false, false, false, false, false, false, false, false, false, false] rfl rfl (any_of HT_.out (by kernel_rfl)) (fun _ _ _ h => h) (Or.inl ⟨by rfl, ?_⟩) ?_ ?_
                rotate_left
                ·intro w'
                 go_simp
                 with_reducible rfl
                rotate_left
                ·simp only [Act.put, pt6_, i64_w, i32_w]
                 rfl
                refine take_ (i := 2) (N := some 25) (v := ?_) (a' := ?_) #[true, true, true, true, true, true, true, false, false, false, false, false, false, false, false, false, false, false, false, false, false] rfl rfl (take_ofW HT_.out HW_.out (by kernel_rfl)) (fun _ _ _ h => h) (Or.inl ⟨by rfl, ?_⟩) hHeld ?_ ?_
                rotate_left
                ·rintro w' ⟨s0, s1, s2, s3⟩
                 go_simp
                 with_reducible rfl
                rotate_left
                ·simp only [Act.put, pt6_, i64_w, i32_w]
                 rfl
                refine one_ (i := 7) (N := some 30) #[true, true, true, true, true, true, true, true, false, false, false, false, false, false, false, false, false, false, false, false, false] rfl rfl (one_of HT_.out (by kernel_rfl)) (by decide) (fun K hK => ?_)
                refine goes_ Try.func104 (by kernel_rfl) rfl #[.slice A0 l0.length c0, .int .i64 a1_3, .string (a2.extract (x7_1 : Int).toNat (x8_2 : Int).toNat)] (by rfl) rfl rfl z6_1 ?_
                with_reducible refine (HM_ k2 (Nat.le_of_succ_le (Nat.le_trans HK2.out (Nat.le_of_succ_le HK1.out))) _ _ l0 a1_3 (a2.extract (x7_1 : Int).toNat (x8_2 : Int).toNat) true _ ?side1 ?side2 A10.out).mono ?_
                (case side1 => repeat (first | exact (Kd.C_below HR0.out HB.out) | (with_reducible refine Kd.C_alloc ?_ _) | (with_reducible refine Kd.C_drewN ?_ _) | (with_reducible refine Kd.C_drew ?_)))
                (case side2 => exact HC0.out)
                rintro e w23 ⟨rfl, hb⟩
                refine ⟨_, rfl, ?_⟩
                have n0_ := Aside0.mk (blk_below (g := gb447) (o := .cells #[.int .i64 a1_0, .string a1_1, .int .i64 a1_2, .int .i64 a1_3] 31 (0, 0)) (bd6_ BK447.out) hb)
                have n1_ := Aside0.mk (below_step z6_4 hb)
                clear BK447
                clear HB
                have BK447 := n0_
                have HB := n1_
                clear n0_ n1_
                (try clear hb)
                (try clear hb2)
                (try clear hk)
                (try clear hi)
                refine hK.out _ _ ⟨(blk_cell BK447.out 0).trans rfl, (blk_cell BK447.out 1).trans rfl, (blk_cell BK447.out 2).trans rfl, (blk_cell BK447.out 3).trans rfl⟩ (fun hHeld => ?_)
                clear hK K
                refine norm_ (a' := ?_) ?_ ?_
                rotate_left
                ·show Act.put _ (some 30) _ = _
                 simp only [Act.put, pt6_, i64_w, i32_w]
                 rfl
                refine pure_ (i := 8) (N := some 31) (v := ?_) (a' := ?_) #[true, true, true, true, true, true, true, true, true, false, false, false, false, false, false, false, false, false, false, false, false] rfl rfl (any_of HT_.out (by kernel_rfl)) (fun _ _ _ h => h) (Or.inl ⟨by rfl, ?_⟩) ?_ ?_
                rotate_left
                ·intro w'
                 go_simp
                 with_reducible rfl
                rotate_left
                ·simp only [Act.put, pt6_, i64_w, i32_w]
                 rfl
                refine pure_ (i := 9) (N := some 32) (v := ?_) (a' := ?_) #[true, true, true, true, true, true, true, true, true, true, false, false, false, false, false, false, false, false, false, false, false] rfl rfl (any_of HT_.out (by kernel_rfl)) (fun _ _ _ h => h) (Or.inl ⟨by rfl, ?_⟩) ?_ ?_
                rotate_left
                ·intro w'
                 go_simp
                 with_reducible rfl
                rotate_left
                ·simp only [Act.put, pt6_, i64_w, i32_w]
                 rfl
                refine pure_ (i := 10) (N := some 33) (v := ?_) (a' := ?_) #[true, true, true, true, true, true, true, true, true, true, true, false, false, false, false, false, false, false, false, false, false] rfl rfl (any_of HT_.out (by kernel_rfl)) (fun _ _ _ h => h) (Or.inl ⟨by rfl, ?_⟩) ?_ ?_
                rotate_left
                ·intro w'
                 go_simp
                 with_reducible rfl
                rotate_left
                ·simp only [Act.put, pt6_, i64_w, i32_w]
                 rfl
                refine pure_ (i := 12) (N := some 35) (v := ?_) (a' := ?_) #[true, true, true, true, true, true, true, true, true, true, true, false, true, false, false, false, false, false, false, false, false] rfl rfl (any_of HT_.out (by kernel_rfl)) (fun _ _ _ h => h) (Or.inl ⟨by rfl, ?_⟩) ?_ ?_
                rotate_left
                ·intro w'
                 go_simp
                 with_reducible rfl
                rotate_left
                ·simp only [Act.put, pt6_, i64_w, i32_w]
                 rfl
                refine pure_ (i := 13) (N := some 36) (v := ?_) (a' := ?_) #[true, true, true, true, true, true, true, true, true, true, true, false, true, true, false, false, false, false, false, false, false] rfl rfl (any_of HT_.out (by kernel_rfl)) (fun _ _ _ h => h) (Or.inl ⟨by rfl, ?_⟩) ?_ ?_
                rotate_left
                ·intro w'
                 go_simp
                 with_reducible rfl
                rotate_left
                ·simp only [Act.put, pt6_, i64_w, i32_w]
                 rfl
                refine pure_ (i := 14) (N := some 37) (v := ?_) (a' := ?_) #[true, true, true, true, true, true, true, true, true, true, true, false, true, true, true, false, false, false, false, false, false] rfl rfl (any_of HT_.out (by kernel_rfl)) (fun _ _ _ h => h) (Or.inl ⟨by rfl, ?_⟩) ?_ ?_
                rotate_left
                ·intro w'
                 go_simp
                 with_reducible rfl
                rotate_left
                ·simp only [Act.put, pt6_, i64_w, i32_w]
                 rfl
                refine pure_ (i := 15) (N := some 38) (v := ?_) (a' := ?_) #[true, true, true, true, true, true, true, true, true, true, true, false, true, true, true, true, false, false, false, false, false] rfl rfl (any_of HT_.out (by kernel_rfl)) (fun _ _ _ h => h) (Or.inl ⟨by rfl, ?_⟩) ?_ ?_
                rotate_left
                ·intro w'
                 go_simp
                 with_reducible rfl
                rotate_left
                ·simp only [Act.put, pt6_, i64_w, i32_w]
                 rfl
                refine pure_ (i := 16) (N := some 39) (v := ?_) (a' := ?_) #[true, true, true, true, true, true, true, true, true, true, true, false, true, true, true, true, true, false, false, false, false] rfl rfl (any_of HT_.out (by kernel_rfl)) (fun _ _ _ h => h) (Or.inl ⟨by rfl, ?_⟩) ?_ ?_
                rotate_left
                ·intro w'
                 go_simp
                 with_reducible rfl
                rotate_left
                ·simp only [Act.put, pt6_, i64_w, i32_w]
                 rfl
                refine pure_ (i := 17) (N := some 40) (v := ?_) (a' := ?_) #[true, true, true, true, true, true, true, true, true, true, true, false, true, true, true, true, true, true, false, false, false] rfl rfl (any_of HT_.out (by kernel_rfl)) (fun _ _ _ h => h) (Or.inl ⟨by rfl, ?_⟩) ?_ ?_
                rotate_left
                ·intro w'
                 go_simp
                 with_reducible rfl
                rotate_left
                ·simp only [Act.put, pt6_, i64_w, i32_w]
                 rfl
                refine pure_ (i := 18) (N := some 41) (v := ?_) (a' := ?_) #[true, true, true, true, true, true, true, true, true, true, true, false, true, true, true, true, true, true, true, false, false] rfl rfl (any_of HT_.out (by kernel_rfl)) (fun _ _ _ h => h) (Or.inl ⟨by rfl, ?_⟩) ?_ ?_
                rotate_left
                ·intro w'
                 go_simp
                 with_reducible rfl
                rotate_left
                ·simp only [Act.put, pt6_, i64_w, i32_w]
                 rfl
                refine take_ (i := 11) (N := some 34) (v := ?_) (a' := ?_) #[true, true, true, true, true, true, true, true, true, true, true, true, true, true, true, true, true, true, true, false, false] rfl rfl (take_ofW HT_.out HW_.out (by kernel_rfl)) (fun _ _ _ h => h) (Or.inl ⟨by rfl, ?_⟩) hHeld ?_ ?_
                rotate_left
                ·rintro w' ⟨s0, s1, s2, s3⟩
                 go_simp
                 with_reducible rfl
                rotate_left
                ·simp only [Act.put, pt6_, i64_w, i32_w]
                 rfl
                refine one_ (i := 19) (N := some 42) #[true, true, true, true, true, true, true, true, true, true, true, true, true, true, true, true, true, true, true, true, false] rfl rfl (one_of HT_.out (by kernel_rfl)) (by decide) (fun K hK => ?_)
                refine goes_ Try.func104 (by kernel_rfl) rfl #[.slice A0 l0.length c0, .int .i64 a1_2, .string ((a2.extract 0 (x7_1 : Int).toNat) ++ (a2.extract (x8_2 : Int).toNat a2.size))] (by rfl) rfl rfl z6_1 ?_
                with_reducible refine (HM_ k2 (Nat.le_of_succ_le (Nat.le_trans HK2.out (Nat.le_of_succ_le HK1.out))) _ _ l0 a1_2 ((a2.extract 0 (x7_1 : Int).toNat) ++ (a2.extract (x8_2 : Int).toNat a2.size)) false _ ?side1 ?side2 A17.out).mono ?_
                (case side1 => repeat (first | exact (Kd.C_below HR0.out HB.out) | (with_reducible refine Kd.C_alloc ?_ _) | (with_reducible refine Kd.C_drewN ?_ _) | (with_reducible refine Kd.C_drew ?_)))
                (case side2 => exact HC0.out)
                rintro e w24 ⟨rfl, hb⟩
                refine ⟨_, rfl, ?_⟩
                have n0_ := Aside0.mk (blk_below (g := gb447) (o := .cells #[.int .i64 a1_0, .string a1_1, .int .i64 a1_2, .int .i64 a1_3] 31 (0, 0)) (bd6_ BK447.out) hb)
                have n1_ := Aside0.mk (below_step z6_4 hb)
                clear BK447
                clear HB
                have BK447 := n0_
                have HB := n1_
                clear n0_ n1_
                (try clear hb)
                (try clear hb2)
                (try clear hk)
                (try clear hi)
                refine hK.out _ _ ⟨(blk_cell BK447.out 0).trans rfl, (blk_cell BK447.out 1).trans rfl, (blk_cell BK447.out 2).trans rfl, (blk_cell BK447.out 3).trans rfl⟩ (fun hHeld => ?_)
                clear hK K
                refine norm_ (a' := ?_) ?_ ?_
                rotate_left
                ·show Act.put _ (some 42) _ = _
                 simp only [Act.put, pt6_, i64_w, i32_w]
                 rfl
                refine pure_ (i := 20) (N := some 43) (v := ?_) (a' := ?_) #[true, true, true, true, true, true, true, true, true, true, true, true, true, true, true, true, true, true, true, true, true] rfl rfl (any_of HT_.out (by kernel_rfl)) (fun _ _ _ h => h) (Or.inl ⟨by rfl, ?_⟩) ?_ ?_
                rotate_left
                ·intro w'
                 go_simp
                 with_reducible rfl
                rotate_left
                ·simp only [Act.put, pt6_, i64_w, i32_w]
                 rfl
                refine done_ (done_of HT_.out (by kernel_rfl)) ?_
                try go_wp2
                go_roundg k2
                case measure => have := HK1.out; have := HK2.out; omega
                case rel => exact ⟨(wrap64 (x8_2 + 1)), (by first | rfl | (simp; done) | (simp [*]; done)), H', ⟨by have := HK1.out; have := HK2.out; omega⟩, ⟨z6_8⟩, ⟨z6_4⟩⟩
              ·rw [if_neg c16] at H
               exact absurd H (by simp)
             ·rw [if_neg c14] at H
              exact absurd H (by simp)
            ·rw [if_neg c13] at H
             exact absurd H (by simp)
           ·replace c11 := Bool.eq_false_iff.mpr c11
            subst c11
            have H1 : (spec_l15In.l1 k2 l0 a2 x7_1 (wrap64 (x8_2 + 1)) a1_0 a1_1 a1_2 a1_3) = some r := by rw [if_neg (show ¬ (false = true) by decide)] at H; exact H
            clear H
            have H := H1
            clear H1
            have H' := Aside0.mk H
            clear H
            try go_wp2
            have n0_ := Aside0.mk (blk_drew BK447.out)
            have n1_ := Aside0.mk (below_drew1 HB.out)
            clear BK447
            clear HB
            have BK447 := n0_
            have HB := n1_
            clear n0_ n1_
            refine start_ (n := 21) (S := fun w' => w'.cell? ⟨gb447, 0, none⟩ = some (.int .i64 a1_0) ∧ w'.cell? ⟨gb447, 1, none⟩ = some (.string a1_1) ∧ w'.cell? ⟨gb447, 2, none⟩ = some (.int .i64 a1_2) ∧ w'.cell? ⟨gb447, 3, none⟩ = some (.int .i64 a1_3)) (ds := []) #[false, false, false, false, false, false, false, false, false, false, false, false, false, false, false, false, false, false, false, false, false] (by kernel_rfl) rfl rfl ⟨(blk_cell BK447.out 0).trans rfl, (blk_cell BK447.out 1).trans rfl, (blk_cell BK447.out 2).trans rfl, (blk_cell BK447.out 3).trans rfl⟩ (fun hHeld => ?_); refine with_tabW spec_l15In.tab7 spec_l15In.bits7 (fun HT_ HW_ => ?_)
            generalize wr.drew = w25 at BK447 HB hHeld ⊢
            refine pure_ (i := 0) (N := some 23) (v := ?_) (a' := ?_) #[true, false, false, false, false, false, false, false, false, false, false, false, false, false, false, false, false, false, false, false, false] rfl rfl (any_of HT_.out (by kernel_rfl)) (fun _ _ _ h => h) (Or.inl ⟨by rfl, ?_⟩) ?_ ?_
            rotate_left
            ·intro w'
             go_simp
             with_reducible rfl
            rotate_left
            ·simp only [Act.put, pt6_, i64_w, i32_w]
             rfl
            refine pure_ (i := 1) (N := some 24) (v := ?_) (a' := ?_) #[true, true, false, false, false, false, false, false, false, false, false, false, false, false, false, false, false, false, false, false, false] rfl rfl (any_of HT_.out (by kernel_rfl)) (fun _ _ _ h => h) (Or.inl ⟨by rfl, ?_⟩) ?_ ?_
            rotate_left
            ·intro w'
             go_simp
             with_reducible rfl
            rotate_left
            ·simp only [Act.put, pt6_, i64_w, i32_w]
             rfl
            refine pure_ (i := 3) (N := some 26) (v := ?_) (a' := ?_) #[true, true, false, true, false, false, false, false, false, false, false, false, false, false, false, false, false, false, false, false, false] rfl rfl (any_of HT_.out (by kernel_rfl)) (fun _ _ _ h => h) (Or.inl ⟨by rfl, ?_⟩) ?_ ?_
            rotate_left
            ·intro w'
             go_simp
             with_reducible rfl
            rotate_left
            ·simp only [Act.put, pt6_, i64_w, i32_w]
             rfl
            refine pure_ (i := 4) (N := some 27) (v := ?_) (a' := ?_) #[true, true, false, true, true, false, false, false, false, false, false, false, false, false, false, false, false, false, false, false, false] rfl rfl (any_of HT_.out (by kernel_rfl)) (fun _ _ _ h => h) (Or.inl ⟨by rfl, ?_⟩) ?_ ?_
            rotate_left
            ·intro w'
             go_simp
             with_reducible rfl
            rotate_left
            ·simp only [Act.put, pt6_, i64_w, i32_w]
             rfl
            refine pure_ (i := 5) (N := some 28) (v := ?_) (a' := ?_) #[true, true, false, true, true, true, false, false, false, false, false, false, false, false, false, false, false, false, false, false, false] rfl rfl (any_of HT_.out (by kernel_rfl)) (fun _ _ _ h => h) (Or.inl ⟨by rfl, ?_⟩) ?_ ?_
            rotate_left
            ·intro w'
             go_simp
             with_reducible rfl
            rotate_left
            ·simp only [Act.put, pt6_, i64_w, i32_w]
             rfl
            refine pure_ (i := 6) (N := some 29) (v := ?_) (a' := ?_) #[true, true, false, true, true, true, true, false, false, false, false, false, false, false, false, false, false, false, false, false, false] rfl rfl (any_of HT_.out (by kernel_rfl)) (fun _ _ _ h => h) (Or.inl ⟨by rfl, ?_⟩) ?_ ?_
            rotate_left
            ·intro w'
             go_simp
             with_reducible rfl
            rotate_left
            ·simp only [Act.put, pt6_, i64_w, i32_w]
             rfl
            refine take_ (i := 2) (N := some 25) (v := ?_) (a' := ?_) #[true, true, true, true, true, true, true, false, false, false, false, false, false, false, false, false, false, false, false, false, false] rfl rfl (take_ofW HT_.out HW_.out (by kernel_rfl)) (fun _ _ _ h => h) (Or.inl ⟨by rfl, ?_⟩) hHeld ?_ ?_
            rotate_left
            ·rintro w' ⟨s0, s1, s2, s3⟩
             go_simp
             with_reducible rfl
            rotate_left
            ·simp only [Act.put, pt6_, i64_w, i32_w]
             rfl
            refine one_ (i := 7) (N := some 30) #[true, true, true, true, true, true, true, true, false, false, false, false, false, false, false, false, false, false, false, false, false] rfl rfl (one_of HT_.out (by kernel_rfl)) (by decide) (fun K hK => ?_)
            refine goes_ Try.func104 (by kernel_rfl) rfl #[.slice A0 l0.length c0, .int .i64 a1_3, .string (a2.extract (x7_1 : Int).toNat (x8_2 : Int).toNat)] (by rfl) rfl rfl z6_1 ?_
            with_reducible refine (HM_ k2 (Nat.le_of_succ_le (Nat.le_trans HK2.out (Nat.le_of_succ_le HK1.out))) _ _ l0 a1_3 (a2.extract (x7_1 : Int).toNat (x8_2 : Int).toNat) false _ ?side1 ?side2 A10.out).mono ?_
            (case side1 => repeat (first | exact (Kd.C_below HR0.out HB.out) | (with_reducible refine Kd.C_alloc ?_ _) | (with_reducible refine Kd.C_drewN ?_ _) | (with_reducible refine Kd.C_drew ?_)))
            (case side2 => exact HC0.out)
            rintro e w26 ⟨rfl, hb⟩
            refine ⟨_, rfl, ?_⟩
            have n0_ := Aside0.mk (blk_below (g := gb447) (o := .cells #[.int .i64 a1_0, .string a1_1, .int .i64 a1_2, .int .i64 a1_3] 31 (0, 0)) (bd6_ BK447.out) hb)
            have n1_ := Aside0.mk (below_step z6_4 hb)
            clear BK447
            clear HB
            have BK447 := n0_
            have HB := n1_
            clear n0_ n1_
            (try clear hb)
            (try clear hb2)
            (try clear hk)
            (try clear hi)
            refine hK.out _ _ ⟨(blk_cell BK447.out 0).trans rfl, (blk_cell BK447.out 1).trans rfl, (blk_cell BK447.out 2).trans rfl, (blk_cell BK447.out 3).trans rfl⟩ (fun hHeld => ?_)
            clear hK K
            refine norm_ (a' := ?_) ?_ ?_
            rotate_left
            ·show Act.put _ (some 30) _ = _
             simp only [Act.put, pt6_, i64_w, i32_w]
             rfl
            refine pure_ (i := 8) (N := some 31) (v := ?_) (a' := ?_) #[true, true, true, true, true, true, true, true, true, false, false, false, false, false, false, false, false, false, false, false, false] rfl rfl (any_of HT_.out (by kernel_rfl)) (fun _ _ _ h => h) (Or.inl ⟨by rfl, ?_⟩) ?_ ?_
            rotate_left
            ·intro w'
             go_simp
             with_reducible rfl
            rotate_left
            ·simp only [Act.put, pt6_, i64_w, i32_w]
             rfl
            refine pure_ (i := 9) (N := some 32) (v := undef) (a' := ?_) #[true, true, true, true, true, true, true, true, true, true, false, false, false, false, false, false, false, false, false, false, false] rfl rfl (any_of HT_.out (by kernel_rfl)) (fun _ _ _ h => h) (Or.inr ⟨by rfl, rfl⟩) ?_ ?_
            rotate_left
            ·simp only [Act.put, pt6_, i64_w, i32_w]
             rfl
            refine pure_ (i := 10) (N := some 33) (v := undef) (a' := ?_) #[true, true, true, true, true, true, true, true, true, true, true, false, false, false, false, false, false, false, false, false, false] rfl rfl (any_of HT_.out (by kernel_rfl)) (fun _ _ _ h => h) (Or.inr ⟨by rfl, rfl⟩) ?_ ?_
            rotate_left
            ·simp only [Act.put, pt6_, i64_w, i32_w]
             rfl
            refine pure_ (i := 11) (N := some 34) (v := undef) (a' := ?_) #[true, true, true, true, true, true, true, true, true, true, true, true, false, false, false, false, false, false, false, false, false] rfl rfl (any_of HT_.out (by kernel_rfl)) (fun _ _ _ h => h) (Or.inr ⟨by rfl, rfl⟩) ?_ ?_
            rotate_left
            ·simp only [Act.put, pt6_, i64_w, i32_w]
             rfl
            refine pure_ (i := 12) (N := some 35) (v := undef) (a' := ?_) #[true, true, true, true, true, true, true, true, true, true, true, true, true, false, false, false, false, false, false, false, false] rfl rfl (any_of HT_.out (by kernel_rfl)) (fun _ _ _ h => h) (Or.inr ⟨by rfl, rfl⟩) ?_ ?_
            rotate_left
            ·simp only [Act.put, pt6_, i64_w, i32_w]
             rfl
            refine pure_ (i := 13) (N := some 36) (v := undef) (a' := ?_) #[true, true, true, true, true, true, true, true, true, true, true, true, true, true, false, false, false, false, false, false, false] rfl rfl (any_of HT_.out (by kernel_rfl)) (fun _ _ _ h => h) (Or.inr ⟨by rfl, rfl⟩) ?_ ?_
            rotate_left
            ·simp only [Act.put, pt6_, i64_w, i32_w]
             rfl
            refine pure_ (i := 14) (N := some 37) (v := undef) (a' := ?_) #[true, true, true, true, true, true, true, true, true, true, true, true, true, true, true, false, false, false, false, false, false] rfl rfl (any_of HT_.out (by kernel_rfl)) (fun _ _ _ h => h) (Or.inr ⟨by rfl, rfl⟩) ?_ ?_
            rotate_left
            ·simp only [Act.put, pt6_, i64_w, i32_w]
             rfl
            refine pure_ (i := 15) (N := some 38) (v := undef) (a' := ?_) #[true, true, true, true, true, true, true, true, true, true, true, true, true, true, true, true, false, false, false, false, false] rfl rfl (any_of HT_.out (by kernel_rfl)) (fun _ _ _ h => h) (Or.inr ⟨by rfl, rfl⟩) ?_ ?_
            rotate_left
            ·simp only [Act.put, pt6_, i64_w, i32_w]
             rfl
            refine pure_ (i := 16) (N := some 39) (v := undef) (a' := ?_) #[true, true, true, true, true, true, true, true, true, true, true, true, true, true, true, true, true, false, false, false, false] rfl rfl (any_of HT_.out (by kernel_rfl)) (fun _ _ _ h => h) (Or.inr ⟨by rfl, rfl⟩) ?_ ?_
            rotate_left
            ·simp only [Act.put, pt6_, i64_w, i32_w]
             rfl
            refine pure_ (i := 17) (N := some 40) (v := undef) (a' := ?_) #[true, true, true, true, true, true, true, true, true, true, true, true, true, true, true, true, true, true, false, false, false] rfl rfl (any_of HT_.out (by kernel_rfl)) (fun _ _ _ h => h) (Or.inr ⟨by rfl, rfl⟩) ?_ ?_
            rotate_left
            ·simp only [Act.put, pt6_, i64_w, i32_w]
             rfl
            refine pure_ (i := 18) (N := some 41) (v := undef) (a' := ?_) #[true, true, true, true, true, true, true, true, true, true, true, true, true, true, true, true, true, true, true, false, false] rfl rfl (any_of HT_.out (by kernel_rfl)) (fun _ _ _ h => h) (Or.inr ⟨by rfl, rfl⟩) ?_ ?_
            rotate_left
            ·simp only [Act.put, pt6_, i64_w, i32_w]
             rfl
            refine pure_ (i := 19) (N := some 42) (v := undef) (a' := ?_) #[true, true, true, true, true, true, true, true, true, true, true, true, true, true, true, true, true, true, true, true, false] rfl rfl (any_of HT_.out (by kernel_rfl)) (fun _ _ _ h => h) (Or.inr ⟨by rfl, rfl⟩) ?_ ?_
            rotate_left
            ·simp only [Act.put, pt6_, i64_w, i32_w]
             rfl
            refine pure_ (i := 20) (N := some 43) (v := ?_) (a' := ?_) #[true, true, true, true, true, true, true, true, true, true, true, true, true, true, true, true, true, true, true, true, true] rfl rfl (any_of HT_.out (by kernel_rfl)) (fun _ _ _ h => h) (Or.inl ⟨by rfl, ?_⟩) ?_ ?_
            rotate_left
            ·intro w'
             go_simp
             with_reducible rfl
            rotate_left
            ·simp only [Act.put, pt6_, i64_w, i32_w]
             rfl
            refine done_ (done_of HT_.out (by kernel_rfl)) ?_
            try go_wp2
            go_roundg k2
            case measure => have := HK1.out; have := HK2.out; omega
            case rel => exact ⟨(wrap64 (x8_2 + 1)), (by first | rfl | (simp; done) | (simp [*]; done)), H', ⟨by have := HK1.out; have := HK2.out; omega⟩, ⟨z6_8⟩, ⟨z6_4⟩⟩
          ·rw [if_neg c9] at H
           exact absurd H (by simp)
         ·rw [if_neg c8] at H
          exact absurd H (by simp)
        ·rw [if_neg c7] at H
         exact absurd H (by simp)
       ·rw [if_neg c6] at H
        have c6b0 : decide (x8_2 < (a2.size : Int)) = false := decide_eq_false c6
        clear c6
        have H' := Aside0.mk H
        clear H
        go_wp2
        go_roundg k2
        case measure => have := HK1.out; have := HK2.out; omega
        case rel => exact ⟨(wrap64 (x7_1 + 1)), (by first | rfl | (simp; done) | (simp [*]; done)), H', ⟨by have := HK1.out; have := HK2.out; omega⟩, ⟨z6_8⟩, ⟨z6_4⟩⟩
    ·rw [if_neg c5] at H
     have c5b0 : decide (x7_1 < (a2.size : Int)) = false := decide_eq_false c5
     clear c5
     obtain rfl := Option.some.inj H
     go_wp2
     go_ret
     exact ⟨z6_7, z6_4⟩

set_option maxHeartbeats 8000000 in
set_option maxRecDepth 100000 in
theorem spec_l15Makes.calls (k : Nat) : ∀ (A0 : Option Addr) (c0 : Nat) (l0 : List (S31)) (a1 : Int) (a2 : ByteArray) (r : Bool) (w : World) (hr0 : Kd.C k31 w A0 l0.length l0) (hc0 : l0.length ≤ c0) (h : spec_l15Makes.f k l0 a1 a2 = some r),
   Calls Try.prog 104 #[.slice A0 l0.length c0, .int .i64 a1, .string a2] w fun e w' => e = .returned (.bool r) ∧ Below w.heap.size w w' := by
  induction k using Nat.strongRecOn with
  | _ k ih =>
  intro A0 c0 l0 a1 a2 r w hr0 hc0 h
  cases k with
  | zero => exact absurd h (by simp [spec_l15Makes.f])
  | succ k =>
  simp only [spec_l15Makes.f] at h
  have hu31 := Try.underlying31
  have HR0 := Aside0.mk hr0
  have HC0 := Aside0.mk hc0
  clear hr0 hc0
  have HB := Aside0.mk (Below.refl w.heap.size w)
  have H : (if 0 ≤ a1 then (if a1 < (l0.length : Int) then (if ((rd_T31 l0 a1).f0) = 1 then (some (((rd_T31 l0 a1).f1).toList == a2.toList)) else (if ((rd_T31 l0 a1).f0) = 2 then ((spec_Backwards.f k a2).bind fun t243 => ((spec_l15Makes.f k l0 ((rd_T31 l0 a1).f2) t243).bind fun t244 => (some t244))) else (if ((rd_T31 l0 a1).f0) = 3 then (if 0 ≤ ((rd_T31 l0 a1).f2) then (if ((rd_T31 l0 a1).f2) < (l0.length : Int) then ((spec_IsRearranged.f k ((rd_T31 l0 ((rd_T31 l0 a1).f2)).f1) a2).bind fun t246 => (some t246)) else (none)) else (none)) else (if ((rd_T31 l0 a1).f0) = 4 then ((spec_l15Join.f k l0 ((rd_T31 l0 a1).f0) ((rd_T31 l0 a1).f1) ((rd_T31 l0 a1).f2) ((rd_T31 l0 a1).f3) a2).bind fun t247 => (some t247)) else (if ((rd_T31 l0 a1).f0) = 5 then ((spec_l15In.f k l0 ((rd_T31 l0 a1).f0) ((rd_T31 l0 a1).f1) ((rd_T31 l0 a1).f2) ((rd_T31 l0 a1).f3) a2).bind fun t248 => (some t248)) else (if ((rd_T31 l0 a1).f0) = 6 then (if 0 ≤ ((rd_T31 l0 a1).f2) then (if ((rd_T31 l0 a1).f2) < (l0.length : Int) then ((spec_HeadOf.f k ((rd_T31 l0 ((rd_T31 l0 a1).f2)).f1)).bind fun t250 => (some (t250.toList == a2.toList))) else (none)) else (none)) else (if ((rd_T31 l0 a1).f0) = 7 then (if 0 ≤ ((rd_T31 l0 a1).f2) then (if ((rd_T31 l0 a1).f2) < (l0.length : Int) then ((spec_WithoutHead.f k ((rd_T31 l0 ((rd_T31 l0 a1).f2)).f1)).bind fun t252 => (some (t252.toList == a2.toList))) else (none)) else (none)) else (if ((rd_T31 l0 a1).f0) = 8 then (if 0 ≤ ((rd_T31 l0 a1).f2) then (if ((rd_T31 l0 a1).f2) < (l0.length : Int) then ((spec_WithoutTail.f k ((rd_T31 l0 ((rd_T31 l0 a1).f2)).f1)).bind fun t254 => (some (t254.toList == a2.toList))) else (none)) else (none)) else (if 0 ≤ ((rd_T31 l0 a1).f2) then (if ((rd_T31 l0 a1).f2) < (l0.length : Int) then ((spec_IsInside.f k a2 ((rd_T31 l0 ((rd_T31 l0 a1).f2)).f1)).bind fun t256 => (some t256)) else (none)) else (none)))))))))) else (none)) else (none)) = some r := h
  clear h
  by_cases c4 : 0 ≤ a1
  ·rw [if_pos c4] at H
   have c4b0 : decide (0 ≤ a1) = true := decide_eq_true c4
   clear c4
   by_cases c5 : a1 < (l0.length : Int)
   ·rw [if_pos c5] at H
    have c5b0 : decide (a1 < (l0.length : Int)) = true := decide_eq_true c5
    clear c5
    by_cases c6 : ((rd_T31 l0 a1).f0) = 1
    ·rw [if_pos c6] at H
     have c6b0 : (((rd_T31 l0 a1).f0) == 1) = true := beq_iff_eq.mpr c6
     have c6b1 : (((rd_T31 l0 a1).f0) != 1) = false := bne_eq_false_iff_eq.mpr c6
     clear c6
     obtain rfl := Option.some.inj H
     have p241 : 0 ≤ (a1 : Int) := of_decide_eq_true z6_5
     have q241 : a1 < (l0.length : Int) := of_decide_eq_true z6_5
     obtain ⟨ad241, e241, hx241_0, hx241_1, hx241_2, hx241_3⟩ := at_T31 HR0.out a1 p241 q241
     cases e241
     replace p241 := eq_true p241
     replace q241 := eq_true q241
     go_enter Try.func104, Try.ntmps104
     go_wp2_with (first | ((with_reducible refine gate_dst (N := 7) rfl ?_); refine box_event ?hg (N := 7) ?hd (cs := #[.int .i64 0, .string (⟨#[]⟩ : ByteArray), .int .i64 0, .int .i64 0]) (t := 31) ?hr ?_; (case hd => rfl); (case hg => rfl); (case hr => first | (go_simp; done) | (go_simp; rfl)); intro gb242 hg w7 hbox hb; have n0_ := Aside0.mk (below_step z6_0 hb); have n1_ := Aside0.mk (hbox); have n2_ := Aside0.mk ((by rw [hg]; exact (below_size z6_0) : w.heap.size ≤ gb242)); have n3_ := Aside0.mk ((by rw [hg]; exact (below_size z6_0) : w.heap.size ≤ gb242)); clear HB; have HB := n0_; have BK242 := n1_; have GW242 := n2_; have GE242 := n3_; clear n0_ n1_ n2_ n3_; clear hb hbox hg; have hcz8_0 : w7.cell? ⟨gb242, 0, none⟩ = some (.int .i64 0) := (blk_cell BK242.out 0).trans rfl; have hcz8_1 : w7.cell? ⟨gb242, 1, none⟩ = some (.string (⟨#[]⟩ : ByteArray)) := (blk_cell BK242.out 1).trans rfl; have hcz8_2 : w7.cell? ⟨gb242, 2, none⟩ = some (.int .i64 0) := (blk_cell BK242.out 2).trans rfl; have hcz8_3 : w7.cell? ⟨gb242, 3, none⟩ = some (.int .i64 0) := (blk_cell BK242.out 3).trans rfl; have hfz8_0 := blk_frozen BK242.out 0; have hfz8_1 := blk_frozen BK242.out 1; have hfz8_2 := blk_frozen BK242.out 2; have hfz8_3 := blk_frozen BK242.out 3))
     go_ret
     exact ⟨z6_7, z6_2⟩
    ·rw [if_neg c6] at H
     have c6b0 : (((rd_T31 l0 a1).f0) == 1) = false := beq_eq_false_iff_ne.mpr c6
     have c6b1 : (((rd_T31 l0 a1).f0) != 1) = true := bne_iff_ne.mpr c6
     by_cases c9 : ((rd_T31 l0 a1).f0) = 2
     ·rw [if_pos c9] at H
      have c9b0 : (((rd_T31 l0 a1).f0) == 2) = true := beq_iff_eq.mpr c9
      have c9b1 : (((rd_T31 l0 a1).f0) != 2) = false := bne_eq_false_iff_eq.mpr c9
      clear c9
      replace H := Option.bind_eq_some_iff.mp H
      obtain ⟨t243, A100, H⟩ := H
      replace H : ((spec_l15Makes.f k l0 ((rd_T31 l0 a1).f2) t243).bind fun t244 => (some t244)) = some r := H
      have A10 := Aside0.mk A100
      clear A100
      replace H := Option.bind_eq_some_iff.mp H
      obtain ⟨t244, A110, H⟩ := H
      replace H : (some t244) = some r := H
      have A11 := Aside0.mk A110
      clear A110
      obtain rfl := Option.some.inj H
      have p241 : 0 ≤ (a1 : Int) := of_decide_eq_true z6_5
      have q241 : a1 < (l0.length : Int) := of_decide_eq_true z6_5
      obtain ⟨ad241, e241, hx241_0, hx241_1, hx241_2, hx241_3⟩ := at_T31 HR0.out a1 p241 q241
      cases e241
      replace p241 := eq_true p241
      replace q241 := eq_true q241
      go_enter Try.func104, Try.ntmps104
      try go_wp2_with (first | ((with_reducible refine gate_dst (N := 7) rfl ?_); refine box_event ?hg (N := 7) ?hd (cs := #[.int .i64 0, .string (⟨#[]⟩ : ByteArray), .int .i64 0, .int .i64 0]) (t := 31) ?hr ?_; (case hd => rfl); (case hg => rfl); (case hr => first | (go_simp; done) | (go_simp; rfl)); intro gb242 hg w12 hbox hb; have n0_ := Aside0.mk (below_step z6_0 hb); have n1_ := Aside0.mk (hbox); have n2_ := Aside0.mk ((by rw [hg]; exact (below_size z6_0) : w.heap.size ≤ gb242)); have n3_ := Aside0.mk ((by rw [hg]; exact (below_size z6_0) : w.heap.size ≤ gb242)); clear HB; have HB := n0_; have BK242 := n1_; have GW242 := n2_; have GE242 := n3_; clear n0_ n1_ n2_ n3_; clear hb hbox hg; have hcz13_0 : w12.cell? ⟨gb242, 0, none⟩ = some (.int .i64 0) := (blk_cell BK242.out 0).trans rfl; have hcz13_1 : w12.cell? ⟨gb242, 1, none⟩ = some (.string (⟨#[]⟩ : ByteArray)) := (blk_cell BK242.out 1).trans rfl; have hcz13_2 : w12.cell? ⟨gb242, 2, none⟩ = some (.int .i64 0) := (blk_cell BK242.out 2).trans rfl; have hcz13_3 : w12.cell? ⟨gb242, 3, none⟩ = some (.int .i64 0) := (blk_cell BK242.out 3).trans rfl; have hfz13_0 := blk_frozen BK242.out 0; have hfz13_1 := blk_frozen BK242.out 1; have hfz13_2 := blk_frozen BK242.out 2; have hfz13_3 := blk_frozen BK242.out 3))
      have n0_ : Aside0 (((((w12.setCell ⟨gb242, 0, none⟩ (.int .i64 ((rd_T31 l0 a1).f0))).setCell ⟨gb242, 1, none⟩ (.string ((rd_T31 l0 a1).f1))).setCell ⟨gb242, 2, none⟩ (.int .i64 ((rd_T31 l0 a1).f2))).setCell ⟨gb242, 3, none⟩ (.int .i64 ((rd_T31 l0 a1).f3))).heap[gb242]? = some (.cells #[.int .i64 ((rd_T31 l0 a1).f0), .string ((rd_T31 l0 a1).f1), .int .i64 ((rd_T31 l0 a1).f2), .int .i64 ((rd_T31 l0 a1).f3)] 31 (0, 0))) := ⟨z6_3⟩
      have n1_ : Aside0 (Below w.heap.size w ((((w12.setCell ⟨gb242, 0, none⟩ (.int .i64 ((rd_T31 l0 a1).f0))).setCell ⟨gb242, 1, none⟩ (.string ((rd_T31 l0 a1).f1))).setCell ⟨gb242, 2, none⟩ (.int .i64 ((rd_T31 l0 a1).f2))).setCell ⟨gb242, 3, none⟩ (.int .i64 ((rd_T31 l0 a1).f3)))) := ⟨z6_2⟩
      (try clear BK242)
      (try clear HB)
      generalize ((((w12.setCell ⟨gb242, 0, none⟩ (.int .i64 ((rd_T31 l0 a1).f0))).setCell ⟨gb242, 1, none⟩ (.string ((rd_T31 l0 a1).f1))).setCell ⟨gb242, 2, none⟩ (.int .i64 ((rd_T31 l0 a1).f2))).setCell ⟨gb242, 3, none⟩ (.int .i64 ((rd_T31 l0 a1).f3))) = w14 at n0_ n1_ ⊢
      have BK242 := n0_
      have HB := n1_
      clear n0_ n1_
      have n0_ := Aside0.mk (blk_drew BK242.out)
      have n1_ := Aside0.mk (below_drew1 HB.out)
      clear BK242
      clear HB
      have BK242 := n0_
      have HB := n1_
      clear n0_ n1_
      refine start_ (n := 7) (S := fun w' => w'.cell? ⟨gb242, 0, none⟩ = some (.int .i64 ((rd_T31 l0 a1).f0)) ∧ w'.cell? ⟨gb242, 1, none⟩ = some (.string ((rd_T31 l0 a1).f1)) ∧ w'.cell? ⟨gb242, 2, none⟩ = some (.int .i64 ((rd_T31 l0 a1).f2)) ∧ w'.cell? ⟨gb242, 3, none⟩ = some (.int .i64 ((rd_T31 l0 a1).f3))) (ds := []) #[false, false, false, false, false, false, false] (by kernel_rfl) rfl rfl ⟨(blk_cell BK242.out 0).trans rfl, (blk_cell BK242.out 1).trans rfl, (blk_cell BK242.out 2).trans rfl, (blk_cell BK242.out 3).trans rfl⟩ (fun hHeld => ?_)
      generalize w14.drew = w15 at BK242 HB hHeld ⊢
      refine pure_ (i := 0) (N := some 22) (v := ?_) (a' := ?_) #[true, false, false, false, false, false, false] rfl rfl (by kernel_rfl) (fun _ _ _ h => h) (Or.inl ⟨by rfl, ?_⟩) ?_ ?_
      rotate_left
      ·intro w'
       go_simp
       with_reducible rfl
      rotate_left
      ·simp only [Act.put, pt6_, i64_w, i32_w]
       rfl
      refine pure_ (i := 1) (N := some 23) (v := ?_) (a' := ?_) #[true, true, false, false, false, false, false] rfl rfl (by kernel_rfl) (fun _ _ _ h => h) (Or.inl ⟨by rfl, ?_⟩) ?_ ?_
      rotate_left
      ·intro w'
       go_simp
       with_reducible rfl
      rotate_left
      ·simp only [Act.put, pt6_, i64_w, i32_w]
       rfl
      refine pure_ (i := 3) (N := some 25) (v := ?_) (a' := ?_) #[true, true, false, true, false, false, false] rfl rfl (by kernel_rfl) (fun _ _ _ h => h) (Or.inl ⟨by rfl, ?_⟩) ?_ ?_
      rotate_left
      ·intro w'
       go_simp
       with_reducible rfl
      rotate_left
      ·simp only [Act.put, pt6_, i64_w, i32_w]
       rfl
      refine take_ (i := 2) (N := some 24) (v := ?_) (a' := ?_) #[true, true, true, true, false, false, false] rfl rfl (by kernel_rfl) (fun _ _ _ h => h) (Or.inl ⟨by rfl, ?_⟩) hHeld ?_ ?_
      rotate_left
      ·rintro w' ⟨s0, s1, s2, s3⟩
       go_simp
       with_reducible rfl
      rotate_left
      ·simp only [Act.put, pt6_, i64_w, i32_w]
       rfl
      refine one_ (i := 4) (N := some 26) #[true, true, true, true, true, false, false] rfl rfl (by kernel_rfl) (by decide) (fun K hK => ?_)
      refine goes_ Try.func127 (by kernel_rfl) rfl #[.string a2] (by rfl) rfl rfl z6_1 ?_
      with_reducible refine (spec_Backwards.calls k a2 t243 _ A10.out).mono ?_
      rintro e w' ⟨rfl, ⟨nd, rfl⟩⟩
      refine ⟨_, rfl, ?_⟩
      refine hK.out _ _ ⟨(blk_cell BK242.out 0).trans rfl, (blk_cell BK242.out 1).trans rfl, (blk_cell BK242.out 2).trans rfl, (blk_cell BK242.out 3).trans rfl⟩ (fun hHeld => ?_)
      clear hK K
      refine norm_ (a' := ?_) ?_ ?_
      rotate_left
      ·show Act.put _ (some 26) _ = _
       simp only [Act.put, pt6_, i64_w, i32_w]
       rfl
      refine one_ (i := 5) (N := some 27) #[true, true, true, true, true, true, false] rfl rfl (by kernel_rfl) (by decide) (fun K hK => ?_)
      refine goes_ Try.func104 (by kernel_rfl) rfl #[.slice (some ad241) l0.length c0, .int .i64 ((rd_T31 l0 a1).f2), .string t243] (by rfl) rfl rfl z6_1 ?_
      with_reducible refine (ih k (by omega) _ _ l0 ((rd_T31 l0 a1).f2) t243 t244 _ ?side1 ?side2 A11.out).mono ?_
      (case side1 => repeat (first | exact (Kd.C_below HR0.out z6_2) | (with_reducible refine Kd.C_alloc ?_ _) | (with_reducible refine Kd.C_drewN ?_ _) | (with_reducible refine Kd.C_drew ?_)))
      (case side2 => exact HC0.out)
      rintro e w16 ⟨rfl, hb⟩
      refine ⟨_, rfl, ?_⟩
      have n0_ := Aside0.mk (blk_below (g := gb242) (o := .cells #[.int .i64 ((rd_T31 l0 a1).f0), .string ((rd_T31 l0 a1).f1), .int .i64 ((rd_T31 l0 a1).f2), .int .i64 ((rd_T31 l0 a1).f3)] 31 (0, 0)) (bd6_ BK242.out) hb)
      have n1_ := Aside0.mk (below_step z6_2 hb)
      clear BK242
      clear HB
      have BK242 := n0_
      have HB := n1_
      clear n0_ n1_
      (try clear hb)
      (try clear hb2)
      (try clear hk)
      (try clear hi)
      refine hK.out _ _ ⟨(blk_cell BK242.out 0).trans rfl, (blk_cell BK242.out 1).trans rfl, (blk_cell BK242.out 2).trans rfl, (blk_cell BK242.out 3).trans rfl⟩ (fun hHeld => ?_)
      clear hK K
      refine norm_ (a' := ?_) ?_ ?_
      rotate_left
      ·show Act.put _ (some 27) _ = _
       simp only [Act.put, pt6_, i64_w, i32_w]
       rfl
      refine pure_ (i := 6) (N := some 6) (v := ?_) (a' := ?_) #[true, true, true, true, true, true, true] rfl rfl (by kernel_rfl) (fun _ _ _ h => h) (Or.inl ⟨by rfl, ?_⟩) ?_ ?_
      rotate_left
      ·intro w'
       go_simp
       with_reducible rfl
      rotate_left
      ·simp only [Act.put, pt6_, i64_w, i32_w]
       rfl
      refine done_ (by kernel_rfl) ?_
      try go_wp2
      go_ret
      exact ⟨z6_7, z6_2⟩
     ·rw [if_neg c9] at H
      have c9b0 : (((rd_T31 l0 a1).f0) == 2) = false := beq_eq_false_iff_ne.mpr c9
      have c9b1 : (((rd_T31 l0 a1).f0) != 2) = true := bne_iff_ne.mpr c9
      by_cases c17 : ((rd_T31 l0 a1).f0) = 3
      ·rw [if_pos c17] at H
       have c17b0 : (((rd_T31 l0 a1).f0) == 3) = true := beq_iff_eq.mpr c17
       have c17b1 : (((rd_T31 l0 a1).f0) != 3) = false := bne_eq_false_iff_eq.mpr c17
       clear c17
       by_cases c18 : 0 ≤ ((rd_T31 l0 a1).f2)
       ·rw [if_pos c18] at H
        have c18b0 : decide (0 ≤ ((rd_T31 l0 a1).f2)) = true := decide_eq_true c18
        clear c18
        by_cases c19 : ((rd_T31 l0 a1).f2) < (l0.length : Int)
        ·rw [if_pos c19] at H
         have c19b0 : decide (((rd_T31 l0 a1).f2) < (l0.length : Int)) = true := decide_eq_true c19
         clear c19
         replace H := Option.bind_eq_some_iff.mp H
         obtain ⟨t246, A200, H⟩ := H
         replace H : (some t246) = some r := H
         have A20 := Aside0.mk A200
         clear A200
         obtain rfl := Option.some.inj H
         have p241 : 0 ≤ (a1 : Int) := of_decide_eq_true z6_5
         have q241 : a1 < (l0.length : Int) := of_decide_eq_true z6_5
         obtain ⟨ad241, e241, hx241_0, hx241_1, hx241_2, hx241_3⟩ := at_T31 HR0.out a1 p241 q241
         cases e241
         replace p241 := eq_true p241
         replace q241 := eq_true q241
         go_enter Try.func104, Try.ntmps104
         go_wp2_with (first | ((with_reducible refine gate_dst (N := 7) rfl ?_); refine box_event ?hg (N := 7) ?hd (cs := #[.int .i64 0, .string (⟨#[]⟩ : ByteArray), .int .i64 0, .int .i64 0]) (t := 31) ?hr ?_; (case hd => rfl); (case hg => rfl); (case hr => first | (go_simp; done) | (go_simp; rfl)); intro gb242 hg w21 hbox hb; have n0_ := Aside0.mk (below_step z6_0 hb); have n1_ := Aside0.mk (hbox); have n2_ := Aside0.mk ((by rw [hg]; exact (below_size z6_0) : w.heap.size ≤ gb242)); have n3_ := Aside0.mk ((by rw [hg]; exact (below_size z6_0) : w.heap.size ≤ gb242)); clear HB; have HB := n0_; have BK242 := n1_; have GW242 := n2_; have GE242 := n3_; clear n0_ n1_ n2_ n3_; clear hb hbox hg; have hcz22_0 : w21.cell? ⟨gb242, 0, none⟩ = some (.int .i64 0) := (blk_cell BK242.out 0).trans rfl; have hcz22_1 : w21.cell? ⟨gb242, 1, none⟩ = some (.string (⟨#[]⟩ : ByteArray)) := (blk_cell BK242.out 1).trans rfl; have hcz22_2 : w21.cell? ⟨gb242, 2, none⟩ = some (.int .i64 0) := (blk_cell BK242.out 2).trans rfl; have hcz22_3 : w21.cell? ⟨gb242, 3, none⟩ = some (.int .i64 0) := (blk_cell BK242.out 3).trans rfl; have hfz22_0 := blk_frozen BK242.out 0; have hfz22_1 := blk_frozen BK242.out 1; have hfz22_2 := blk_frozen BK242.out 2; have hfz22_3 := blk_frozen BK242.out 3; have p245 : 0 ≤ (((rd_T31 l0 a1).f2) : Int) := of_decide_eq_true z6_5; have q245 : ((rd_T31 l0 a1).f2) < (l0.length : Int) := of_decide_eq_true z6_5; obtain ⟨ad245, e245, hx245_0, hx245_1, hx245_2, hx245_3⟩ := at_T31 HR0.out ((rd_T31 l0 a1).f2) p245 q245; obtain rfl : ad241 = ad245 := (by injection e245); have hn245_0 : ad241.block ≠ gb242 := Nat.ne_of_lt (Nat.lt_of_lt_of_le (bl6_ hx245_0) GW242.out); have hn245_1 : ad241.block ≠ gb242 := Nat.ne_of_lt (Nat.lt_of_lt_of_le (bl6_ hx245_0) GW242.out); have hn245_2 : ad241.block ≠ gb242 := Nat.ne_of_lt (Nat.lt_of_lt_of_le (bl6_ hx245_0) GW242.out); have hn245_3 : ad241.block ≠ gb242 := Nat.ne_of_lt (Nat.lt_of_lt_of_le (bl6_ hx245_0) GW242.out); replace hx245_0 := (HB.out.cell (World.block_lt_of_cell? w _ hx245_0)).trans hx245_0; replace hx245_1 := (HB.out.cell (World.block_lt_of_cell? w _ hx245_1)).trans hx245_1; replace hx245_2 := (HB.out.cell (World.block_lt_of_cell? w _ hx245_2)).trans hx245_2; replace hx245_3 := (HB.out.cell (World.block_lt_of_cell? w _ hx245_3)).trans hx245_3; replace hx245_0 := (cell_far (p := ⟨gb242, 0, none⟩) (ab6_ hn245_0) (.int .i64 ((rd_T31 l0 a1).f0))).trans hx245_0; replace hx245_1 := (cell_far (p := ⟨gb242, 0, none⟩) (ab6_ hn245_0) (.int .i64 ((rd_T31 l0 a1).f0))).trans hx245_1; replace hx245_2 := (cell_far (p := ⟨gb242, 0, none⟩) (ab6_ hn245_0) (.int .i64 ((rd_T31 l0 a1).f0))).trans hx245_2; replace hx245_3 := (cell_far (p := ⟨gb242, 0, none⟩) (ab6_ hn245_0) (.int .i64 ((rd_T31 l0 a1).f0))).trans hx245_3; replace hx245_0 := (cell_far (p := ⟨gb242, 1, none⟩) (ab6_ hn245_1) (.string ((rd_T31 l0 a1).f1))).trans hx245_0; replace hx245_1 := (cell_far (p := ⟨gb242, 1, none⟩) (ab6_ hn245_1) (.string ((rd_T31 l0 a1).f1))).trans hx245_1; replace hx245_2 := (cell_far (p := ⟨gb242, 1, none⟩) (ab6_ hn245_1) (.string ((rd_T31 l0 a1).f1))).trans hx245_2; replace hx245_3 := (cell_far (p := ⟨gb242, 1, none⟩) (ab6_ hn245_1) (.string ((rd_T31 l0 a1).f1))).trans hx245_3; replace hx245_0 := (cell_far (p := ⟨gb242, 2, none⟩) (ab6_ hn245_2) (.int .i64 ((rd_T31 l0 a1).f2))).trans hx245_0; replace hx245_1 := (cell_far (p := ⟨gb242, 2, none⟩) (ab6_ hn245_2) (.int .i64 ((rd_T31 l0 a1).f2))).trans hx245_1; replace hx245_2 := (cell_far (p := ⟨gb242, 2, none⟩) (ab6_ hn245_2) (.int .i64 ((rd_T31 l0 a1).f2))).trans hx245_2; replace hx245_3 := (cell_far (p := ⟨gb242, 2, none⟩) (ab6_ hn245_2) (.int .i64 ((rd_T31 l0 a1).f2))).trans hx245_3; replace hx245_0 := (cell_far (p := ⟨gb242, 3, none⟩) (ab6_ hn245_3) (.int .i64 ((rd_T31 l0 a1).f3))).trans hx245_0; replace hx245_1 := (cell_far (p := ⟨gb242, 3, none⟩) (ab6_ hn245_3) (.int .i64 ((rd_T31 l0 a1).f3))).trans hx245_1; replace hx245_2 := (cell_far (p := ⟨gb242, 3, none⟩) (ab6_ hn245_3) (.int .i64 ((rd_T31 l0 a1).f3))).trans hx245_2; replace hx245_3 := (cell_far (p := ⟨gb242, 3, none⟩) (ab6_ hn245_3) (.int .i64 ((rd_T31 l0 a1).f3))).trans hx245_3; clear hn245_0; clear hn245_1; clear hn245_2; clear hn245_3; replace p245 := eq_true p245; replace q245 := eq_true q245) | ((with_reducible refine gate_callee (f := 128) rfl ?_); refine goesL_ (some 37) rfl rfl Try.func128 (by kernel_rfl) rfl #[.string ((rd_T31 l0 ((rd_T31 l0 a1).f2)).f1), .string a2] rfl z6_1 ?_; (with_reducible refine (spec_IsRearranged.calls k ((rd_T31 l0 ((rd_T31 l0 a1).f2)).f1) a2 t246 _ A20.out).mono ?_); rintro e w' ⟨rfl, ⟨nd, rfl⟩⟩; refine ⟨_, rfl, ?_⟩))
         go_ret
         exact ⟨z6_7, z6_2⟩
        ·rw [if_neg c19] at H
         exact absurd H (by simp)
       ·rw [if_neg c18] at H
        exact absurd H (by simp)
      ·rw [if_neg c17] at H
       have c17b0 : (((rd_T31 l0 a1).f0) == 3) = false := beq_eq_false_iff_ne.mpr c17
       have c17b1 : (((rd_T31 l0 a1).f0) != 3) = true := bne_iff_ne.mpr c17
       by_cases c23 : ((rd_T31 l0 a1).f0) = 4
       ·rw [if_pos c23] at H
        have c23b0 : (((rd_T31 l0 a1).f0) == 4) = true := beq_iff_eq.mpr c23
        have c23b1 : (((rd_T31 l0 a1).f0) != 4) = false := bne_eq_false_iff_eq.mpr c23
        clear c23
        replace H := Option.bind_eq_some_iff.mp H
        obtain ⟨t247, A240, H⟩ := H
        replace H : (some t247) = some r := H
        have A24 := Aside0.mk A240
        clear A240
        obtain rfl := Option.some.inj H
        have p241 : 0 ≤ (a1 : Int) := of_decide_eq_true z6_5
        have q241 : a1 < (l0.length : Int) := of_decide_eq_true z6_5
        obtain ⟨ad241, e241, hx241_0, hx241_1, hx241_2, hx241_3⟩ := at_T31 HR0.out a1 p241 q241
        cases e241
        replace p241 := eq_true p241
        replace q241 := eq_true q241
        go_enter Try.func104, Try.ntmps104
        go_wp2_with (first | ((with_reducible refine gate_dst (N := 7) rfl ?_); refine box_event ?hg (N := 7) ?hd (cs := #[.int .i64 0, .string (⟨#[]⟩ : ByteArray), .int .i64 0, .int .i64 0]) (t := 31) ?hr ?_; (case hd => rfl); (case hg => rfl); (case hr => first | (go_simp; done) | (go_simp; rfl)); intro gb242 hg w25 hbox hb; have n0_ := Aside0.mk (below_step z6_0 hb); have n1_ := Aside0.mk (hbox); have n2_ := Aside0.mk ((by rw [hg]; exact (below_size z6_0) : w.heap.size ≤ gb242)); have n3_ := Aside0.mk ((by rw [hg]; exact (below_size z6_0) : w.heap.size ≤ gb242)); clear HB; have HB := n0_; have BK242 := n1_; have GW242 := n2_; have GE242 := n3_; clear n0_ n1_ n2_ n3_; clear hb hbox hg; have hcz26_0 : w25.cell? ⟨gb242, 0, none⟩ = some (.int .i64 0) := (blk_cell BK242.out 0).trans rfl; have hcz26_1 : w25.cell? ⟨gb242, 1, none⟩ = some (.string (⟨#[]⟩ : ByteArray)) := (blk_cell BK242.out 1).trans rfl; have hcz26_2 : w25.cell? ⟨gb242, 2, none⟩ = some (.int .i64 0) := (blk_cell BK242.out 2).trans rfl; have hcz26_3 : w25.cell? ⟨gb242, 3, none⟩ = some (.int .i64 0) := (blk_cell BK242.out 3).trans rfl; have hfz26_0 := blk_frozen BK242.out 0; have hfz26_1 := blk_frozen BK242.out 1; have hfz26_2 := blk_frozen BK242.out 2; have hfz26_3 := blk_frozen BK242.out 3) | ((with_reducible refine gate_callee (f := 129) rfl ?_); refine goesL_ (some 43) rfl rfl Try.func129 (by kernel_rfl) rfl #[.slice (some ad241) l0.length c0, .agg #[.int .i64 ((rd_T31 l0 a1).f0), .string ((rd_T31 l0 a1).f1), .int .i64 ((rd_T31 l0 a1).f2), .int .i64 ((rd_T31 l0 a1).f3)], .string a2] rfl z6_1 ?_; (with_reducible refine (spec_l15Join.calls k (fun k' hk' => ih k' (Nat.lt_succ_of_le hk')) _ _ l0 ((rd_T31 l0 a1).f0) ((rd_T31 l0 a1).f1) ((rd_T31 l0 a1).f2) ((rd_T31 l0 a1).f3) a2 t247 _ ?side1 ?side2 A24.out).mono ?_); (case side1 => exact Kd.C_below HR0.out z6_2); (case side2 => exact HC0.out); rintro e w27 ⟨rfl, hb⟩; refine ⟨_, rfl, ?_⟩; have n0_ := Aside0.mk (blk_below (g := gb242) (o := .cells #[.int .i64 ((rd_T31 l0 a1).f0), .string ((rd_T31 l0 a1).f1), .int .i64 ((rd_T31 l0 a1).f2), .int .i64 ((rd_T31 l0 a1).f3)] 31 (0, 0)) z6_3 hb); have n1_ := Aside0.mk (below_step z6_2 hb); clear BK242; clear HB; have BK242 := n0_; have HB := n1_; clear n0_ n1_; (try clear hb); (try clear hb2); (try clear hk); (try clear hi)))
        go_ret
        exact ⟨z6_7, z6_2⟩
       ·rw [if_neg c23] at H
        have c23b0 : (((rd_T31 l0 a1).f0) == 4) = false := beq_eq_false_iff_ne.mpr c23
        have c23b1 : (((rd_T31 l0 a1).f0) != 4) = true := bne_iff_ne.mpr c23
        by_cases c28 : ((rd_T31 l0 a1).f0) = 5
        ·rw [if_pos c28] at H
         have c28b0 : (((rd_T31 l0 a1).f0) == 5) = true := beq_iff_eq.mpr c28
         have c28b1 : (((rd_T31 l0 a1).f0) != 5) = false := bne_eq_false_iff_eq.mpr c28
         clear c28
         replace H := Option.bind_eq_some_iff.mp H
         obtain ⟨t248, A290, H⟩ := H
         replace H : (some t248) = some r := H
         have A29 := Aside0.mk A290
         clear A290
         obtain rfl := Option.some.inj H
         have p241 : 0 ≤ (a1 : Int) := of_decide_eq_true z6_5
         have q241 : a1 < (l0.length : Int) := of_decide_eq_true z6_5
         obtain ⟨ad241, e241, hx241_0, hx241_1, hx241_2, hx241_3⟩ := at_T31 HR0.out a1 p241 q241
         cases e241
         replace p241 := eq_true p241
         replace q241 := eq_true q241
         go_enter Try.func104, Try.ntmps104
         go_wp2_with (first | ((with_reducible refine gate_dst (N := 7) rfl ?_); refine box_event ?hg (N := 7) ?hd (cs := #[.int .i64 0, .string (⟨#[]⟩ : ByteArray), .int .i64 0, .int .i64 0]) (t := 31) ?hr ?_; (case hd => rfl); (case hg => rfl); (case hr => first | (go_simp; done) | (go_simp; rfl)); intro gb242 hg w30 hbox hb; have n0_ := Aside0.mk (below_step z6_0 hb); have n1_ := Aside0.mk (hbox); have n2_ := Aside0.mk ((by rw [hg]; exact (below_size z6_0) : w.heap.size ≤ gb242)); have n3_ := Aside0.mk ((by rw [hg]; exact (below_size z6_0) : w.heap.size ≤ gb242)); clear HB; have HB := n0_; have BK242 := n1_; have GW242 := n2_; have GE242 := n3_; clear n0_ n1_ n2_ n3_; clear hb hbox hg; have hcz31_0 : w30.cell? ⟨gb242, 0, none⟩ = some (.int .i64 0) := (blk_cell BK242.out 0).trans rfl; have hcz31_1 : w30.cell? ⟨gb242, 1, none⟩ = some (.string (⟨#[]⟩ : ByteArray)) := (blk_cell BK242.out 1).trans rfl; have hcz31_2 : w30.cell? ⟨gb242, 2, none⟩ = some (.int .i64 0) := (blk_cell BK242.out 2).trans rfl; have hcz31_3 : w30.cell? ⟨gb242, 3, none⟩ = some (.int .i64 0) := (blk_cell BK242.out 3).trans rfl; have hfz31_0 := blk_frozen BK242.out 0; have hfz31_1 := blk_frozen BK242.out 1; have hfz31_2 := blk_frozen BK242.out 2; have hfz31_3 := blk_frozen BK242.out 3) | ((with_reducible refine gate_callee (f := 130) rfl ?_); refine goesL_ (some 49) rfl rfl Try.func130 (by kernel_rfl) rfl #[.slice (some ad241) l0.length c0, .agg #[.int .i64 ((rd_T31 l0 a1).f0), .string ((rd_T31 l0 a1).f1), .int .i64 ((rd_T31 l0 a1).f2), .int .i64 ((rd_T31 l0 a1).f3)], .string a2] rfl z6_1 ?_; (with_reducible refine (spec_l15In.calls k (fun k' hk' => ih k' (Nat.lt_succ_of_le hk')) _ _ l0 ((rd_T31 l0 a1).f0) ((rd_T31 l0 a1).f1) ((rd_T31 l0 a1).f2) ((rd_T31 l0 a1).f3) a2 t248 _ ?side1 ?side2 A29.out).mono ?_); (case side1 => exact Kd.C_below HR0.out z6_2); (case side2 => exact HC0.out); rintro e w32 ⟨rfl, hb⟩; refine ⟨_, rfl, ?_⟩; have n0_ := Aside0.mk (blk_below (g := gb242) (o := .cells #[.int .i64 ((rd_T31 l0 a1).f0), .string ((rd_T31 l0 a1).f1), .int .i64 ((rd_T31 l0 a1).f2), .int .i64 ((rd_T31 l0 a1).f3)] 31 (0, 0)) z6_3 hb); have n1_ := Aside0.mk (below_step z6_2 hb); clear BK242; clear HB; have BK242 := n0_; have HB := n1_; clear n0_ n1_; (try clear hb); (try clear hb2); (try clear hk); (try clear hi)))
         go_ret
         exact ⟨z6_7, z6_2⟩
        ·rw [if_neg c28] at H
         have c28b0 : (((rd_T31 l0 a1).f0) == 5) = false := beq_eq_false_iff_ne.mpr c28
         have c28b1 : (((rd_T31 l0 a1).f0) != 5) = true := bne_iff_ne.mpr c28
         by_cases c33 : ((rd_T31 l0 a1).f0) = 6
         ·rw [if_pos c33] at H
          have c33b0 : (((rd_T31 l0 a1).f0) == 6) = true := beq_iff_eq.mpr c33
          have c33b1 : (((rd_T31 l0 a1).f0) != 6) = false := bne_eq_false_iff_eq.mpr c33
          clear c33
          by_cases c34 : 0 ≤ ((rd_T31 l0 a1).f2)
          ·rw [if_pos c34] at H
           have c34b0 : decide (0 ≤ ((rd_T31 l0 a1).f2)) = true := decide_eq_true c34
           clear c34
           by_cases c35 : ((rd_T31 l0 a1).f2) < (l0.length : Int)
           ·rw [if_pos c35] at H
            have c35b0 : decide (((rd_T31 l0 a1).f2) < (l0.length : Int)) = true := decide_eq_true c35
            clear c35
            replace H := Option.bind_eq_some_iff.mp H
            obtain ⟨t250, A360, H⟩ := H
            replace H : (some (t250.toList == a2.toList)) = some r := H
            have A36 := Aside0.mk A360
            clear A360
            obtain rfl := Option.some.inj H
            have p241 : 0 ≤ (a1 : Int) := of_decide_eq_true z6_5
            have q241 : a1 < (l0.length : Int) := of_decide_eq_true z6_5
            obtain ⟨ad241, e241, hx241_0, hx241_1, hx241_2, hx241_3⟩ := at_T31 HR0.out a1 p241 q241
            cases e241
            replace p241 := eq_true p241
            replace q241 := eq_true q241
            go_enter Try.func104, Try.ntmps104
            go_wp2_with (first | ((with_reducible refine gate_dst (N := 7) rfl ?_); refine box_event ?hg (N := 7) ?hd (cs := #[.int .i64 0, .string (⟨#[]⟩ : ByteArray), .int .i64 0, .int .i64 0]) (t := 31) ?hr ?_; (case hd => rfl); (case hg => rfl); (case hr => first | (go_simp; done) | (go_simp; rfl)); intro gb242 hg w37 hbox hb; have n0_ := Aside0.mk (below_step z6_0 hb); have n1_ := Aside0.mk (hbox); have n2_ := Aside0.mk ((by rw [hg]; exact (below_size z6_0) : w.heap.size ≤ gb242)); have n3_ := Aside0.mk ((by rw [hg]; exact (below_size z6_0) : w.heap.size ≤ gb242)); clear HB; have HB := n0_; have BK242 := n1_; have GW242 := n2_; have GE242 := n3_; clear n0_ n1_ n2_ n3_; clear hb hbox hg; have hcz38_0 : w37.cell? ⟨gb242, 0, none⟩ = some (.int .i64 0) := (blk_cell BK242.out 0).trans rfl; have hcz38_1 : w37.cell? ⟨gb242, 1, none⟩ = some (.string (⟨#[]⟩ : ByteArray)) := (blk_cell BK242.out 1).trans rfl; have hcz38_2 : w37.cell? ⟨gb242, 2, none⟩ = some (.int .i64 0) := (blk_cell BK242.out 2).trans rfl; have hcz38_3 : w37.cell? ⟨gb242, 3, none⟩ = some (.int .i64 0) := (blk_cell BK242.out 3).trans rfl; have hfz38_0 := blk_frozen BK242.out 0; have hfz38_1 := blk_frozen BK242.out 1; have hfz38_2 := blk_frozen BK242.out 2; have hfz38_3 := blk_frozen BK242.out 3; have p249 : 0 ≤ (((rd_T31 l0 a1).f2) : Int) := of_decide_eq_true z6_5; have q249 : ((rd_T31 l0 a1).f2) < (l0.length : Int) := of_decide_eq_true z6_5; obtain ⟨ad249, e249, hx249_0, hx249_1, hx249_2, hx249_3⟩ := at_T31 HR0.out ((rd_T31 l0 a1).f2) p249 q249; obtain rfl : ad241 = ad249 := (by injection e249); have hn249_0 : ad241.block ≠ gb242 := Nat.ne_of_lt (Nat.lt_of_lt_of_le (bl6_ hx249_0) GW242.out); have hn249_1 : ad241.block ≠ gb242 := Nat.ne_of_lt (Nat.lt_of_lt_of_le (bl6_ hx249_0) GW242.out); have hn249_2 : ad241.block ≠ gb242 := Nat.ne_of_lt (Nat.lt_of_lt_of_le (bl6_ hx249_0) GW242.out); have hn249_3 : ad241.block ≠ gb242 := Nat.ne_of_lt (Nat.lt_of_lt_of_le (bl6_ hx249_0) GW242.out); replace hx249_0 := (HB.out.cell (World.block_lt_of_cell? w _ hx249_0)).trans hx249_0; replace hx249_1 := (HB.out.cell (World.block_lt_of_cell? w _ hx249_1)).trans hx249_1; replace hx249_2 := (HB.out.cell (World.block_lt_of_cell? w _ hx249_2)).trans hx249_2; replace hx249_3 := (HB.out.cell (World.block_lt_of_cell? w _ hx249_3)).trans hx249_3; replace hx249_0 := (cell_far (p := ⟨gb242, 0, none⟩) (ab6_ hn249_0) (.int .i64 ((rd_T31 l0 a1).f0))).trans hx249_0; replace hx249_1 := (cell_far (p := ⟨gb242, 0, none⟩) (ab6_ hn249_0) (.int .i64 ((rd_T31 l0 a1).f0))).trans hx249_1; replace hx249_2 := (cell_far (p := ⟨gb242, 0, none⟩) (ab6_ hn249_0) (.int .i64 ((rd_T31 l0 a1).f0))).trans hx249_2; replace hx249_3 := (cell_far (p := ⟨gb242, 0, none⟩) (ab6_ hn249_0) (.int .i64 ((rd_T31 l0 a1).f0))).trans hx249_3; replace hx249_0 := (cell_far (p := ⟨gb242, 1, none⟩) (ab6_ hn249_1) (.string ((rd_T31 l0 a1).f1))).trans hx249_0; replace hx249_1 := (cell_far (p := ⟨gb242, 1, none⟩) (ab6_ hn249_1) (.string ((rd_T31 l0 a1).f1))).trans hx249_1; replace hx249_2 := (cell_far (p := ⟨gb242, 1, none⟩) (ab6_ hn249_1) (.string ((rd_T31 l0 a1).f1))).trans hx249_2; replace hx249_3 := (cell_far (p := ⟨gb242, 1, none⟩) (ab6_ hn249_1) (.string ((rd_T31 l0 a1).f1))).trans hx249_3; replace hx249_0 := (cell_far (p := ⟨gb242, 2, none⟩) (ab6_ hn249_2) (.int .i64 ((rd_T31 l0 a1).f2))).trans hx249_0; replace hx249_1 := (cell_far (p := ⟨gb242, 2, none⟩) (ab6_ hn249_2) (.int .i64 ((rd_T31 l0 a1).f2))).trans hx249_1; replace hx249_2 := (cell_far (p := ⟨gb242, 2, none⟩) (ab6_ hn249_2) (.int .i64 ((rd_T31 l0 a1).f2))).trans hx249_2; replace hx249_3 := (cell_far (p := ⟨gb242, 2, none⟩) (ab6_ hn249_2) (.int .i64 ((rd_T31 l0 a1).f2))).trans hx249_3; replace hx249_0 := (cell_far (p := ⟨gb242, 3, none⟩) (ab6_ hn249_3) (.int .i64 ((rd_T31 l0 a1).f3))).trans hx249_0; replace hx249_1 := (cell_far (p := ⟨gb242, 3, none⟩) (ab6_ hn249_3) (.int .i64 ((rd_T31 l0 a1).f3))).trans hx249_1; replace hx249_2 := (cell_far (p := ⟨gb242, 3, none⟩) (ab6_ hn249_3) (.int .i64 ((rd_T31 l0 a1).f3))).trans hx249_2; replace hx249_3 := (cell_far (p := ⟨gb242, 3, none⟩) (ab6_ hn249_3) (.int .i64 ((rd_T31 l0 a1).f3))).trans hx249_3; clear hn249_0; clear hn249_1; clear hn249_2; clear hn249_3; replace p249 := eq_true p249; replace q249 := eq_true q249) | ((with_reducible refine gate_callee (f := 131) rfl ?_); refine goesL_ (some 58) rfl rfl Try.func131 (by kernel_rfl) rfl #[.string ((rd_T31 l0 ((rd_T31 l0 a1).f2)).f1)] rfl z6_1 ?_; (with_reducible refine (spec_HeadOf.calls k ((rd_T31 l0 ((rd_T31 l0 a1).f2)).f1) t250 _ A36.out).mono ?_); rintro e w' ⟨rfl, ⟨nd, rfl⟩⟩; refine ⟨_, rfl, ?_⟩))
            go_ret
            exact ⟨z6_7, z6_2⟩
           ·rw [if_neg c35] at H
            exact absurd H (by simp)
          ·rw [if_neg c34] at H
           exact absurd H (by simp)
         ·rw [if_neg c33] at H
          have c33b0 : (((rd_T31 l0 a1).f0) == 6) = false := beq_eq_false_iff_ne.mpr c33
          have c33b1 : (((rd_T31 l0 a1).f0) != 6) = true := bne_iff_ne.mpr c33
          by_cases c39 : ((rd_T31 l0 a1).f0) = 7
          ·rw [if_pos c39] at H
           have c39b0 : (((rd_T31 l0 a1).f0) == 7) = true := beq_iff_eq.mpr c39
           have c39b1 : (((rd_T31 l0 a1).f0) != 7) = false := bne_eq_false_iff_eq.mpr c39
           clear c39
           by_cases c40 : 0 ≤ ((rd_T31 l0 a1).f2)
           ·rw [if_pos c40] at H
            have c40b0 : decide (0 ≤ ((rd_T31 l0 a1).f2)) = true := decide_eq_true c40
            clear c40
            by_cases c41 : ((rd_T31 l0 a1).f2) < (l0.length : Int)
            ·rw [if_pos c41] at H
             have c41b0 : decide (((rd_T31 l0 a1).f2) < (l0.length : Int)) = true := decide_eq_true c41
             clear c41
             replace H := Option.bind_eq_some_iff.mp H
             obtain ⟨t252, A420, H⟩ := H
             replace H : (some (t252.toList == a2.toList)) = some r := H
             have A42 := Aside0.mk A420
             clear A420
             obtain rfl := Option.some.inj H
             have p241 : 0 ≤ (a1 : Int) := of_decide_eq_true z6_5
             have q241 : a1 < (l0.length : Int) := of_decide_eq_true z6_5
             obtain ⟨ad241, e241, hx241_0, hx241_1, hx241_2, hx241_3⟩ := at_T31 HR0.out a1 p241 q241
             cases e241
             replace p241 := eq_true p241
             replace q241 := eq_true q241
             go_enter Try.func104, Try.ntmps104
             go_wp2_with (first | ((with_reducible refine gate_dst (N := 7) rfl ?_); refine box_event ?hg (N := 7) ?hd (cs := #[.int .i64 0, .string (⟨#[]⟩ : ByteArray), .int .i64 0, .int .i64 0]) (t := 31) ?hr ?_; (case hd => rfl); (case hg => rfl); (case hr => first | (go_simp; done) | (go_simp; rfl)); intro gb242 hg w43 hbox hb; have n0_ := Aside0.mk (below_step z6_0 hb); have n1_ := Aside0.mk (hbox); have n2_ := Aside0.mk ((by rw [hg]; exact (below_size z6_0) : w.heap.size ≤ gb242)); have n3_ := Aside0.mk ((by rw [hg]; exact (below_size z6_0) : w.heap.size ≤ gb242)); clear HB; have HB := n0_; have BK242 := n1_; have GW242 := n2_; have GE242 := n3_; clear n0_ n1_ n2_ n3_; clear hb hbox hg; have hcz44_0 : w43.cell? ⟨gb242, 0, none⟩ = some (.int .i64 0) := (blk_cell BK242.out 0).trans rfl; have hcz44_1 : w43.cell? ⟨gb242, 1, none⟩ = some (.string (⟨#[]⟩ : ByteArray)) := (blk_cell BK242.out 1).trans rfl; have hcz44_2 : w43.cell? ⟨gb242, 2, none⟩ = some (.int .i64 0) := (blk_cell BK242.out 2).trans rfl; have hcz44_3 : w43.cell? ⟨gb242, 3, none⟩ = some (.int .i64 0) := (blk_cell BK242.out 3).trans rfl; have hfz44_0 := blk_frozen BK242.out 0; have hfz44_1 := blk_frozen BK242.out 1; have hfz44_2 := blk_frozen BK242.out 2; have hfz44_3 := blk_frozen BK242.out 3; have p251 : 0 ≤ (((rd_T31 l0 a1).f2) : Int) := of_decide_eq_true z6_5; have q251 : ((rd_T31 l0 a1).f2) < (l0.length : Int) := of_decide_eq_true z6_5; obtain ⟨ad251, e251, hx251_0, hx251_1, hx251_2, hx251_3⟩ := at_T31 HR0.out ((rd_T31 l0 a1).f2) p251 q251; obtain rfl : ad241 = ad251 := (by injection e251); have hn251_0 : ad241.block ≠ gb242 := Nat.ne_of_lt (Nat.lt_of_lt_of_le (bl6_ hx251_0) GW242.out); have hn251_1 : ad241.block ≠ gb242 := Nat.ne_of_lt (Nat.lt_of_lt_of_le (bl6_ hx251_0) GW242.out); have hn251_2 : ad241.block ≠ gb242 := Nat.ne_of_lt (Nat.lt_of_lt_of_le (bl6_ hx251_0) GW242.out); have hn251_3 : ad241.block ≠ gb242 := Nat.ne_of_lt (Nat.lt_of_lt_of_le (bl6_ hx251_0) GW242.out); replace hx251_0 := (HB.out.cell (World.block_lt_of_cell? w _ hx251_0)).trans hx251_0; replace hx251_1 := (HB.out.cell (World.block_lt_of_cell? w _ hx251_1)).trans hx251_1; replace hx251_2 := (HB.out.cell (World.block_lt_of_cell? w _ hx251_2)).trans hx251_2; replace hx251_3 := (HB.out.cell (World.block_lt_of_cell? w _ hx251_3)).trans hx251_3; replace hx251_0 := (cell_far (p := ⟨gb242, 0, none⟩) (ab6_ hn251_0) (.int .i64 ((rd_T31 l0 a1).f0))).trans hx251_0; replace hx251_1 := (cell_far (p := ⟨gb242, 0, none⟩) (ab6_ hn251_0) (.int .i64 ((rd_T31 l0 a1).f0))).trans hx251_1; replace hx251_2 := (cell_far (p := ⟨gb242, 0, none⟩) (ab6_ hn251_0) (.int .i64 ((rd_T31 l0 a1).f0))).trans hx251_2; replace hx251_3 := (cell_far (p := ⟨gb242, 0, none⟩) (ab6_ hn251_0) (.int .i64 ((rd_T31 l0 a1).f0))).trans hx251_3; replace hx251_0 := (cell_far (p := ⟨gb242, 1, none⟩) (ab6_ hn251_1) (.string ((rd_T31 l0 a1).f1))).trans hx251_0; replace hx251_1 := (cell_far (p := ⟨gb242, 1, none⟩) (ab6_ hn251_1) (.string ((rd_T31 l0 a1).f1))).trans hx251_1; replace hx251_2 := (cell_far (p := ⟨gb242, 1, none⟩) (ab6_ hn251_1) (.string ((rd_T31 l0 a1).f1))).trans hx251_2; replace hx251_3 := (cell_far (p := ⟨gb242, 1, none⟩) (ab6_ hn251_1) (.string ((rd_T31 l0 a1).f1))).trans hx251_3; replace hx251_0 := (cell_far (p := ⟨gb242, 2, none⟩) (ab6_ hn251_2) (.int .i64 ((rd_T31 l0 a1).f2))).trans hx251_0; replace hx251_1 := (cell_far (p := ⟨gb242, 2, none⟩) (ab6_ hn251_2) (.int .i64 ((rd_T31 l0 a1).f2))).trans hx251_1; replace hx251_2 := (cell_far (p := ⟨gb242, 2, none⟩) (ab6_ hn251_2) (.int .i64 ((rd_T31 l0 a1).f2))).trans hx251_2; replace hx251_3 := (cell_far (p := ⟨gb242, 2, none⟩) (ab6_ hn251_2) (.int .i64 ((rd_T31 l0 a1).f2))).trans hx251_3; replace hx251_0 := (cell_far (p := ⟨gb242, 3, none⟩) (ab6_ hn251_3) (.int .i64 ((rd_T31 l0 a1).f3))).trans hx251_0; replace hx251_1 := (cell_far (p := ⟨gb242, 3, none⟩) (ab6_ hn251_3) (.int .i64 ((rd_T31 l0 a1).f3))).trans hx251_1; replace hx251_2 := (cell_far (p := ⟨gb242, 3, none⟩) (ab6_ hn251_3) (.int .i64 ((rd_T31 l0 a1).f3))).trans hx251_2; replace hx251_3 := (cell_far (p := ⟨gb242, 3, none⟩) (ab6_ hn251_3) (.int .i64 ((rd_T31 l0 a1).f3))).trans hx251_3; clear hn251_0; clear hn251_1; clear hn251_2; clear hn251_3; replace p251 := eq_true p251; replace q251 := eq_true q251) | ((with_reducible refine gate_callee (f := 132) rfl ?_); refine goesL_ (some 69) rfl rfl Try.func132 (by kernel_rfl) rfl #[.string ((rd_T31 l0 ((rd_T31 l0 a1).f2)).f1)] rfl z6_1 ?_; (with_reducible refine (spec_WithoutHead.calls k ((rd_T31 l0 ((rd_T31 l0 a1).f2)).f1) t252 _ A42.out).mono ?_); rintro e w' ⟨rfl, ⟨nd, rfl⟩⟩; refine ⟨_, rfl, ?_⟩))
             go_ret
             exact ⟨z6_7, z6_2⟩
            ·rw [if_neg c41] at H
             exact absurd H (by simp)
           ·rw [if_neg c40] at H
            exact absurd H (by simp)
          ·rw [if_neg c39] at H
           have c39b0 : (((rd_T31 l0 a1).f0) == 7) = false := beq_eq_false_iff_ne.mpr c39
           have c39b1 : (((rd_T31 l0 a1).f0) != 7) = true := bne_iff_ne.mpr c39
           by_cases c45 : ((rd_T31 l0 a1).f0) = 8
           ·rw [if_pos c45] at H
            have c45b0 : (((rd_T31 l0 a1).f0) == 8) = true := beq_iff_eq.mpr c45
            have c45b1 : (((rd_T31 l0 a1).f0) != 8) = false := bne_eq_false_iff_eq.mpr c45
            clear c45
            by_cases c46 : 0 ≤ ((rd_T31 l0 a1).f2)
            ·rw [if_pos c46] at H
             have c46b0 : decide (0 ≤ ((rd_T31 l0 a1).f2)) = true := decide_eq_true c46
             clear c46
             by_cases c47 : ((rd_T31 l0 a1).f2) < (l0.length : Int)
             ·rw [if_pos c47] at H
              have c47b0 : decide (((rd_T31 l0 a1).f2) < (l0.length : Int)) = true := decide_eq_true c47
              clear c47
              replace H := Option.bind_eq_some_iff.mp H
              obtain ⟨t254, A480, H⟩ := H
              replace H : (some (t254.toList == a2.toList)) = some r := H
              have A48 := Aside0.mk A480
              clear A480
              obtain rfl := Option.some.inj H
              have p241 : 0 ≤ (a1 : Int) := of_decide_eq_true z6_5
              have q241 : a1 < (l0.length : Int) := of_decide_eq_true z6_5
              obtain ⟨ad241, e241, hx241_0, hx241_1, hx241_2, hx241_3⟩ := at_T31 HR0.out a1 p241 q241
              cases e241
              replace p241 := eq_true p241
              replace q241 := eq_true q241
              go_enter Try.func104, Try.ntmps104
              go_wp2_with (first | ((with_reducible refine gate_dst (N := 7) rfl ?_); refine box_event ?hg (N := 7) ?hd (cs := #[.int .i64 0, .string (⟨#[]⟩ : ByteArray), .int .i64 0, .int .i64 0]) (t := 31) ?hr ?_; (case hd => rfl); (case hg => rfl); (case hr => first | (go_simp; done) | (go_simp; rfl)); intro gb242 hg w49 hbox hb; have n0_ := Aside0.mk (below_step z6_0 hb); have n1_ := Aside0.mk (hbox); have n2_ := Aside0.mk ((by rw [hg]; exact (below_size z6_0) : w.heap.size ≤ gb242)); have n3_ := Aside0.mk ((by rw [hg]; exact (below_size z6_0) : w.heap.size ≤ gb242)); clear HB; have HB := n0_; have BK242 := n1_; have GW242 := n2_; have GE242 := n3_; clear n0_ n1_ n2_ n3_; clear hb hbox hg; have hcz50_0 : w49.cell? ⟨gb242, 0, none⟩ = some (.int .i64 0) := (blk_cell BK242.out 0).trans rfl; have hcz50_1 : w49.cell? ⟨gb242, 1, none⟩ = some (.string (⟨#[]⟩ : ByteArray)) := (blk_cell BK242.out 1).trans rfl; have hcz50_2 : w49.cell? ⟨gb242, 2, none⟩ = some (.int .i64 0) := (blk_cell BK242.out 2).trans rfl; have hcz50_3 : w49.cell? ⟨gb242, 3, none⟩ = some (.int .i64 0) := (blk_cell BK242.out 3).trans rfl; have hfz50_0 := blk_frozen BK242.out 0; have hfz50_1 := blk_frozen BK242.out 1; have hfz50_2 := blk_frozen BK242.out 2; have hfz50_3 := blk_frozen BK242.out 3; have p253 : 0 ≤ (((rd_T31 l0 a1).f2) : Int) := of_decide_eq_true z6_5; have q253 : ((rd_T31 l0 a1).f2) < (l0.length : Int) := of_decide_eq_true z6_5; obtain ⟨ad253, e253, hx253_0, hx253_1, hx253_2, hx253_3⟩ := at_T31 HR0.out ((rd_T31 l0 a1).f2) p253 q253; obtain rfl : ad241 = ad253 := (by injection e253); have hn253_0 : ad241.block ≠ gb242 := Nat.ne_of_lt (Nat.lt_of_lt_of_le (bl6_ hx253_0) GW242.out); have hn253_1 : ad241.block ≠ gb242 := Nat.ne_of_lt (Nat.lt_of_lt_of_le (bl6_ hx253_0) GW242.out); have hn253_2 : ad241.block ≠ gb242 := Nat.ne_of_lt (Nat.lt_of_lt_of_le (bl6_ hx253_0) GW242.out); have hn253_3 : ad241.block ≠ gb242 := Nat.ne_of_lt (Nat.lt_of_lt_of_le (bl6_ hx253_0) GW242.out); replace hx253_0 := (HB.out.cell (World.block_lt_of_cell? w _ hx253_0)).trans hx253_0; replace hx253_1 := (HB.out.cell (World.block_lt_of_cell? w _ hx253_1)).trans hx253_1; replace hx253_2 := (HB.out.cell (World.block_lt_of_cell? w _ hx253_2)).trans hx253_2; replace hx253_3 := (HB.out.cell (World.block_lt_of_cell? w _ hx253_3)).trans hx253_3; replace hx253_0 := (cell_far (p := ⟨gb242, 0, none⟩) (ab6_ hn253_0) (.int .i64 ((rd_T31 l0 a1).f0))).trans hx253_0; replace hx253_1 := (cell_far (p := ⟨gb242, 0, none⟩) (ab6_ hn253_0) (.int .i64 ((rd_T31 l0 a1).f0))).trans hx253_1; replace hx253_2 := (cell_far (p := ⟨gb242, 0, none⟩) (ab6_ hn253_0) (.int .i64 ((rd_T31 l0 a1).f0))).trans hx253_2; replace hx253_3 := (cell_far (p := ⟨gb242, 0, none⟩) (ab6_ hn253_0) (.int .i64 ((rd_T31 l0 a1).f0))).trans hx253_3; replace hx253_0 := (cell_far (p := ⟨gb242, 1, none⟩) (ab6_ hn253_1) (.string ((rd_T31 l0 a1).f1))).trans hx253_0; replace hx253_1 := (cell_far (p := ⟨gb242, 1, none⟩) (ab6_ hn253_1) (.string ((rd_T31 l0 a1).f1))).trans hx253_1; replace hx253_2 := (cell_far (p := ⟨gb242, 1, none⟩) (ab6_ hn253_1) (.string ((rd_T31 l0 a1).f1))).trans hx253_2; replace hx253_3 := (cell_far (p := ⟨gb242, 1, none⟩) (ab6_ hn253_1) (.string ((rd_T31 l0 a1).f1))).trans hx253_3; replace hx253_0 := (cell_far (p := ⟨gb242, 2, none⟩) (ab6_ hn253_2) (.int .i64 ((rd_T31 l0 a1).f2))).trans hx253_0; replace hx253_1 := (cell_far (p := ⟨gb242, 2, none⟩) (ab6_ hn253_2) (.int .i64 ((rd_T31 l0 a1).f2))).trans hx253_1; replace hx253_2 := (cell_far (p := ⟨gb242, 2, none⟩) (ab6_ hn253_2) (.int .i64 ((rd_T31 l0 a1).f2))).trans hx253_2; replace hx253_3 := (cell_far (p := ⟨gb242, 2, none⟩) (ab6_ hn253_2) (.int .i64 ((rd_T31 l0 a1).f2))).trans hx253_3; replace hx253_0 := (cell_far (p := ⟨gb242, 3, none⟩) (ab6_ hn253_3) (.int .i64 ((rd_T31 l0 a1).f3))).trans hx253_0; replace hx253_1 := (cell_far (p := ⟨gb242, 3, none⟩) (ab6_ hn253_3) (.int .i64 ((rd_T31 l0 a1).f3))).trans hx253_1; replace hx253_2 := (cell_far (p := ⟨gb242, 3, none⟩) (ab6_ hn253_3) (.int .i64 ((rd_T31 l0 a1).f3))).trans hx253_2; replace hx253_3 := (cell_far (p := ⟨gb242, 3, none⟩) (ab6_ hn253_3) (.int .i64 ((rd_T31 l0 a1).f3))).trans hx253_3; clear hn253_0; clear hn253_1; clear hn253_2; clear hn253_3; replace p253 := eq_true p253; replace q253 := eq_true q253) | ((with_reducible refine gate_callee (f := 133) rfl ?_); refine goesL_ (some 80) rfl rfl Try.func133 (by kernel_rfl) rfl #[.string ((rd_T31 l0 ((rd_T31 l0 a1).f2)).f1)] rfl z6_1 ?_; (with_reducible refine (spec_WithoutTail.calls k ((rd_T31 l0 ((rd_T31 l0 a1).f2)).f1) t254 _ A48.out).mono ?_); rintro e w' ⟨rfl, ⟨nd, rfl⟩⟩; refine ⟨_, rfl, ?_⟩))
              go_ret
              exact ⟨z6_7, z6_2⟩
             ·rw [if_neg c47] at H
              exact absurd H (by simp)
            ·rw [if_neg c46] at H
             exact absurd H (by simp)
           ·rw [if_neg c45] at H
            have c45b0 : (((rd_T31 l0 a1).f0) == 8) = false := beq_eq_false_iff_ne.mpr c45
            have c45b1 : (((rd_T31 l0 a1).f0) != 8) = true := bne_iff_ne.mpr c45
            by_cases c51 : 0 ≤ ((rd_T31 l0 a1).f2)
            ·rw [if_pos c51] at H
             have c51b0 : decide (0 ≤ ((rd_T31 l0 a1).f2)) = true := decide_eq_true c51
             clear c51
             by_cases c52 : ((rd_T31 l0 a1).f2) < (l0.length : Int)
             ·rw [if_pos c52] at H
              have c52b0 : decide (((rd_T31 l0 a1).f2) < (l0.length : Int)) = true := decide_eq_true c52
              clear c52
              replace H := Option.bind_eq_some_iff.mp H
              obtain ⟨t256, A530, H⟩ := H
              replace H : (some t256) = some r := H
              have A53 := Aside0.mk A530
              clear A530
              obtain rfl := Option.some.inj H
              have p241 : 0 ≤ (a1 : Int) := of_decide_eq_true z6_5
              have q241 : a1 < (l0.length : Int) := of_decide_eq_true z6_5
              obtain ⟨ad241, e241, hx241_0, hx241_1, hx241_2, hx241_3⟩ := at_T31 HR0.out a1 p241 q241
              cases e241
              replace p241 := eq_true p241
              replace q241 := eq_true q241
              go_enter Try.func104, Try.ntmps104
              go_wp2_with (first | ((with_reducible refine gate_dst (N := 7) rfl ?_); refine box_event ?hg (N := 7) ?hd (cs := #[.int .i64 0, .string (⟨#[]⟩ : ByteArray), .int .i64 0, .int .i64 0]) (t := 31) ?hr ?_; (case hd => rfl); (case hg => rfl); (case hr => first | (go_simp; done) | (go_simp; rfl)); intro gb242 hg w54 hbox hb; have n0_ := Aside0.mk (below_step z6_0 hb); have n1_ := Aside0.mk (hbox); have n2_ := Aside0.mk ((by rw [hg]; exact (below_size z6_0) : w.heap.size ≤ gb242)); have n3_ := Aside0.mk ((by rw [hg]; exact (below_size z6_0) : w.heap.size ≤ gb242)); clear HB; have HB := n0_; have BK242 := n1_; have GW242 := n2_; have GE242 := n3_; clear n0_ n1_ n2_ n3_; clear hb hbox hg; have hcz55_0 : w54.cell? ⟨gb242, 0, none⟩ = some (.int .i64 0) := (blk_cell BK242.out 0).trans rfl; have hcz55_1 : w54.cell? ⟨gb242, 1, none⟩ = some (.string (⟨#[]⟩ : ByteArray)) := (blk_cell BK242.out 1).trans rfl; have hcz55_2 : w54.cell? ⟨gb242, 2, none⟩ = some (.int .i64 0) := (blk_cell BK242.out 2).trans rfl; have hcz55_3 : w54.cell? ⟨gb242, 3, none⟩ = some (.int .i64 0) := (blk_cell BK242.out 3).trans rfl; have hfz55_0 := blk_frozen BK242.out 0; have hfz55_1 := blk_frozen BK242.out 1; have hfz55_2 := blk_frozen BK242.out 2; have hfz55_3 := blk_frozen BK242.out 3; have p255 : 0 ≤ (((rd_T31 l0 a1).f2) : Int) := of_decide_eq_true z6_5; have q255 : ((rd_T31 l0 a1).f2) < (l0.length : Int) := of_decide_eq_true z6_5; obtain ⟨ad255, e255, hx255_0, hx255_1, hx255_2, hx255_3⟩ := at_T31 HR0.out ((rd_T31 l0 a1).f2) p255 q255; obtain rfl : ad241 = ad255 := (by injection e255); have hn255_0 : ad241.block ≠ gb242 := Nat.ne_of_lt (Nat.lt_of_lt_of_le (bl6_ hx255_0) GW242.out); have hn255_1 : ad241.block ≠ gb242 := Nat.ne_of_lt (Nat.lt_of_lt_of_le (bl6_ hx255_0) GW242.out); have hn255_2 : ad241.block ≠ gb242 := Nat.ne_of_lt (Nat.lt_of_lt_of_le (bl6_ hx255_0) GW242.out); have hn255_3 : ad241.block ≠ gb242 := Nat.ne_of_lt (Nat.lt_of_lt_of_le (bl6_ hx255_0) GW242.out); replace hx255_0 := (HB.out.cell (World.block_lt_of_cell? w _ hx255_0)).trans hx255_0; replace hx255_1 := (HB.out.cell (World.block_lt_of_cell? w _ hx255_1)).trans hx255_1; replace hx255_2 := (HB.out.cell (World.block_lt_of_cell? w _ hx255_2)).trans hx255_2; replace hx255_3 := (HB.out.cell (World.block_lt_of_cell? w _ hx255_3)).trans hx255_3; replace hx255_0 := (cell_far (p := ⟨gb242, 0, none⟩) (ab6_ hn255_0) (.int .i64 ((rd_T31 l0 a1).f0))).trans hx255_0; replace hx255_1 := (cell_far (p := ⟨gb242, 0, none⟩) (ab6_ hn255_0) (.int .i64 ((rd_T31 l0 a1).f0))).trans hx255_1; replace hx255_2 := (cell_far (p := ⟨gb242, 0, none⟩) (ab6_ hn255_0) (.int .i64 ((rd_T31 l0 a1).f0))).trans hx255_2; replace hx255_3 := (cell_far (p := ⟨gb242, 0, none⟩) (ab6_ hn255_0) (.int .i64 ((rd_T31 l0 a1).f0))).trans hx255_3; replace hx255_0 := (cell_far (p := ⟨gb242, 1, none⟩) (ab6_ hn255_1) (.string ((rd_T31 l0 a1).f1))).trans hx255_0; replace hx255_1 := (cell_far (p := ⟨gb242, 1, none⟩) (ab6_ hn255_1) (.string ((rd_T31 l0 a1).f1))).trans hx255_1; replace hx255_2 := (cell_far (p := ⟨gb242, 1, none⟩) (ab6_ hn255_1) (.string ((rd_T31 l0 a1).f1))).trans hx255_2; replace hx255_3 := (cell_far (p := ⟨gb242, 1, none⟩) (ab6_ hn255_1) (.string ((rd_T31 l0 a1).f1))).trans hx255_3; replace hx255_0 := (cell_far (p := ⟨gb242, 2, none⟩) (ab6_ hn255_2) (.int .i64 ((rd_T31 l0 a1).f2))).trans hx255_0; replace hx255_1 := (cell_far (p := ⟨gb242, 2, none⟩) (ab6_ hn255_2) (.int .i64 ((rd_T31 l0 a1).f2))).trans hx255_1; replace hx255_2 := (cell_far (p := ⟨gb242, 2, none⟩) (ab6_ hn255_2) (.int .i64 ((rd_T31 l0 a1).f2))).trans hx255_2; replace hx255_3 := (cell_far (p := ⟨gb242, 2, none⟩) (ab6_ hn255_2) (.int .i64 ((rd_T31 l0 a1).f2))).trans hx255_3; replace hx255_0 := (cell_far (p := ⟨gb242, 3, none⟩) (ab6_ hn255_3) (.int .i64 ((rd_T31 l0 a1).f3))).trans hx255_0; replace hx255_1 := (cell_far (p := ⟨gb242, 3, none⟩) (ab6_ hn255_3) (.int .i64 ((rd_T31 l0 a1).f3))).trans hx255_1; replace hx255_2 := (cell_far (p := ⟨gb242, 3, none⟩) (ab6_ hn255_3) (.int .i64 ((rd_T31 l0 a1).f3))).trans hx255_2; replace hx255_3 := (cell_far (p := ⟨gb242, 3, none⟩) (ab6_ hn255_3) (.int .i64 ((rd_T31 l0 a1).f3))).trans hx255_3; clear hn255_0; clear hn255_1; clear hn255_2; clear hn255_3; replace p255 := eq_true p255; replace q255 := eq_true q255) | ((with_reducible refine gate_callee (f := 134) rfl ?_); refine goesL_ (some 90) rfl rfl Try.func134 (by kernel_rfl) rfl #[.string a2, .string ((rd_T31 l0 ((rd_T31 l0 a1).f2)).f1)] rfl z6_1 ?_; (with_reducible refine (spec_IsInside.calls k a2 ((rd_T31 l0 ((rd_T31 l0 a1).f2)).f1) t256 _ A53.out).mono ?_); rintro e w' ⟨rfl, ⟨nd, rfl⟩⟩; refine ⟨_, rfl, ?_⟩))
              go_ret
              exact ⟨z6_7, z6_2⟩
             ·rw [if_neg c52] at H
              exact absurd H (by simp)
            ·rw [if_neg c51] at H
             exact absurd H (by simp)
   ·rw [if_neg c5] at H
    exact absurd H (by simp)
  ·rw [if_neg c4] at H
   exact absurd H (by simp)



end Go.Proofs.Ytodcckiphdnjeab.QFnPlays
