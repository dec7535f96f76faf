-- Written by a changed copy of the kit's printer (wip/mp.py of this repo), for this claim; Lean checks it.
import Derived.Test.YtodcckiphdnjeabQFnPlaysx0
import Derived.Test.YtodcckiphdnjeabQFnPlaysx1
namespace Go.Proofs.Ytodcckiphdnjeab.QFnPlays
open Go.RowKit Go.Proofs.YtodcckiphdnjeabW.PrintWords Go.Proofs.YtodcckiphdnjeabW.PrintLast Go.Proofs.YtodcckiphdnjeabW.PrintMore
attribute [local go_sem] max2_int min2_int max_two min_two max_three min_three max_four min_four   -- for this text's walks alone
set_option linter.unusedVariables false
set_option linter.unusedSimpArgs false

theorem bd2_ {p q : Prop} (h0 : q) (h : q → p := by intro h_; (with_reducible repeat (first | refine blk_drewN ?_ _ | refine blk_drew ?_ | refine blk_alloc ?_ _)); exact h_) : p := h h0
theorem kd2_ {p q : Prop} (h0 : q) (h : q → p := by intro h_; (with_reducible repeat (first | apply Kd.R_alloc | apply Kd.R_drewN | apply Kd.R_drew)); exact h_) : p := h h0
theorem z2_0 {p : Prop} (h : p := by repeat (first | (with_reducible first | exact HK.out | apply KeepBut.set_ | apply keep_drewN | apply keep_drew | apply keep_alloc | refine keep_far ?_ GW142.out _ | refine keep_far ?_ GW146.out _) | exact HK.out)) : p := h
theorem z2_1 {p : Prop} (h : p := by repeat (first | (with_reducible first | exact HI0.out | apply IsS98.alloc | apply IsS98.drewN | apply IsS98.drew | apply IsS98.set_1 | apply IsS98.set_2 | refine IsS98.far ?_ NB0_142.out _ | refine IsS98.far ?_ NB0_146.out _) | exact HI0.out)) : p := h
theorem z2_2 {p : Prop} (h : p := by repeat (first | (with_reducible first | exact HB.out | apply below_alloc | apply pw_below_drewN | apply below_drew1 | refine below_set ?_ (IsS98.ge HI0.out) | refine below_set ?_ GE142.out | refine below_set ?_ GE146.out) | exact HB.out)) : p := h
theorem z2_3 {p : Prop} (h : p := by repeat (first | (with_reducible first | exact HK.out | apply KeepBut.set_ | apply keep_drewN | apply keep_drew | apply keep_alloc) | exact HK.out)) : p := h
theorem z2_4 {p : Prop} (h : p := by (with_reducible repeat (first | refine blk_drewN ?_ _ | refine blk_drew ?_ | refine blk_alloc ?_ _)); refine blk_far ?_ NB142_146.out _; (with_reducible repeat (first | refine blk_drewN ?_ _ | refine blk_drew ?_ | refine blk_alloc ?_ _)); exact BK142.out) : p := h
theorem z2_5 {p : Prop} (h : p := by (with_reducible repeat (first | refine blk_drewN ?_ _ | refine blk_drew ?_ | refine blk_alloc ?_ _)); refine blk_put (cs := #[.int .i64 (wrap64 (1 + t143)), .string (⟨#[]⟩ : ByteArray), .int .i64 0, .int .i64 0]) ?_ 3 _ rfl; (with_reducible repeat (first | refine blk_drewN ?_ _ | refine blk_drew ?_ | refine blk_alloc ?_ _)); refine blk_put (cs := #[.int .i64 (wrap64 (1 + t143)), .string (⟨#[]⟩ : ByteArray), .int .i64 0, .int .i64 0]) ?_ 2 _ rfl; (with_reducible repeat (first | refine blk_drewN ?_ _ | refine blk_drew ?_ | refine blk_alloc ?_ _)); refine blk_put (cs := #[.int .i64 (wrap64 (1 + t143)), .string (⟨#[]⟩ : ByteArray), .int .i64 0, .int .i64 0]) ?_ 1 _ rfl; (with_reducible repeat (first | refine blk_drewN ?_ _ | refine blk_drew ?_ | refine blk_alloc ?_ _)); refine blk_put (cs := #[.int .i64 0, .string (⟨#[]⟩ : ByteArray), .int .i64 0, .int .i64 0]) ?_ 0 _ rfl; (with_reducible repeat (first | refine blk_drewN ?_ _ | refine blk_drew ?_ | refine blk_alloc ?_ _)); exact BK146.out) : p := h
theorem z2_6 {p : Prop} (h : p := by (with_reducible repeat (first | refine blk_drewN ?_ _ | refine blk_drew ?_ | refine blk_alloc ?_ _)); refine blk_put (cs := #[.int .i64 x147000_13, .string (⟨#[]⟩ : ByteArray), .int .i64 x147002_4, .int .i64 0]) ?_ 3 _ rfl; (with_reducible repeat (first | refine blk_drewN ?_ _ | refine blk_drew ?_ | refine blk_alloc ?_ _)); refine blk_put (cs := #[.int .i64 x147000_13, .string (⟨#[]⟩ : ByteArray), .int .i64 0, .int .i64 0]) ?_ 2 _ rfl; (with_reducible repeat (first | refine blk_drewN ?_ _ | refine blk_drew ?_ | refine blk_alloc ?_ _)); refine blk_put (cs := #[.int .i64 x147000_13, .string (⟨#[]⟩ : ByteArray), .int .i64 0, .int .i64 0]) ?_ 1 _ rfl; (with_reducible repeat (first | refine blk_drewN ?_ _ | refine blk_drew ?_ | refine blk_alloc ?_ _)); refine blk_put (cs := #[.int .i64 0, .string (⟨#[]⟩ : ByteArray), .int .i64 0, .int .i64 0]) ?_ 0 _ rfl; (with_reducible repeat (first | refine blk_drewN ?_ _ | refine blk_drew ?_ | refine blk_alloc ?_ _)); exact BK142.out) : p := h
theorem z2_7 {p : Prop} (h : p := by repeat (first | (with_reducible first | exact HB.out | apply below_alloc | apply pw_below_drewN | apply below_drew1 | refine below_set ?_ (IsS98.ge HI0.out)) | exact HB.out)) : p := h
theorem z2_8 {p : Prop} (h : p := by repeat (first | (with_reducible first | exact HI0.out | apply IsS98.alloc | apply IsS98.drewN | apply IsS98.drew | apply IsS98.set_1 | apply IsS98.set_2) | exact HI0.out)) : p := h
theorem z2_9 {p : Prop} (h : p := by (try simp only [List.map_toArray, List.map_cons, List.map_nil]); first | done | rfl | (simp only [List.length_drop, List.length_take]; rfl)) : p := h
theorem z2_10 {p : Prop} (h : p := by (with_reducible repeat (first | refine blk_drewN ?_ _ | refine blk_drew ?_ | refine blk_alloc ?_ _)); refine blk_far ?_ NB142_146.out _; (with_reducible repeat (first | refine blk_drewN ?_ _ | refine blk_drew ?_ | refine blk_alloc ?_ _)); refine blk_far ?_ NB142_146.out _; (with_reducible repeat (first | refine blk_drewN ?_ _ | refine blk_drew ?_ | refine blk_alloc ?_ _)); refine blk_far ?_ NB142_146.out _; (with_reducible repeat (first | refine blk_drewN ?_ _ | refine blk_drew ?_ | refine blk_alloc ?_ _)); refine blk_far ?_ NB142_146.out _; (with_reducible repeat (first | refine blk_drewN ?_ _ | refine blk_drew ?_ | refine blk_alloc ?_ _)); exact BK142.out) : p := h
theorem z2_11 {p : Prop} (h : p := by repeat (first | (with_reducible first | exact HK.out | apply KeepBut.set_ | apply keep_drewN | apply keep_drew | apply keep_alloc | refine keep_far ?_ GW142.out _) | exact HK.out)) : p := h
/-! ### spec_l15Step: function 98 -/
mutual
def spec_l15Step.j0 : Nat → List (S31) → Bool → List Int → Int → Int → Int → ByteArray → Int → Int → Option (Int × ByteArray × Int × Int × Int × Int)
  | 0, _, _, _, _, _, _, _, _, _ => none
  | k + 1, x1, x16, x1000, x1001, x1002, x147000, x147001, x147002, x147003 => if x16 = true then (spec_l15Step.j1 k x1 x1000 x1001 x1002 1 x147001 x147002 x147003) else (spec_l15Step.j1 k x1 x1000 x1001 x1002 x147000 x147001 x147002 x147003)
def spec_l15Step.j1 : Nat → List (S31) → List Int → Int → Int → Int → ByteArray → Int → Int → Option (Int × ByteArray × Int × Int × Int × Int)
  | 0, _, _, _, _, _, _, _, _ => none
  | k + 1, x1, x1000, x1001, x1002, x147000, x147001, x147002, x147003 => if x147000 = 1 then ((spec_l4Word.f x1000 x1001 x1002).bind fun bt150 => ((spec_l1Str.f x1000 bt150.2.1 bt150.2.2 (([bt150.1, (⟨#[114]⟩ : ByteArray), (⟨#[115]⟩ : ByteArray), (⟨#[97, 116]⟩ : ByteArray), (⟨#[101, 97]⟩ : ByteArray)] : List ByteArray))).bind fun bt156 => (some (x147000, bt156.1, x147002, x147003, bt156.2.1, bt156.2.2)))) else (if x147000 = 4 then (spec_l15Step.j2 k x1 true x1000 x1001 x1002 x147000 x147001 (wrap64 ((x1.length : Int) - 1)) x147003) else (spec_l15Step.j2 k x1 (x147000 == 5) x1000 x1001 x1002 x147000 x147001 (wrap64 ((x1.length : Int) - 1)) x147003))
def spec_l15Step.j2 : Nat → List (S31) → Bool → List Int → Int → Int → Int → ByteArray → Int → Int → Option (Int × ByteArray × Int × Int × Int × Int)
  | 0, _, _, _, _, _, _, _, _, _ => none
  | k + 1, x1, x39, x1000, x1001, x1002, x147000, x147001, x147002, x147003 => if x39 = true then ((spec_l1Below.f x1000 x1001 x1002 (x1.length : Int)).bind fun bt159 => ((spec_l1Below.f x1000 bt159.2.1 bt159.2.2 (x1.length : Int)).bind fun bt162 => (some (x147000, x147001, bt159.1, bt162.1, bt162.2.1, bt162.2.2)))) else (spec_l15Step.l0 k x1 x1000 x1001 x1002 x147000 x147001 x147002 x147003)
def spec_l15Step.l0 : Nat → List (S31) → List Int → Int → Int → Int → ByteArray → Int → Int → Option (Int × ByteArray × Int × Int × Int × Int)
  | 0, _, _, _, _, _, _, _, _ => none
  | k + 1, x1, x1000, x1001, x1002, x147000, x147001, x147002, x147003 => if x147000 = 2 then (some (x147000, x147001, x147002, x147003, x1001, x1002)) else (if 0 ≤ x147002 then (if x147002 < (x1.length : Int) then (if ((rd_T31 x1 x147002).f0) = 1 then (some (x147000, x147001, x147002, x147003, x1001, x1002)) else (spec_l15Step.l0 k x1 x1000 x1001 x1002 x147000 x147001 (wrap64 (x147002 - 1)) x147003)) else (none)) else (none))
end
def spec_l15Step.f (k : Nat) (s0_0 : List Int) (s0_1 : Int) (s0_2 : Int) (l1 : List (S31)) : Option (Int × ByteArray × Int × Int × Int × Int) := (spec_l1Below.f s0_0 s0_1 s0_2 9).bind fun bt143 => (if (l1.length : Int) = 0 then (spec_l15Step.j0 k l1 true s0_0 bt143.2.1 bt143.2.2 (wrap64 (1 + bt143.1)) (⟨#[]⟩ : ByteArray) 0 0) else ((spec_l1Once.f s0_0 bt143.2.1 bt143.2.2 3).bind fun bt147 => (spec_l15Step.j0 k l1 bt147.1 s0_0 bt147.2.1 bt147.2.2 (wrap64 (1 + bt143.1)) (⟨#[]⟩ : ByteArray) 0 0)))
theorem spec_l15Step.mono_l : ∀ k, (∀ y0 y1 y2 y3 y4 y5 y6 y7 y8, LeO (spec_l15Step.j0 k y0 y1 y2 y3 y4 y5 y6 y7 y8) (spec_l15Step.j0 (k + 1) y0 y1 y2 y3 y4 y5 y6 y7 y8)) ∧ (∀ y0 y1 y2 y3 y4 y5 y6 y7, LeO (spec_l15Step.j1 k y0 y1 y2 y3 y4 y5 y6 y7) (spec_l15Step.j1 (k + 1) y0 y1 y2 y3 y4 y5 y6 y7)) ∧ (∀ y0 y1 y2 y3 y4 y5 y6 y7 y8, LeO (spec_l15Step.j2 k y0 y1 y2 y3 y4 y5 y6 y7 y8) (spec_l15Step.j2 (k + 1) y0 y1 y2 y3 y4 y5 y6 y7 y8)) ∧ (∀ y0 y1 y2 y3 y4 y5 y6 y7, LeO (spec_l15Step.l0 k y0 y1 y2 y3 y4 y5 y6 y7) (spec_l15Step.l0 (k + 1) y0 y1 y2 y3 y4 y5 y6 y7))
  | 0 => ⟨fun _ _ _ _ _ _ _ _ _ r h => by simp [spec_l15Step.j0] at h, fun _ _ _ _ _ _ _ _ r h => by simp [spec_l15Step.j1] at h, fun _ _ _ _ _ _ _ _ _ r h => by simp [spec_l15Step.j2] at h, fun _ _ _ _ _ _ _ _ r h => by simp [spec_l15Step.l0] at h⟩
  | k + 1 => by
   obtain ⟨ih0, ih1, ih2, ih3⟩ := spec_l15Step.mono_l k
   refine ⟨?_, ?_, ?_, ?_⟩
   ·intro y0 y1 y2 y3 y4 y5 y6 y7 y8
    unfold spec_l15Step.j0
    repeat' first
    | (with_reducible exact ih0 _ _ _ _ _ _ _ _ _)
    | (with_reducible exact ih1 _ _ _ _ _ _ _ _)
    | (with_reducible exact ih2 _ _ _ _ _ _ _ _ _)
    | (with_reducible exact ih3 _ _ _ _ _ _ _ _)
    | (with_reducible exact LeO.refl _)
    | (with_reducible exact LeO.none _)
    | (with_reducible refine LeO.ite ?_ ?_)
    | (with_reducible refine LeO.bind ?_ (fun _ => ?_))
    | exact ih0 _ _ _ _ _ _ _ _ _
    | exact ih1 _ _ _ _ _ _ _ _
    | exact ih2 _ _ _ _ _ _ _ _ _
    | exact ih3 _ _ _ _ _ _ _ _
    | exact LeO.none _
    | refine LeO.ite ?_ ?_
    | refine LeO.bind ?_ (fun _ => ?_)
   ·intro y0 y1 y2 y3 y4 y5 y6 y7
    unfold spec_l15Step.j1
    repeat' first
    | (with_reducible exact ih0 _ _ _ _ _ _ _ _ _)
    | (with_reducible exact ih1 _ _ _ _ _ _ _ _)
    | (with_reducible exact ih2 _ _ _ _ _ _ _ _ _)
    | (with_reducible exact ih3 _ _ _ _ _ _ _ _)
    | (with_reducible exact LeO.refl _)
    | (with_reducible exact LeO.none _)
    | (with_reducible refine LeO.ite ?_ ?_)
    | (with_reducible refine LeO.bind ?_ (fun _ => ?_))
    | exact ih0 _ _ _ _ _ _ _ _ _
    | exact ih1 _ _ _ _ _ _ _ _
    | exact ih2 _ _ _ _ _ _ _ _ _
    | exact ih3 _ _ _ _ _ _ _ _
    | exact LeO.none _
    | refine LeO.ite ?_ ?_
    | refine LeO.bind ?_ (fun _ => ?_)
   ·intro y0 y1 y2 y3 y4 y5 y6 y7 y8
    unfold spec_l15Step.j2
    repeat' first
    | (with_reducible exact ih0 _ _ _ _ _ _ _ _ _)
    | (with_reducible exact ih1 _ _ _ _ _ _ _ _)
    | (with_reducible exact ih2 _ _ _ _ _ _ _ _ _)
    | (with_reducible exact ih3 _ _ _ _ _ _ _ _)
    | (with_reducible exact LeO.refl _)
    | (with_reducible exact LeO.none _)
    | (with_reducible refine LeO.ite ?_ ?_)
    | (with_reducible refine LeO.bind ?_ (fun _ => ?_))
    | exact ih0 _ _ _ _ _ _ _ _ _
    | exact ih1 _ _ _ _ _ _ _ _
    | exact ih2 _ _ _ _ _ _ _ _ _
    | exact ih3 _ _ _ _ _ _ _ _
    | exact LeO.none _
    | refine LeO.ite ?_ ?_
    | refine LeO.bind ?_ (fun _ => ?_)
   ·intro y0 y1 y2 y3 y4 y5 y6 y7
    unfold spec_l15Step.l0
    repeat' first
    | (with_reducible exact ih0 _ _ _ _ _ _ _ _ _)
    | (with_reducible exact ih1 _ _ _ _ _ _ _ _)
    | (with_reducible exact ih2 _ _ _ _ _ _ _ _ _)
    | (with_reducible exact ih3 _ _ _ _ _ _ _ _)
    | (with_reducible exact LeO.refl _)
    | (with_reducible exact LeO.none _)
    | (with_reducible refine LeO.ite ?_ ?_)
    | (with_reducible refine LeO.bind ?_ (fun _ => ?_))
    | exact ih0 _ _ _ _ _ _ _ _ _
    | exact ih1 _ _ _ _ _ _ _ _
    | exact ih2 _ _ _ _ _ _ _ _ _
    | exact ih3 _ _ _ _ _ _ _ _
    | exact LeO.none _
    | refine LeO.ite ?_ ?_
    | refine LeO.bind ?_ (fun _ => ?_)
theorem spec_l15Step.mono : ∀ a0 a1 a2 a3 k, LeO (spec_l15Step.f k a0 a1 a2 a3) (spec_l15Step.f (k + 1) a0 a1 a2 a3) := by
  intro a0 a1 a2 a3 k
  obtain ⟨ih0, ih1, ih2, ih3⟩ := spec_l15Step.mono_l k
  unfold spec_l15Step.f
  repeat' first
    | (with_reducible exact ih0 _ _ _ _ _ _ _ _ _)
    | (with_reducible exact ih1 _ _ _ _ _ _ _ _)
    | (with_reducible exact ih2 _ _ _ _ _ _ _ _ _)
    | (with_reducible exact ih3 _ _ _ _ _ _ _ _)
    | (with_reducible exact LeO.refl _)
    | (with_reducible exact LeO.none _)
    | (with_reducible refine LeO.ite ?_ ?_)
    | (with_reducible refine LeO.bind ?_ (fun _ => ?_))
    | exact ih0 _ _ _ _ _ _ _ _ _
    | exact ih1 _ _ _ _ _ _ _ _
    | exact ih2 _ _ _ _ _ _ _ _ _
    | exact ih3 _ _ _ _ _ _ _ _
    | exact LeO.none _
    | refine LeO.ite ?_ ?_
    | refine LeO.bind ?_ (fun _ => ?_)
set_option maxHeartbeats 8000000 in
set_option maxRecDepth 100000 in
theorem spec_l15Step.calls (k : Nat) (g : Nat) (s0_0 : List Int) (s0_1 : Int) (s0_2 : Int) (A1 : Option Addr) (c1 : Nat) (l1 : List (S31)) (r1 : Int) (r2 : ByteArray) (r3 : Int) (r4 : Int) (r5 : Int) (r6 : Int) (w0 w : World) (hI : IsS98 w0 w g s0_0 s0_1 s0_2) (hB : Below w0.heap.size w0 w) (hr1 : ∀ W_, KeepBut w W_ g none → Kd.C k31 W_ A1 l1.length l1) (hc1 : l1.length ≤ c1) (h : spec_l15Step.f k s0_0 s0_1 s0_2 l1 = some (r1, r2, r3, r4, r5, r6)) :
   Calls Try.prog 98 #[.pointer (some ⟨g, 0, none⟩), .slice A1 l1.length c1] w fun e w' => e = .returned (.agg #[.int .i64 r1, .string r2, .int .i64 r3, .int .i64 r4]) ∧ IsS98 w0 w' g s0_0 r5 r6 ∧ Below w0.heap.size w0 w' ∧ KeepBut w w' g none := by
  have hu31 := Try.underlying31
  have HR1 := Aside0.mk hr1
  have HC1 := Aside0.mk hc1
  clear hr1 hc1
  have HI0 := Aside0.mk hI
  have HK := Aside0.mk (KeepBut.refl w g none)
  have HL := Aside0.mk hB.size
  clear hI
  have HW0 := Aside0.mk hB.size
  have HB := Aside0.mk hB
  clear hB
  have H : ((spec_l1Below.f s0_0 s0_1 s0_2 9).bind fun bt143 => (if (l1.length : Int) = 0 then (spec_l15Step.j0 k l1 true s0_0 bt143.2.1 bt143.2.2 (wrap64 (1 + bt143.1)) (⟨#[]⟩ : ByteArray) 0 0) else ((spec_l1Once.f s0_0 bt143.2.1 bt143.2.2 3).bind fun bt147 => (spec_l15Step.j0 k l1 bt147.1 s0_0 bt147.2.1 bt147.2.2 (wrap64 (1 + bt143.1)) (⟨#[]⟩ : ByteArray) 0 0)))) = some (r1, r2, r3, r4, r5, r6) := h
  clear h
  replace H := Option.bind_eq_some_iff.mp H
  obtain ⟨⟨t143, t144, t145⟩, A30, H⟩ := H
  replace H : (if (l1.length : Int) = 0 then (spec_l15Step.j0 k l1 true s0_0 t144 t145 (wrap64 (1 + t143)) (⟨#[]⟩ : ByteArray) 0 0) else ((spec_l1Once.f s0_0 t144 t145 3).bind fun bt147 => (spec_l15Step.j0 k l1 bt147.1 s0_0 bt147.2.1 bt147.2.2 (wrap64 (1 + t143)) (⟨#[]⟩ : ByteArray) 0 0))) = some (r1, r2, r3, r4, r5, r6) := H
  have A3 := Aside0.mk A30
  clear A30
  have HC4 := Aside0.mk H
  clear H
  go_enter Try.func98, Try.ntmps98
  go_upto_region 2 with (first | ((with_reducible refine gate_dst (N := 4) rfl ?_); refine box_event ?hg (N := 4) ?hd (cs := #[.int .i64 0, .string (⟨#[]⟩ : ByteArray), .int .i64 0, .int .i64 0]) (t := 31) ?hr ?_; (case hd => rfl); (case hg => rfl); (case hr => first | (go_simp; done) | (go_simp; rfl)); intro gb142 hg w5 hbox hb; have n0_ := Aside0.mk (IsS98.below z2_8 hb); have n1_ := Aside0.mk (KeepBut.trans z2_3 (KeepBut.of_below hb g none) (.inl rfl)); have n2_ := Aside0.mk (below_step z2_7 hb); have n3_ := Aside0.mk (hbox); have n4_ := Aside0.mk ((by rw [hg]; exact (keep_size (w := w) (g := g) (row := none) z2_3) : w.heap.size ≤ gb142)); have n5_ := Aside0.mk ((Nat.le_trans HW0.out (by rw [hg]; exact (keep_size (w := w) (g := g) (row := none) z2_3) : w.heap.size ≤ gb142) : w0.heap.size ≤ gb142)); have n6_ := Aside0.mk ((by rw [hg]; exact Nat.ne_of_lt (IsS98.lt (show IsS98 w0 _ g s0_0 s0_1 s0_2 from by repeat (first | (with_reducible first | exact HI0.out | apply IsS98.alloc | apply IsS98.drewN | apply IsS98.drew | apply IsS98.set_1 | apply IsS98.set_2) | exact HI0.out))) : g ≠ gb142)); have n7_ := Aside0.mk ((by rw [hg]; exact Nat.ne_of_gt (IsS98.lt (show IsS98 w0 _ g s0_0 s0_1 s0_2 from by repeat (first | (with_reducible first | exact HI0.out | apply IsS98.alloc | apply IsS98.drewN | apply IsS98.drew | apply IsS98.set_1 | apply IsS98.set_2) | exact HI0.out))) : gb142 ≠ g)); clear HI0; clear HK; clear HB; have HI0 := n0_; have HK := n1_; have HB := n2_; have BK142 := n3_; have GW142 := n4_; have GE142 := n5_; have NB0_142 := n6_; have NB142_0 := n7_; clear n0_ n1_ n2_ n3_ n4_ n5_ n6_ n7_; clear hb hbox hg) | ((with_reducible refine gate_callee (f := 71) rfl ?_); refine goesL_ (some 7) rfl rfl Try.func71 (by kernel_rfl) rfl #[.pointer (some ⟨g, 0, none⟩), .int .i64 9] rfl z2_9 ?_; (with_reducible refine (spec_l1Below.calls g s0_0 s0_1 s0_2 9 t143 t144 t145 w0 _ ?side1 ?side2 A3.out).mono ?_); (case side1 => repeat (first | (with_reducible first | exact HI0.out | apply IsS98.alloc | apply IsS98.drewN | apply IsS98.drew | apply IsS98.set_1 | apply IsS98.set_2 | refine IsS98.far ?_ NB0_142.out _) | exact HI0.out)); (case side2 => repeat (first | (with_reducible first | exact HB.out | apply below_alloc | apply pw_below_drewN | apply below_drew1 | refine below_set ?_ (IsS98.ge HI0.out) | refine below_set ?_ GE142.out) | exact HB.out)); rintro e w6 ⟨rfl, hi, hb, hk⟩; refine ⟨_, rfl, ?_⟩; have n0_ := Aside0.mk (KeepBut.blk hk (g' := gb142) (o := .cells #[.int .i64 0, .string (⟨#[]⟩ : ByteArray), .int .i64 0, .int .i64 0] 31 (0, 0)) (bd2_ BK142.out) NB142_0.out (by simp)); have n1_ := Aside0.mk (KeepBut.trans z2_11 hk (.inl rfl)); have n2_ := Aside0.mk (hb); have n3_ := Aside0.mk (hi); clear BK142; clear HK; clear HB; clear HI0; have BK142 := n0_; have HK := n1_; have HB := n2_; have HI0 := n3_; clear n0_ n1_ n2_ n3_; (try clear hb); (try clear hb2); (try clear hk); (try clear hi)) | ((with_reducible refine gate_dst (N := 5) rfl ?_); refine box_event ?hg (N := 5) ?hd (cs := #[.int .i64 0, .string (⟨#[]⟩ : ByteArray), .int .i64 0, .int .i64 0]) (t := 31) ?hr ?_; (case hd => rfl); (case hg => rfl); (case hr => first | (go_simp; done) | (go_simp; rfl)); intro gb146 hg w7 hbox hb; have n0_ := Aside0.mk (IsS98.below (by repeat (first | (with_reducible first | exact HI0.out | apply IsS98.alloc | apply IsS98.drewN | apply IsS98.drew | apply IsS98.set_1 | apply IsS98.set_2 | refine IsS98.far ?_ NB0_142.out _) | exact HI0.out)) hb); have n1_ := Aside0.mk (blk_below (g := gb142) (o := .cells #[.int .i64 0, .string (⟨#[]⟩ : ByteArray), .int .i64 0, .int .i64 0] 31 (0, 0)) (bd2_ BK142.out) hb); have n2_ := Aside0.mk (KeepBut.trans z2_11 (KeepBut.of_below hb g none) (.inl rfl)); have n3_ := Aside0.mk (below_step (by repeat (first | (with_reducible first | exact HB.out | apply below_alloc | apply pw_below_drewN | apply below_drew1 | refine below_set ?_ (IsS98.ge HI0.out) | refine below_set ?_ GE142.out) | exact HB.out)) hb); have n4_ := Aside0.mk (hbox); have n5_ := Aside0.mk ((by rw [hg]; exact (keep_size (w := w) (g := g) (row := none) z2_11) : w.heap.size ≤ gb146)); have n6_ := Aside0.mk ((Nat.le_trans HW0.out (by rw [hg]; exact (keep_size (w := w) (g := g) (row := none) z2_11) : w.heap.size ≤ gb146) : w0.heap.size ≤ gb146)); have n7_ := Aside0.mk ((by rw [hg]; exact Nat.ne_of_lt (blk_lt (g := gb142) (o := .cells #[.int .i64 0, .string (⟨#[]⟩ : ByteArray), .int .i64 0, .int .i64 0] 31 (0, 0)) (bd2_ BK142.out)) : gb142 ≠ gb146)); have n8_ := Aside0.mk ((by rw [hg]; exact Nat.ne_of_gt (blk_lt (g := gb142) (o := .cells #[.int .i64 0, .string (⟨#[]⟩ : ByteArray), .int .i64 0, .int .i64 0] 31 (0, 0)) (bd2_ BK142.out)) : gb146 ≠ gb142)); have n9_ := Aside0.mk ((by rw [hg]; exact Nat.ne_of_lt (IsS98.lt (show IsS98 w0 _ g s0_0 t144 t145 from by repeat (first | (with_reducible first | exact HI0.out | apply IsS98.alloc | apply IsS98.drewN | apply IsS98.drew | apply IsS98.set_1 | apply IsS98.set_2 | refine IsS98.far ?_ NB0_142.out _) | exact HI0.out))) : g ≠ gb146)); have n10_ := Aside0.mk ((by rw [hg]; exact Nat.ne_of_gt (IsS98.lt (show IsS98 w0 _ g s0_0 t144 t145 from by repeat (first | (with_reducible first | exact HI0.out | apply IsS98.alloc | apply IsS98.drewN | apply IsS98.drew | apply IsS98.set_1 | apply IsS98.set_2 | refine IsS98.far ?_ NB0_142.out _) | exact HI0.out))) : gb146 ≠ g)); clear HI0; clear BK142; clear HK; clear HB; have HI0 := n0_; have BK142 := n1_; have HK := n2_; have HB := n3_; have BK146 := n4_; have GW146 := n5_; have GE146 := n6_; have NB142_146 := n7_; have NB146_142 := n8_; have NB0_146 := n9_; have NB146_0 := n10_; clear n0_ n1_ n2_ n3_ n4_ n5_ n6_ n7_ n8_ n9_ n10_; clear hb hbox hg; have hnb8 := NB146_142.out; have hnc8 := NB142_146.out; have hnb9 := NB146_0.out; have hnc9 := NB0_146.out; have hcz10_0 : w7.cell? ⟨gb146, 0, none⟩ = some (.int .i64 0) := (blk_cell BK146.out 0).trans rfl; have hcz10_1 : w7.cell? ⟨gb146, 1, none⟩ = some (.string (⟨#[]⟩ : ByteArray)) := (blk_cell BK146.out 1).trans rfl; have hcz10_2 : w7.cell? ⟨gb146, 2, none⟩ = some (.int .i64 0) := (blk_cell BK146.out 2).trans rfl; have hcz10_3 : w7.cell? ⟨gb146, 3, none⟩ = some (.int .i64 0) := (blk_cell BK146.out 3).trans rfl; have hfz10_0 := blk_frozen BK146.out 0; have hfz10_1 := blk_frozen BK146.out 1; have hfz10_2 := blk_frozen BK146.out 2; have hfz10_3 := blk_frozen BK146.out 3))
  (try simp only [Act.put, List.setIfInBounds_toArray, List.set_cons_zero, List.set_cons_succ])
  go_cut [16] (fun v16 wc => ∃ (kq : Nat) (x16_3 : Bool) (x1001_3 : Int) (x1002_3 : Int), v16 = .bool x16_3 ∧ Aside0 (spec_l15Step.j0 kq l1 x16_3 s0_0 x1001_3 x1002_3 (wrap64 (1 + t143)) (⟨#[]⟩ : ByteArray) 0 0 = some (r1, r2, r3, r4, r5, r6)) ∧ Aside0 (kq ≤ k) ∧ Aside0 (wc.heap[gb142]? = some (.cells #[.int .i64 0, .string (⟨#[]⟩ : ByteArray), .int .i64 0, .int .i64 0] 31 (0, 0))) ∧ Aside0 (wc.heap[gb146]? = some (.cells #[.int .i64 (wrap64 (1 + t143)), .string (⟨#[]⟩ : ByteArray), .int .i64 0, .int .i64 0] 31 (0, 0))) ∧ Aside0 (IsS98 w0 wc g s0_0 x1001_3 x1002_3) ∧ Aside0 (KeepBut w wc g none) ∧ Aside0 (Below w0.heap.size w0 wc))
  case first =>
   have H := HC4.out
   clear HC4
   by_cases c11 : (l1.length : Int) = 0
   ·rw [if_pos c11] at H
    have c11b0 : ((l1.length : Int) == 0) = true := beq_iff_eq.mpr c11
    have c11b1 : ((l1.length : Int) != 0) = false := bne_eq_false_iff_eq.mpr c11
    clear c11
    (first | rw [c11b0] | (simp only [i64_w, i32_w]; rw [c11b0]) | skip)
    have H' := Aside0.mk H
    clear H
    go_wp2
    go_meet
    case rel => exact ⟨_, (true), (t144), (t145), (by first | rfl | (simp; done) | (simp [*]; done)), H', ⟨by first | omega | exact Nat.le_refl _⟩, ⟨z2_10⟩, ⟨z2_5⟩, ⟨z2_1⟩, ⟨z2_0⟩, ⟨z2_2⟩⟩
   ·rw [if_neg c11] at H
    have c11b0 : ((l1.length : Int) == 0) = false := beq_eq_false_iff_ne.mpr c11
    have c11b1 : ((l1.length : Int) != 0) = true := bne_iff_ne.mpr c11
    have c11b2 : ¬ (l1 = []) := fun h_ => c11 (by rw [h_]; rfl)
    (first | rw [c11b0] | (simp only [i64_w, i32_w]; rw [c11b0]) | skip)
    replace H := Option.bind_eq_some_iff.mp H
    obtain ⟨⟨t147, t148, t149⟩, A120, H⟩ := H
    replace H : (spec_l15Step.j0 k l1 t147 s0_0 t148 t149 (wrap64 (1 + t143)) (⟨#[]⟩ : ByteArray) 0 0) = some (r1, r2, r3, r4, r5, r6) := H
    have A12 := Aside0.mk A120
    clear A120
    have H' := Aside0.mk H
    clear H
    go_wp2_with (first | (go_at_call 62; (with_reducible refine (spec_l1Once.calls g s0_0 t144 t145 3 t147 t148 t149 w0 _ ?side1 ?side2 A12.out).mono ?_); (case side1 => exact z2_1); (case side2 => exact z2_2); rintro e w13 ⟨rfl, hi, hb, hk⟩; have n0_ := Aside0.mk (KeepBut.blk hk (g' := gb142) (o := .cells #[.int .i64 0, .string (⟨#[]⟩ : ByteArray), .int .i64 0, .int .i64 0] 31 (0, 0)) z2_10 NB142_0.out (by simp)); have n1_ := Aside0.mk (KeepBut.blk hk (g' := gb146) (o := .cells #[.int .i64 (wrap64 (1 + t143)), .string (⟨#[]⟩ : ByteArray), .int .i64 0, .int .i64 0] 31 (0, 0)) z2_5 NB146_0.out (by simp)); have n2_ := Aside0.mk (KeepBut.trans z2_0 hk (.inl rfl)); have n3_ := Aside0.mk (hb); have n4_ := Aside0.mk (hi); clear BK142; clear BK146; clear HK; clear HB; clear HI0; have BK142 := n0_; have BK146 := n1_; have HK := n2_; have HB := n3_; have HI0 := n4_; clear n0_ n1_ n2_ n3_ n4_; (try clear hb); (try clear hb2); (try clear hk); (try clear hi)))
    go_meet
    case rel => exact ⟨_, (t147), (t148), (t149), (by first | rfl | (simp; done) | (simp [*]; done)), H', ⟨by first | omega | exact Nat.le_refl _⟩, ⟨by (with_reducible repeat (first | refine blk_drewN ?_ _ | refine blk_drew ?_ | refine blk_alloc ?_ _)); exact BK142.out⟩, ⟨by (with_reducible repeat (first | refine blk_drewN ?_ _ | refine blk_drew ?_ | refine blk_alloc ?_ _)); exact BK146.out⟩, ⟨z2_1⟩, ⟨z2_0⟩, ⟨z2_2⟩⟩
  case rest =>
   clear HC4
   try clear c1
   try clear p2
   try clear p6
   try clear c7
   try clear c8
   try clear c9
   try clear c11
   try clear c11b0
   try clear c11b1
   try clear c11b2
   try clear hcz10_0
   try clear hcz10_1
   try clear hcz10_2
   try clear hcz10_3
   try clear hfz10_0
   try clear hfz10_1
   try clear hfz10_2
   try clear hfz10_3
   obtain ⟨kq, x16_3, x1001_3, x1002_3, rfl, HA, HJ3, BK142, BK146, HI0, HK, HB⟩ := hcut
   cases kq with
   | zero => exact absurd HA.out (by simp [spec_l15Step.j0])
   | succ kj3 =>
    have H := HA.out
    clear HA
    simp only [spec_l15Step.j0] at H
    have HC14 := Aside0.mk H
    clear H
    go_upto_if 16 with (fail)
    go_cut [] (fun wc => ∃ (kq : Nat) (x147000_13 : Int), Aside0 (spec_l15Step.j1 kq l1 s0_0 x1001_3 x1002_3 x147000_13 (⟨#[]⟩ : ByteArray) 0 0 = some (r1, r2, r3, r4, r5, r6)) ∧ Aside0 (kq ≤ kj3) ∧ Aside0 (wc.heap[gb142]? = some (.cells #[.int .i64 0, .string (⟨#[]⟩ : ByteArray), .int .i64 0, .int .i64 0] 31 (0, 0))) ∧ Aside0 (wc.heap[gb146]? = some (.cells #[.int .i64 x147000_13, .string (⟨#[]⟩ : ByteArray), .int .i64 0, .int .i64 0] 31 (0, 0))) ∧ Aside0 (IsS98 w0 wc g s0_0 x1001_3 x1002_3) ∧ Aside0 (KeepBut w wc g none) ∧ Aside0 (Below w0.heap.size w0 wc))
    case first =>
     have H := HC14.out
     clear HC14
     by_cases c15 : x16_3 = true
     ·subst c15
      have H1 : (spec_l15Step.j1 kj3 l1 s0_0 x1001_3 x1002_3 1 (⟨#[]⟩ : ByteArray) 0 0) = some (r1, r2, r3, r4, r5, r6) := by rw [if_pos rfl] at H; exact H
      clear H
      have H := H1
      clear H1
      have H' := Aside0.mk H
      clear H
      have hnb16 := NB146_142.out
      have hnc16 := NB142_146.out
      have hnb17 := NB146_0.out
      have hnc17 := NB0_146.out
      have hcz18_0 : wc.cell? ⟨gb146, 0, none⟩ = some (.int .i64 (wrap64 (1 + t143))) := (blk_cell BK146.out 0).trans rfl
      have hcz18_1 : wc.cell? ⟨gb146, 1, none⟩ = some (.string (⟨#[]⟩ : ByteArray)) := (blk_cell BK146.out 1).trans rfl
      have hcz18_2 : wc.cell? ⟨gb146, 2, none⟩ = some (.int .i64 0) := (blk_cell BK146.out 2).trans rfl
      have hcz18_3 : wc.cell? ⟨gb146, 3, none⟩ = some (.int .i64 0) := (blk_cell BK146.out 3).trans rfl
      have hfz18_0 := blk_frozen BK146.out 0
      have hfz18_1 := blk_frozen BK146.out 1
      have hfz18_2 := blk_frozen BK146.out 2
      have hfz18_3 := blk_frozen BK146.out 3
      go_wp2
      go_meet
      case rel => exact ⟨_, (1), H', ⟨by have := HJ3.out; first | omega | exact Nat.le_refl _⟩, ⟨z2_4⟩, ⟨by (with_reducible repeat (first | refine blk_drewN ?_ _ | refine blk_drew ?_ | refine blk_alloc ?_ _)); refine blk_put (cs := #[.int .i64 (wrap64 (1 + t143)), .string (⟨#[]⟩ : ByteArray), .int .i64 0, .int .i64 0]) ?_ 0 _ rfl; (with_reducible repeat (first | refine blk_drewN ?_ _ | refine blk_drew ?_ | refine blk_alloc ?_ _)); exact BK146.out⟩, ⟨z2_1⟩, ⟨z2_0⟩, ⟨z2_2⟩⟩
     ·replace c15 := Bool.eq_false_iff.mpr c15
      subst c15
      have H1 : (spec_l15Step.j1 kj3 l1 s0_0 x1001_3 x1002_3 (wrap64 (1 + t143)) (⟨#[]⟩ : ByteArray) 0 0) = some (r1, r2, r3, r4, r5, r6) := by rw [if_neg (show ¬ (false = true) by decide)] at H; exact H
      clear H
      have H := H1
      clear H1
      have H' := Aside0.mk H
      clear H
      go_wp2
      go_meet
      case rel => exact ⟨_, ((wrap64 (1 + t143))), H', ⟨by have := HJ3.out; first | omega | exact Nat.le_refl _⟩, ⟨by (with_reducible repeat (first | refine blk_drewN ?_ _ | refine blk_drew ?_ | refine blk_alloc ?_ _)); exact BK142.out⟩, ⟨by (with_reducible repeat (first | refine blk_drewN ?_ _ | refine blk_drew ?_ | refine blk_alloc ?_ _)); exact BK146.out⟩, ⟨z2_1⟩, ⟨z2_0⟩, ⟨z2_2⟩⟩
    case rest =>
     clear HC14
     try clear c1
     try clear p2
     try clear p6
     try clear c7
     try clear c8
     try clear c9
     try clear c11
     try clear c11b0
     try clear c11b1
     try clear c11b2
     try clear c15
     try clear c16
     try clear c17
     try clear hcz10_0
     try clear hcz10_1
     try clear hcz10_2
     try clear hcz10_3
     try clear hcz18_0
     try clear hcz18_1
     try clear hcz18_2
     try clear hcz18_3
     try clear hfz10_0
     try clear hfz10_1
     try clear hfz10_2
     try clear hfz10_3
     try clear hfz18_0
     try clear hfz18_1
     try clear hfz18_2
     try clear hfz18_3
     try clear p2
     try clear p6
     obtain ⟨kq, x147000_13, HA, HJ13, BK142, BK146, HI0, HK, HB⟩ := hcut
     cases kq with
     | zero => exact absurd HA.out (by simp [spec_l15Step.j1])
     | succ kj13 =>
      have H := HA.out
      clear HA
      simp only [spec_l15Step.j1] at H
      by_cases c19 : x147000_13 = 1
      ·rw [if_pos c19] at H
       have c19b0 : (x147000_13 == 1) = true := beq_iff_eq.mpr c19
       have c19b1 : (x147000_13 != 1) = false := bne_eq_false_iff_eq.mpr c19
       clear c19
       replace H := Option.bind_eq_some_iff.mp H
       obtain ⟨⟨t150, t151, t152⟩, A200, H⟩ := H
       replace H : ((spec_l1Str.f s0_0 t151 t152 (([t150, (⟨#[114]⟩ : ByteArray), (⟨#[115]⟩ : ByteArray), (⟨#[97, 116]⟩ : ByteArray), (⟨#[101, 97]⟩ : ByteArray)] : List ByteArray))).bind fun bt156 => (some (x147000_13, bt156.1, 0, 0, bt156.2.1, bt156.2.2))) = some (r1, r2, r3, r4, r5, r6) := H
       have A20 := Aside0.mk A200
       clear A200
       obtain ⟨y153, hy153⟩ : ∃ y_ : List ByteArray, y_ = (([t150, (⟨#[114]⟩ : ByteArray), (⟨#[115]⟩ : ByteArray), (⟨#[97, 116]⟩ : ByteArray), (⟨#[101, 97]⟩ : ByteArray)] : List ByteArray)) := ⟨_, rfl⟩
       replace H : ((spec_l1Str.f s0_0 t151 t152 y153).bind fun bt156 => (some (x147000_13, bt156.1, 0, 0, bt156.2.1, bt156.2.2))) = some (r1, r2, r3, r4, r5, r6) := by first | (rw [hy153]; with_reducible exact H) | (have H2_ := (Option.bind_some _ _).symm.trans H; rw [hy153]; with_reducible exact H2_) | (have H2_ := (Option.bind_some _ _).symm.trans H; with_reducible exact H2_) | with_reducible exact H | (rw [hy153]; exact H) | exact H
       have Ny153 := Aside0.mk hy153
       clear hy153
       replace H := Option.bind_eq_some_iff.mp H
       obtain ⟨⟨t156, t157, t158⟩, A210, H⟩ := H
       replace H : (some (x147000_13, t156, 0, 0, t157, t158)) = some (r1, r2, r3, r4, r5, r6) := H
       have A21 := Aside0.mk A210
       clear A210
       simp only [Option.some.injEq, Prod.mk.injEq] at H
       obtain ⟨rfl, rfl, rfl, rfl, rfl, rfl⟩ := H
       have hnb22 := NB146_142.out
       have hnc22 := NB142_146.out
       have hnb23 := NB146_0.out
       have hnc23 := NB0_146.out
       have hcz24_0 : wc.cell? ⟨gb146, 0, none⟩ = some (.int .i64 x147000_13) := (blk_cell BK146.out 0).trans rfl
       have hcz24_1 : wc.cell? ⟨gb146, 1, none⟩ = some (.string (⟨#[]⟩ : ByteArray)) := (blk_cell BK146.out 1).trans rfl
       have hcz24_2 : wc.cell? ⟨gb146, 2, none⟩ = some (.int .i64 0) := (blk_cell BK146.out 2).trans rfl
       have hcz24_3 : wc.cell? ⟨gb146, 3, none⟩ = some (.int .i64 0) := (blk_cell BK146.out 3).trans rfl
       have hfz24_0 := blk_frozen BK146.out 0
       have hfz24_1 := blk_frozen BK146.out 1
       have hfz24_2 := blk_frozen BK146.out 2
       have hfz24_3 := blk_frozen BK146.out 3
       go_wp2_with (first | ((with_reducible refine gate_callee (f := 89) rfl ?_); refine goesL_ (some 23) rfl rfl Try.func89 (by kernel_rfl) rfl #[.pointer (some ⟨g, 0, none⟩)] rfl z2_9 ?_; (with_reducible refine (spec_l4Word.calls g s0_0 x1001_3 x1002_3 t150 t151 t152 w0 _ ?side1 ?side2 A20.out).mono ?_); (case side1 => exact z2_1); (case side2 => exact z2_2); rintro e w25 ⟨rfl, hi, hb, hk⟩; refine ⟨_, rfl, ?_⟩; have n0_ := Aside0.mk (KeepBut.blk hk (g' := gb142) (o := .cells #[.int .i64 0, .string (⟨#[]⟩ : ByteArray), .int .i64 0, .int .i64 0] 31 (0, 0)) (bd2_ BK142.out) NB142_0.out (by simp)); have n1_ := Aside0.mk (KeepBut.blk hk (g' := gb146) (o := .cells #[.int .i64 x147000_13, .string (⟨#[]⟩ : ByteArray), .int .i64 0, .int .i64 0] 31 (0, 0)) (bd2_ BK146.out) NB146_0.out (by simp)); have n2_ := Aside0.mk (KeepBut.trans z2_0 hk (.inl rfl)); have n3_ := Aside0.mk (hb); have n4_ := Aside0.mk (hi); clear BK142; clear BK146; clear HK; clear HB; clear HI0; have BK142 := n0_; have BK146 := n1_; have HK := n2_; have HB := n3_; have HI0 := n4_; clear n0_ n1_ n2_ n3_ n4_; (try clear hb); (try clear hb2); (try clear hk); (try clear hi)) | ((with_reducible refine gate_dst (N := 24) rfl ?_); refine Kd.R_lit Kd.string _ 9 ?hg (N := 24) ?hd (xs := ([t150, (⟨#[114]⟩ : ByteArray), (⟨#[115]⟩ : ByteArray), (⟨#[97, 116]⟩ : ByteArray), (⟨#[101, 97]⟩ : ByteArray)] : List ByteArray)) (inner := [.string t150, .string (⟨#[114]⟩ : ByteArray), .string (⟨#[115]⟩ : ByteArray), .string (⟨#[97, 116]⟩ : ByteArray), .string (⟨#[101, 97]⟩ : ByteArray)]) (ok := fun _ => True) (okp := fun _ => True) ?hr ?hp (fun _ hk => hk) trivial (Below.refl _ _) (Nat.le_refl _) (by simp) ?_; (case hd => rfl); (case hg => rfl); (case hr => first | (go_simp; done) | (go_simp; rfl)); (case hp => exact (Reps.one (show Kd.M Kd.string _ _ _ t150 [.string t150] from rfl) (Reps.one (show Kd.M Kd.string _ _ _ (⟨#[114]⟩ : ByteArray) [.string (⟨#[114]⟩ : ByteArray)] from rfl) (Reps.one (show Kd.M Kd.string _ _ _ (⟨#[115]⟩ : ByteArray) [.string (⟨#[115]⟩ : ByteArray)] from rfl) (Reps.one (show Kd.M Kd.string _ _ _ (⟨#[97, 116]⟩ : ByteArray) [.string (⟨#[97, 116]⟩ : ByteArray)] from rfl) (Reps.one (show Kd.M Kd.string _ _ _ (⟨#[101, 97]⟩ : ByteArray) [.string (⟨#[101, 97]⟩ : ByteArray)] from rfl) (Reps.none _ _))))))); intro v154 w26 ho27 hb hg_ hnew_; clear hg_ hnew_; (first | rw [← Ny153.out] at ho27 | (simp only [Int.reduceToNat] at ho27; rw [← Ny153.out] at ho27)); have n0_ := Aside0.mk (Kd.R_lower ho27 (keep_size (w := w) (g := g) (row := none) z2_0)); have n1_ := Aside0.mk (blk_below (g := gb142) (o := .cells #[.int .i64 0, .string (⟨#[]⟩ : ByteArray), .int .i64 0, .int .i64 0] 31 (0, 0)) (bd2_ BK142.out) hb); have n2_ := Aside0.mk (blk_below (g := gb146) (o := .cells #[.int .i64 x147000_13, .string (⟨#[]⟩ : ByteArray), .int .i64 0, .int .i64 0] 31 (0, 0)) (bd2_ BK146.out) hb); have n3_ := Aside0.mk (IsS98.below z2_1 hb); have n4_ := Aside0.mk (KeepBut.trans z2_0 (KeepBut.of_below hb g none) (.inl rfl)); have n5_ := Aside0.mk (below_step z2_2 hb); clear BK142; clear BK146; clear HI0; clear HK; clear HB; have HO155 := n0_; have BK142 := n1_; have BK146 := n2_; have HI0 := n3_; have HK := n4_; have HB := n5_; clear n0_ n1_ n2_ n3_ n4_ n5_; clear hb ho27; obtain ⟨Ao28, co28, eo28⟩ := Kd.R_slice HO155.out; subst eo28) | ((with_reducible refine gate_callee (f := 90) rfl ?_); refine goesL_ (some 25) rfl rfl Try.func90 (by kernel_rfl) rfl #[.pointer (some ⟨g, 0, none⟩), .slice Ao28 y153.length co28] rfl z2_9 ?_; (with_reducible refine (spec_l1Str.calls g s0_0 t151 t152 _ _ y153 t156 t157 t158 w0 _ ?side1 ?side2 ?side3 ?side4 ?side5 A21.out).mono ?_); (case side1 => exact z2_1); (case side2 => exact z2_2); (case side3 => repeat (first | exact (Kd.R_reads' HO155.out).2.2 | (with_reducible refine Kd.C_alloc ?_ _) | (with_reducible refine Kd.C_drewN ?_ _) | (with_reducible refine Kd.C_drew ?_))); (case side4 => exact (Kd.R_reads' HO155.out).2.1); (case side5 => exact far_slice (IsS98.own_ne HI0.out HO155.out (by decide))); rintro e w29 ⟨rfl, hi, hb, hk⟩; refine ⟨_, rfl, ?_⟩; have n0_ := Aside0.mk (KeepBut.blk hk (g' := gb142) (o := .cells #[.int .i64 0, .string (⟨#[]⟩ : ByteArray), .int .i64 0, .int .i64 0] 31 (0, 0)) (bd2_ BK142.out) NB142_0.out (by simp)); have n1_ := Aside0.mk (KeepBut.blk hk (g' := gb146) (o := .cells #[.int .i64 x147000_13, .string (⟨#[]⟩ : ByteArray), .int .i64 0, .int .i64 0] 31 (0, 0)) (bd2_ BK146.out) NB146_0.out (by simp)); have n2_ := Aside0.mk (Kd.R_mono (Kd.R_keep (IsS98.apart (show IsS98 w0 _ g s0_0 t151 t152 from by repeat (first | (with_reducible first | exact HI0.out | apply IsS98.alloc | apply IsS98.drewN | apply IsS98.drew | apply IsS98.set_1 | apply IsS98.set_2 | refine IsS98.far ?_ NB0_142.out _ | refine IsS98.far ?_ NB0_146.out _) | exact HI0.out)) (kd2_ HO155.out) (by decide)) hk (fun _ h => h.2)) (fun _ h => h.1)); have n3_ := Aside0.mk (KeepBut.trans z2_0 hk (.inl rfl)); have n4_ := Aside0.mk (hb); have n5_ := Aside0.mk (hi); clear BK142; clear BK146; clear HO155; clear HK; clear HB; clear HI0; have BK142 := n0_; have BK146 := n1_; have HO155 := n2_; have HK := n3_; have HB := n4_; have HI0 := n5_; clear n0_ n1_ n2_ n3_ n4_ n5_; (try clear hb); (try clear hb2); (try clear hk); (try clear hi); have hcz30_0 : w29.cell? ⟨gb146, 0, none⟩ = some (.int .i64 x147000_13) := (blk_cell BK146.out 0).trans rfl; have hcz30_1 : w29.cell? ⟨gb146, 1, none⟩ = some (.string (⟨#[]⟩ : ByteArray)) := (blk_cell BK146.out 1).trans rfl; have hcz30_2 : w29.cell? ⟨gb146, 2, none⟩ = some (.int .i64 0) := (blk_cell BK146.out 2).trans rfl; have hcz30_3 : w29.cell? ⟨gb146, 3, none⟩ = some (.int .i64 0) := (blk_cell BK146.out 3).trans rfl; have hfz30_0 := blk_frozen BK146.out 0; have hfz30_1 := blk_frozen BK146.out 1; have hfz30_2 := blk_frozen BK146.out 2; have hfz30_3 := blk_frozen BK146.out 3; have hnb31 := NB142_0.out; have hnc31 := NB0_142.out; have hcz32_0 : w29.cell? ⟨gb142, 0, none⟩ = some (.int .i64 0) := (blk_cell BK142.out 0).trans rfl; have hcz32_1 : w29.cell? ⟨gb142, 1, none⟩ = some (.string (⟨#[]⟩ : ByteArray)) := (blk_cell BK142.out 1).trans rfl; have hcz32_2 : w29.cell? ⟨gb142, 2, none⟩ = some (.int .i64 0) := (blk_cell BK142.out 2).trans rfl; have hcz32_3 : w29.cell? ⟨gb142, 3, none⟩ = some (.int .i64 0) := (blk_cell BK142.out 3).trans rfl; have hfz32_0 := blk_frozen BK142.out 0; have hfz32_1 := blk_frozen BK142.out 1; have hfz32_2 := blk_frozen BK142.out 2; have hfz32_3 := blk_frozen BK142.out 3))
       refine bodyPost_ret (results_cell_row rfl _ _ gb142 31 #[.int .i64 x147000_13, .string t156, .int .i64 0, .int .i64 0] (0, 0) _ rfl (by (with_reducible repeat (first | refine blk_drewN ?_ _ | refine blk_drew ?_ | refine blk_alloc ?_ _)); refine blk_put (cs := #[.int .i64 x147000_13, .string t156, .int .i64 0, .int .i64 0]) ?_ 3 _ rfl; (with_reducible repeat (first | refine blk_drewN ?_ _ | refine blk_drew ?_ | refine blk_alloc ?_ _)); refine blk_put (cs := #[.int .i64 x147000_13, .string t156, .int .i64 0, .int .i64 0]) ?_ 2 _ rfl; (with_reducible repeat (first | refine blk_drewN ?_ _ | refine blk_drew ?_ | refine blk_alloc ?_ _)); refine blk_put (cs := #[.int .i64 x147000_13, .string (⟨#[]⟩ : ByteArray), .int .i64 0, .int .i64 0]) ?_ 1 _ rfl; (with_reducible repeat (first | refine blk_drewN ?_ _ | refine blk_drew ?_ | refine blk_alloc ?_ _)); refine blk_put (cs := #[.int .i64 0, .string (⟨#[]⟩ : ByteArray), .int .i64 0, .int .i64 0]) ?_ 0 _ rfl; (with_reducible repeat (first | refine blk_drewN ?_ _ | refine blk_drew ?_ | refine blk_alloc ?_ _)); refine blk_far ?_ NB142_146.out _; (with_reducible repeat (first | refine blk_drewN ?_ _ | refine blk_drew ?_ | refine blk_alloc ?_ _)); exact BK142.out) Try.underlying31 rfl (by kernel_rfl)) rfl ?_
       exact ⟨by first | rfl | (simp [errW_none, errW_some] <;> rfl) | (simp [*, errW_none, errW_some] <;> rfl), z2_1, z2_2, z2_0⟩
      ·rw [if_neg c19] at H
       have c19b0 : (x147000_13 == 1) = false := beq_eq_false_iff_ne.mpr c19
       have c19b1 : (x147000_13 != 1) = true := bne_iff_ne.mpr c19
       have HC33 := Aside0.mk H
       clear H
       have hnb34 := NB146_142.out
       have hnc34 := NB142_146.out
       have hnb35 := NB146_0.out
       have hnc35 := NB0_146.out
       have hcz36_0 : wc.cell? ⟨gb146, 0, none⟩ = some (.int .i64 x147000_13) := (blk_cell BK146.out 0).trans rfl
       have hcz36_1 : wc.cell? ⟨gb146, 1, none⟩ = some (.string (⟨#[]⟩ : ByteArray)) := (blk_cell BK146.out 1).trans rfl
       have hcz36_2 : wc.cell? ⟨gb146, 2, none⟩ = some (.int .i64 0) := (blk_cell BK146.out 2).trans rfl
       have hcz36_3 : wc.cell? ⟨gb146, 3, none⟩ = some (.int .i64 0) := (blk_cell BK146.out 3).trans rfl
       have hfz36_0 := blk_frozen BK146.out 0
       have hfz36_1 := blk_frozen BK146.out 1
       have hfz36_2 := blk_frozen BK146.out 2
       have hfz36_3 := blk_frozen BK146.out 3
       go_upto_region 8 with (fail)
       go_cut [39] (fun v39 wc => ∃ (kq : Nat) (x39_32 : Bool), v39 = .bool x39_32 ∧ Aside0 (spec_l15Step.j2 kq l1 x39_32 s0_0 x1001_3 x1002_3 x147000_13 (⟨#[]⟩ : ByteArray) (wrap64 ((l1.length : Int) - 1)) 0 = some (r1, r2, r3, r4, r5, r6)) ∧ Aside0 (kq ≤ kj13) ∧ Aside0 (wc.heap[gb142]? = some (.cells #[.int .i64 0, .string (⟨#[]⟩ : ByteArray), .int .i64 0, .int .i64 0] 31 (0, 0))) ∧ Aside0 (wc.heap[gb146]? = some (.cells #[.int .i64 x147000_13, .string (⟨#[]⟩ : ByteArray), .int .i64 (wrap64 ((l1.length : Int) - 1)), .int .i64 0] 31 (0, 0))) ∧ Aside0 (IsS98 w0 wc g s0_0 x1001_3 x1002_3) ∧ Aside0 (KeepBut w wc g none) ∧ Aside0 (Below w0.heap.size w0 wc))
       case first =>
        have H := HC33.out
        clear HC33
        by_cases c37 : x147000_13 = 4
        ·rw [if_pos c37] at H
         have c37b0 : (x147000_13 == 4) = true := beq_iff_eq.mpr c37
         have c37b1 : (x147000_13 != 4) = false := bne_eq_false_iff_eq.mpr c37
         clear c37
         (first | rw [c37b0] | (simp only [i64_w, i32_w]; rw [c37b0]) | skip)
         have H' := Aside0.mk H
         clear H
         have hnb38 := NB146_142.out
         have hnc38 := NB142_146.out
         have hnb39 := NB146_0.out
         have hnc39 := NB0_146.out
         have hcz40_0 : wc.cell? ⟨gb146, 0, none⟩ = some (.int .i64 x147000_13) := (blk_cell BK146.out 0).trans rfl
         have hcz40_1 : wc.cell? ⟨gb146, 1, none⟩ = some (.string (⟨#[]⟩ : ByteArray)) := (blk_cell BK146.out 1).trans rfl
         have hcz40_2 : wc.cell? ⟨gb146, 2, none⟩ = some (.int .i64 0) := (blk_cell BK146.out 2).trans rfl
         have hcz40_3 : wc.cell? ⟨gb146, 3, none⟩ = some (.int .i64 0) := (blk_cell BK146.out 3).trans rfl
         have hfz40_0 := blk_frozen BK146.out 0
         have hfz40_1 := blk_frozen BK146.out 1
         have hfz40_2 := blk_frozen BK146.out 2
         have hfz40_3 := blk_frozen BK146.out 3
         go_wp2
         go_meet
         case rel => exact ⟨_, (true), (by first | rfl | (simp; done) | (simp [*]; done)), H', ⟨by have := HJ3.out; have := HJ13.out; first | omega | exact Nat.le_refl _⟩, ⟨z2_4⟩, ⟨by (with_reducible repeat (first | refine blk_drewN ?_ _ | refine blk_drew ?_ | refine blk_alloc ?_ _)); refine blk_put (cs := #[.int .i64 x147000_13, .string (⟨#[]⟩ : ByteArray), .int .i64 0, .int .i64 0]) ?_ 2 _ rfl; (with_reducible repeat (first | refine blk_drewN ?_ _ | refine blk_drew ?_ | refine blk_alloc ?_ _)); exact BK146.out⟩, ⟨z2_1⟩, ⟨z2_0⟩, ⟨z2_2⟩⟩
        ·rw [if_neg c37] at H
         have c37b0 : (x147000_13 == 4) = false := beq_eq_false_iff_ne.mpr c37
         have c37b1 : (x147000_13 != 4) = true := bne_iff_ne.mpr c37
         (first | rw [c37b0] | (simp only [i64_w, i32_w]; rw [c37b0]) | skip)
         have H' := Aside0.mk H
         clear H
         have hnb41 := NB146_142.out
         have hnc41 := NB142_146.out
         have hnb42 := NB146_0.out
         have hnc42 := NB0_146.out
         have hcz43_0 : wc.cell? ⟨gb146, 0, none⟩ = some (.int .i64 x147000_13) := (blk_cell BK146.out 0).trans rfl
         have hcz43_1 : wc.cell? ⟨gb146, 1, none⟩ = some (.string (⟨#[]⟩ : ByteArray)) := (blk_cell BK146.out 1).trans rfl
         have hcz43_2 : wc.cell? ⟨gb146, 2, none⟩ = some (.int .i64 0) := (blk_cell BK146.out 2).trans rfl
         have hcz43_3 : wc.cell? ⟨gb146, 3, none⟩ = some (.int .i64 0) := (blk_cell BK146.out 3).trans rfl
         have hfz43_0 := blk_frozen BK146.out 0
         have hfz43_1 := blk_frozen BK146.out 1
         have hfz43_2 := blk_frozen BK146.out 2
         have hfz43_3 := blk_frozen BK146.out 3
         go_wp2
         go_meet
         case rel => exact ⟨_, ((x147000_13 == 5)), (by first | rfl | (simp; done) | (simp [*]; done)), H', ⟨by have := HJ3.out; have := HJ13.out; first | omega | exact Nat.le_refl _⟩, ⟨z2_4⟩, ⟨by (with_reducible repeat (first | refine blk_drewN ?_ _ | refine blk_drew ?_ | refine blk_alloc ?_ _)); refine blk_put (cs := #[.int .i64 x147000_13, .string (⟨#[]⟩ : ByteArray), .int .i64 0, .int .i64 0]) ?_ 2 _ rfl; (with_reducible repeat (first | refine blk_drewN ?_ _ | refine blk_drew ?_ | refine blk_alloc ?_ _)); exact BK146.out⟩, ⟨z2_1⟩, ⟨z2_0⟩, ⟨z2_2⟩⟩
       case rest =>
        clear HC33
        try clear c1
        try clear c2
        try clear p2
        try clear c3
        try clear c4
        try clear p6
        try clear c7
        try clear c8
        try clear c9
        try clear c11
        try clear c11b0
        try clear c11b1
        try clear c11b2
        try clear c15
        try clear c16
        try clear c17
        try clear c19
        try clear c19b0
        try clear c19b1
        try clear c22
        try clear c23
        try clear c31
        try clear c34
        try clear c35
        try clear c37
        try clear c37b0
        try clear c37b1
        try clear c38
        try clear c39
        try clear c41
        try clear c42
        try clear hcz10_0
        try clear hcz10_1
        try clear hcz10_2
        try clear hcz10_3
        try clear hcz18_0
        try clear hcz18_1
        try clear hcz18_2
        try clear hcz18_3
        try clear hcz24_0
        try clear hcz24_1
        try clear hcz24_2
        try clear hcz24_3
        try clear hcz30_0
        try clear hcz30_1
        try clear hcz30_2
        try clear hcz30_3
        try clear hcz32_0
        try clear hcz32_1
        try clear hcz32_2
        try clear hcz32_3
        try clear hcz36_0
        try clear hcz36_1
        try clear hcz36_2
        try clear hcz36_3
        try clear hcz40_0
        try clear hcz40_1
        try clear hcz40_2
        try clear hcz40_3
        try clear hcz43_0
        try clear hcz43_1
        try clear hcz43_2
        try clear hcz43_3
        try clear hfz10_0
        try clear hfz10_1
        try clear hfz10_2
        try clear hfz10_3
        try clear hfz18_0
        try clear hfz18_1
        try clear hfz18_2
        try clear hfz18_3
        try clear hfz24_0
        try clear hfz24_1
        try clear hfz24_2
        try clear hfz24_3
        try clear hfz30_0
        try clear hfz30_1
        try clear hfz30_2
        try clear hfz30_3
        try clear hfz32_0
        try clear hfz32_1
        try clear hfz32_2
        try clear hfz32_3
        try clear hfz36_0
        try clear hfz36_1
        try clear hfz36_2
        try clear hfz36_3
        try clear hfz40_0
        try clear hfz40_1
        try clear hfz40_2
        try clear hfz40_3
        try clear hfz43_0
        try clear hfz43_1
        try clear hfz43_2
        try clear hfz43_3
        try clear p2
        try clear p6
        obtain ⟨kq, x39_32, rfl, HA, HJ32, BK142, BK146, HI0, HK, HB⟩ := hcut
        cases kq with
        | zero => exact absurd HA.out (by simp [spec_l15Step.j2])
        | succ kj32 =>
         have H := HA.out
         clear HA
         simp only [spec_l15Step.j2] at H
         by_cases c44 : x39_32 = true
         ·subst c44
          have H1 : ((spec_l1Below.f s0_0 x1001_3 x1002_3 (l1.length : Int)).bind fun bt159 => ((spec_l1Below.f s0_0 bt159.2.1 bt159.2.2 (l1.length : Int)).bind fun bt162 => (some (x147000_13, (⟨#[]⟩ : ByteArray), bt159.1, bt162.1, bt162.2.1, bt162.2.2)))) = some (r1, r2, r3, r4, r5, r6) := by rw [if_pos rfl] at H; exact H
          clear H
          have H := H1
          clear H1
          replace H := Option.bind_eq_some_iff.mp H
          obtain ⟨⟨t159, t160, t161⟩, A450, H⟩ := H
          replace H : ((spec_l1Below.f s0_0 t160 t161 (l1.length : Int)).bind fun bt162 => (some (x147000_13, (⟨#[]⟩ : ByteArray), t159, bt162.1, bt162.2.1, bt162.2.2))) = some (r1, r2, r3, r4, r5, r6) := H
          have A45 := Aside0.mk A450
          clear A450
          replace H := Option.bind_eq_some_iff.mp H
          obtain ⟨⟨t162, t163, t164⟩, A460, H⟩ := H
          replace H : (some (x147000_13, (⟨#[]⟩ : ByteArray), t159, t162, t163, t164)) = some (r1, r2, r3, r4, r5, r6) := H
          have A46 := Aside0.mk A460
          clear A460
          simp only [Option.some.injEq, Prod.mk.injEq] at H
          obtain ⟨rfl, rfl, rfl, rfl, rfl, rfl⟩ := H
          go_wp2_with (first | ((with_reducible refine gate_callee (f := 71) rfl ?_); refine goesL_ (some 43) rfl rfl Try.func71 (by kernel_rfl) rfl #[.pointer (some ⟨g, 0, none⟩), .int .i64 (l1.length : Int)] rfl z2_9 ?_; (with_reducible refine (spec_l1Below.calls g s0_0 x1001_3 x1002_3 (l1.length : Int) t159 t160 t161 w0 _ ?side1 ?side2 A45.out).mono ?_); (case side1 => exact z2_1); (case side2 => exact z2_2); rintro e w47 ⟨rfl, hi, hb, hk⟩; refine ⟨_, rfl, ?_⟩; have n0_ := Aside0.mk (KeepBut.blk hk (g' := gb142) (o := .cells #[.int .i64 0, .string (⟨#[]⟩ : ByteArray), .int .i64 0, .int .i64 0] 31 (0, 0)) (bd2_ BK142.out) NB142_0.out (by simp)); have n1_ := Aside0.mk (KeepBut.blk hk (g' := gb146) (o := .cells #[.int .i64 x147000_13, .string (⟨#[]⟩ : ByteArray), .int .i64 (wrap64 ((l1.length : Int) - 1)), .int .i64 0] 31 (0, 0)) (bd2_ BK146.out) NB146_0.out (by simp)); have n2_ := Aside0.mk (KeepBut.trans z2_0 hk (.inl rfl)); have n3_ := Aside0.mk (hb); have n4_ := Aside0.mk (hi); clear BK142; clear BK146; clear HK; clear HB; clear HI0; have BK142 := n0_; have BK146 := n1_; have HK := n2_; have HB := n3_; have HI0 := n4_; clear n0_ n1_ n2_ n3_ n4_; (try clear hb); (try clear hb2); (try clear hk); (try clear hi); have hnb48 := NB146_142.out; have hnc48 := NB142_146.out; have hnb49 := NB146_0.out; have hnc49 := NB0_146.out; have hcz50_0 : w47.cell? ⟨gb146, 0, none⟩ = some (.int .i64 x147000_13) := (blk_cell BK146.out 0).trans rfl; have hcz50_1 : w47.cell? ⟨gb146, 1, none⟩ = some (.string (⟨#[]⟩ : ByteArray)) := (blk_cell BK146.out 1).trans rfl; have hcz50_2 : w47.cell? ⟨gb146, 2, none⟩ = some (.int .i64 (wrap64 ((l1.length : Int) - 1))) := (blk_cell BK146.out 2).trans rfl; have hcz50_3 : w47.cell? ⟨gb146, 3, none⟩ = some (.int .i64 0) := (blk_cell BK146.out 3).trans rfl; have hfz50_0 := blk_frozen BK146.out 0; have hfz50_1 := blk_frozen BK146.out 1; have hfz50_2 := blk_frozen BK146.out 2; have hfz50_3 := blk_frozen BK146.out 3) | ((with_reducible refine gate_callee (f := 71) rfl ?_); refine goesL_ (some 48) rfl rfl Try.func71 (by kernel_rfl) rfl #[.pointer (some ⟨g, 0, none⟩), .int .i64 (l1.length : Int)] rfl z2_9 ?_; (with_reducible refine (spec_l1Below.calls g s0_0 t160 t161 (l1.length : Int) t162 t163 t164 w0 _ ?side1 ?side2 A46.out).mono ?_); (case side1 => exact z2_1); (case side2 => exact z2_2); rintro e w51 ⟨rfl, hi, hb, hk⟩; refine ⟨_, rfl, ?_⟩; have n0_ := Aside0.mk (KeepBut.blk hk (g' := gb142) (o := .cells #[.int .i64 0, .string (⟨#[]⟩ : ByteArray), .int .i64 0, .int .i64 0] 31 (0, 0)) z2_4 NB142_0.out (by simp)); have n1_ := Aside0.mk (KeepBut.blk hk (g' := gb146) (o := .cells #[.int .i64 x147000_13, .string (⟨#[]⟩ : ByteArray), .int .i64 t159, .int .i64 0] 31 (0, 0)) (by (with_reducible repeat (first | refine blk_drewN ?_ _ | refine blk_drew ?_ | refine blk_alloc ?_ _)); refine blk_put (cs := #[.int .i64 x147000_13, .string (⟨#[]⟩ : ByteArray), .int .i64 (wrap64 ((l1.length : Int) - 1)), .int .i64 0]) ?_ 2 _ rfl; (with_reducible repeat (first | refine blk_drewN ?_ _ | refine blk_drew ?_ | refine blk_alloc ?_ _)); exact BK146.out) NB146_0.out (by simp)); have n2_ := Aside0.mk (KeepBut.trans z2_0 hk (.inl rfl)); have n3_ := Aside0.mk (hb); have n4_ := Aside0.mk (hi); clear BK142; clear BK146; clear HK; clear HB; clear HI0; have BK142 := n0_; have BK146 := n1_; have HK := n2_; have HB := n3_; have HI0 := n4_; clear n0_ n1_ n2_ n3_ n4_; (try clear hb); (try clear hb2); (try clear hk); (try clear hi); have hcz52_0 : w51.cell? ⟨gb146, 0, none⟩ = some (.int .i64 x147000_13) := (blk_cell BK146.out 0).trans rfl; have hcz52_1 : w51.cell? ⟨gb146, 1, none⟩ = some (.string (⟨#[]⟩ : ByteArray)) := (blk_cell BK146.out 1).trans rfl; have hcz52_2 : w51.cell? ⟨gb146, 2, none⟩ = some (.int .i64 t159) := (blk_cell BK146.out 2).trans rfl; have hcz52_3 : w51.cell? ⟨gb146, 3, none⟩ = some (.int .i64 0) := (blk_cell BK146.out 3).trans rfl; have hfz52_0 := blk_frozen BK146.out 0; have hfz52_1 := blk_frozen BK146.out 1; have hfz52_2 := blk_frozen BK146.out 2; have hfz52_3 := blk_frozen BK146.out 3; have hnb53 := NB142_0.out; have hnc53 := NB0_142.out; have hcz54_0 : w51.cell? ⟨gb142, 0, none⟩ = some (.int .i64 0) := (blk_cell BK142.out 0).trans rfl; have hcz54_1 : w51.cell? ⟨gb142, 1, none⟩ = some (.string (⟨#[]⟩ : ByteArray)) := (blk_cell BK142.out 1).trans rfl; have hcz54_2 : w51.cell? ⟨gb142, 2, none⟩ = some (.int .i64 0) := (blk_cell BK142.out 2).trans rfl; have hcz54_3 : w51.cell? ⟨gb142, 3, none⟩ = some (.int .i64 0) := (blk_cell BK142.out 3).trans rfl; have hfz54_0 := blk_frozen BK142.out 0; have hfz54_1 := blk_frozen BK142.out 1; have hfz54_2 := blk_frozen BK142.out 2; have hfz54_3 := blk_frozen BK142.out 3))
          refine bodyPost_ret (results_cell_row rfl _ _ gb142 31 #[.int .i64 x147000_13, .string (⟨#[]⟩ : ByteArray), .int .i64 t159, .int .i64 t162] (0, 0) _ rfl (by (with_reducible repeat (first | refine blk_drewN ?_ _ | refine blk_drew ?_ | refine blk_alloc ?_ _)); refine blk_put (cs := #[.int .i64 x147000_13, .string (⟨#[]⟩ : ByteArray), .int .i64 t159, .int .i64 0]) ?_ 3 _ rfl; (with_reducible repeat (first | refine blk_drewN ?_ _ | refine blk_drew ?_ | refine blk_alloc ?_ _)); refine blk_put (cs := #[.int .i64 x147000_13, .string (⟨#[]⟩ : ByteArray), .int .i64 0, .int .i64 0]) ?_ 2 _ rfl; (with_reducible repeat (first | refine blk_drewN ?_ _ | refine blk_drew ?_ | refine blk_alloc ?_ _)); refine blk_put (cs := #[.int .i64 x147000_13, .string (⟨#[]⟩ : ByteArray), .int .i64 0, .int .i64 0]) ?_ 1 _ rfl; (with_reducible repeat (first | refine blk_drewN ?_ _ | refine blk_drew ?_ | refine blk_alloc ?_ _)); refine blk_put (cs := #[.int .i64 0, .string (⟨#[]⟩ : ByteArray), .int .i64 0, .int .i64 0]) ?_ 0 _ rfl; (with_reducible repeat (first | refine blk_drewN ?_ _ | refine blk_drew ?_ | refine blk_alloc ?_ _)); refine blk_far ?_ NB142_146.out _; (with_reducible repeat (first | refine blk_drewN ?_ _ | refine blk_drew ?_ | refine blk_alloc ?_ _)); exact BK142.out) Try.underlying31 rfl (by kernel_rfl)) rfl ?_
          exact ⟨by first | rfl | (simp [errW_none, errW_some] <;> rfl) | (simp [*, errW_none, errW_some] <;> rfl), z2_1, z2_2, z2_0⟩
         ·replace c44 := Bool.eq_false_iff.mpr c44
          subst c44
          have H1 : (spec_l15Step.l0 kj32 l1 s0_0 x1001_3 x1002_3 x147000_13 (⟨#[]⟩ : ByteArray) (wrap64 ((l1.length : Int) - 1)) 0) = some (r1, r2, r3, r4, r5, r6) := by rw [if_neg (show ¬ (false = true) by decide)] at H; exact H
          clear H
          have H := H1
          clear H1
          have H' := Aside0.mk H
          clear H
          go_wp2
          go_loopg [] kj32 (fun kq w' => ∃ (x147002_4 : Int), Aside0 (spec_l15Step.l0 kq l1 s0_0 x1001_3 x1002_3 x147000_13 (⟨#[]⟩ : ByteArray) x147002_4 0 = some (r1, r2, r3, r4, r5, r6)) ∧ Aside0 (kq ≤ kj32) ∧ Aside0 (w'.heap[gb142]? = some (.cells #[.int .i64 0, .string (⟨#[]⟩ : ByteArray), .int .i64 0, .int .i64 0] 31 (0, 0))) ∧ Aside0 (w'.heap[gb146]? = some (.cells #[.int .i64 x147000_13, .string (⟨#[]⟩ : ByteArray), .int .i64 x147002_4, .int .i64 0] 31 (0, 0))) ∧ Aside0 (IsS98 w0 w' g s0_0 x1001_3 x1002_3) ∧ Aside0 (KeepBut w w' g none) ∧ Aside0 (Below w0.heap.size w0 w'))
          case atStart => exact ⟨((wrap64 ((l1.length : Int) - 1))), H', ⟨Nat.le_refl _⟩, ⟨by (with_reducible repeat (first | refine blk_drewN ?_ _ | refine blk_drew ?_ | refine blk_alloc ?_ _)); exact BK142.out⟩, ⟨by (with_reducible repeat (first | refine blk_drewN ?_ _ | refine blk_drew ?_ | refine blk_alloc ?_ _)); exact BK146.out⟩, ⟨z2_1⟩, ⟨z2_0⟩, ⟨z2_2⟩⟩
          case round =>
           clear H'
           try clear c1
           try clear c2
           try clear p2
           try clear c3
           try clear c4
           try clear c5
           try clear p6
           try clear c7
           try clear c8
           try clear c9
           try clear c11
           try clear c11b0
           try clear c11b1
           try clear c11b2
           try clear c15
           try clear c16
           try clear c17
           try clear c19
           try clear c19b0
           try clear c19b1
           try clear c22
           try clear c23
           try clear c31
           try clear c34
           try clear c35
           try clear c37
           try clear c37b0
           try clear c37b1
           try clear c38
           try clear c39
           try clear c41
           try clear c42
           try clear c44
           try clear c48
           try clear c49
           try clear c53
           try clear hcz10_0
           try clear hcz10_1
           try clear hcz10_2
           try clear hcz10_3
           try clear hcz18_0
           try clear hcz18_1
           try clear hcz18_2
           try clear hcz18_3
           try clear hcz24_0
           try clear hcz24_1
           try clear hcz24_2
           try clear hcz24_3
           try clear hcz30_0
           try clear hcz30_1
           try clear hcz30_2
           try clear hcz30_3
           try clear hcz32_0
           try clear hcz32_1
           try clear hcz32_2
           try clear hcz32_3
           try clear hcz36_0
           try clear hcz36_1
           try clear hcz36_2
           try clear hcz36_3
           try clear hcz40_0
           try clear hcz40_1
           try clear hcz40_2
           try clear hcz40_3
           try clear hcz43_0
           try clear hcz43_1
           try clear hcz43_2
           try clear hcz43_3
           try clear hcz50_0
           try clear hcz50_1
           try clear hcz50_2
           try clear hcz50_3
           try clear hcz52_0
           try clear hcz52_1
           try clear hcz52_2
           try clear hcz52_3
           try clear hcz54_0
           try clear hcz54_1
           try clear hcz54_2
           try clear hcz54_3
           try clear hfz10_0
           try clear hfz10_1
           try clear hfz10_2
           try clear hfz10_3
           try clear hfz18_0
           try clear hfz18_1
           try clear hfz18_2
           try clear hfz18_3
           try clear hfz24_0
           try clear hfz24_1
           try clear hfz24_2
           try clear hfz24_3
           try clear hfz30_0
           try clear hfz30_1
           try clear hfz30_2
           try clear hfz30_3
           try clear hfz32_0
           try clear hfz32_1
           try clear hfz32_2
           try clear hfz32_3
           try clear hfz36_0
           try clear hfz36_1
           try clear hfz36_2
           try clear hfz36_3
           try clear hfz40_0
           try clear hfz40_1
           try clear hfz40_2
           try clear hfz40_3
           try clear hfz43_0
           try clear hfz43_1
           try clear hfz43_2
           try clear hfz43_3
           try clear hfz50_0
           try clear hfz50_1
           try clear hfz50_2
           try clear hfz50_3
           try clear hfz52_0
           try clear hfz52_1
           try clear hfz52_2
           try clear hfz52_3
           try clear hfz54_0
           try clear hfz54_1
           try clear hfz54_2
           try clear hfz54_3
           try clear p2
           try clear p6
           obtain ⟨x147002_4, HA, HK4, BK142, BK146, HI0, HK, HB⟩ := hrel
           cases gk with
           | zero => exact absurd HA.out (by simp [spec_l15Step.l0])
           | succ k4 =>
            have H := HA.out
            clear HA
            simp only [spec_l15Step.l0] at H
            by_cases c55 : x147000_13 = 2
            ·rw [if_pos c55] at H
             have c55b0 : (x147000_13 == 2) = true := beq_iff_eq.mpr c55
             have c55b1 : (x147000_13 != 2) = false := bne_eq_false_iff_eq.mpr c55
             clear c55
             simp only [Option.some.injEq, Prod.mk.injEq] at H
             obtain ⟨rfl, rfl, rfl, rfl, rfl, rfl⟩ := H
             have hnb56 := NB146_142.out
             have hnc56 := NB142_146.out
             have hnb57 := NB146_0.out
             have hnc57 := NB0_146.out
             have hcz58_0 : wr.cell? ⟨gb146, 0, none⟩ = some (.int .i64 x147000_13) := (blk_cell BK146.out 0).trans rfl
             have hcz58_1 : wr.cell? ⟨gb146, 1, none⟩ = some (.string (⟨#[]⟩ : ByteArray)) := (blk_cell BK146.out 1).trans rfl
             have hcz58_2 : wr.cell? ⟨gb146, 2, none⟩ = some (.int .i64 x147002_4) := (blk_cell BK146.out 2).trans rfl
             have hcz58_3 : wr.cell? ⟨gb146, 3, none⟩ = some (.int .i64 0) := (blk_cell BK146.out 3).trans rfl
             have hfz58_0 := blk_frozen BK146.out 0
             have hfz58_1 := blk_frozen BK146.out 1
             have hfz58_2 := blk_frozen BK146.out 2
             have hfz58_3 := blk_frozen BK146.out 3
             have hnb59 := NB142_0.out
             have hnc59 := NB0_142.out
             have hcz60_0 : wr.cell? ⟨gb142, 0, none⟩ = some (.int .i64 0) := (blk_cell BK142.out 0).trans rfl
             have hcz60_1 : wr.cell? ⟨gb142, 1, none⟩ = some (.string (⟨#[]⟩ : ByteArray)) := (blk_cell BK142.out 1).trans rfl
             have hcz60_2 : wr.cell? ⟨gb142, 2, none⟩ = some (.int .i64 0) := (blk_cell BK142.out 2).trans rfl
             have hcz60_3 : wr.cell? ⟨gb142, 3, none⟩ = some (.int .i64 0) := (blk_cell BK142.out 3).trans rfl
             have hfz60_0 := blk_frozen BK142.out 0
             have hfz60_1 := blk_frozen BK142.out 1
             have hfz60_2 := blk_frozen BK142.out 2
             have hfz60_3 := blk_frozen BK142.out 3
             go_wp2
             refine bodyPost_ret (results_cell_row rfl _ _ gb142 31 #[.int .i64 x147000_13, .string (⟨#[]⟩ : ByteArray), .int .i64 x147002_4, .int .i64 0] (0, 0) _ rfl z2_6 Try.underlying31 rfl (by kernel_rfl)) rfl ?_
             exact ⟨by first | rfl | (simp [errW_none, errW_some] <;> rfl) | (simp [*, errW_none, errW_some] <;> rfl), z2_1, z2_2, z2_0⟩
            ·rw [if_neg c55] at H
             have c55b0 : (x147000_13 == 2) = false := beq_eq_false_iff_ne.mpr c55
             have c55b1 : (x147000_13 != 2) = true := bne_iff_ne.mpr c55
             by_cases c61 : 0 ≤ x147002_4
             ·rw [if_pos c61] at H
              have c61b0 : decide (0 ≤ x147002_4) = true := decide_eq_true c61
              clear c61
              by_cases c62 : x147002_4 < (l1.length : Int)
              ·rw [if_pos c62] at H
               have c62b0 : decide (x147002_4 < (l1.length : Int)) = true := decide_eq_true c62
               clear c62
               by_cases c63 : ((rd_T31 l1 x147002_4).f0) = 1
               ·rw [if_pos c63] at H
                have c63b0 : (((rd_T31 l1 x147002_4).f0) == 1) = true := beq_iff_eq.mpr c63
                have c63b1 : (((rd_T31 l1 x147002_4).f0) != 1) = false := bne_eq_false_iff_eq.mpr c63
                clear c63
                simp only [Option.some.injEq, Prod.mk.injEq] at H
                obtain ⟨rfl, rfl, rfl, rfl, rfl, rfl⟩ := H
                have hnb64 := NB146_142.out
                have hnc64 := NB142_146.out
                have hnb65 := NB146_0.out
                have hnc65 := NB0_146.out
                have hcz66_0 : wr.cell? ⟨gb146, 0, none⟩ = some (.int .i64 x147000_13) := (blk_cell BK146.out 0).trans rfl
                have hcz66_1 : wr.cell? ⟨gb146, 1, none⟩ = some (.string (⟨#[]⟩ : ByteArray)) := (blk_cell BK146.out 1).trans rfl
                have hcz66_2 : wr.cell? ⟨gb146, 2, none⟩ = some (.int .i64 x147002_4) := (blk_cell BK146.out 2).trans rfl
                have hcz66_3 : wr.cell? ⟨gb146, 3, none⟩ = some (.int .i64 0) := (blk_cell BK146.out 3).trans rfl
                have hfz66_0 := blk_frozen BK146.out 0
                have hfz66_1 := blk_frozen BK146.out 1
                have hfz66_2 := blk_frozen BK146.out 2
                have hfz66_3 := blk_frozen BK146.out 3
                have p165 : 0 ≤ (x147002_4 : Int) := of_decide_eq_true (by first | (with_reducible assumption) | assumption)
                have q165 : x147002_4 < (l1.length : Int) := of_decide_eq_true (by first | (with_reducible assumption) | assumption)
                obtain ⟨ad165, e165, hx165_0, hx165_1, hx165_2, hx165_3⟩ := at_T31 (Kd.C_foot_now HR1.out HK.out) x147002_4 p165 q165
                cases e165
                replace p165 := eq_true p165
                replace q165 := eq_true q165
                have hnb67 := NB142_0.out
                have hnc67 := NB0_142.out
                have hcz68_0 : wr.cell? ⟨gb142, 0, none⟩ = some (.int .i64 0) := (blk_cell BK142.out 0).trans rfl
                have hcz68_1 : wr.cell? ⟨gb142, 1, none⟩ = some (.string (⟨#[]⟩ : ByteArray)) := (blk_cell BK142.out 1).trans rfl
                have hcz68_2 : wr.cell? ⟨gb142, 2, none⟩ = some (.int .i64 0) := (blk_cell BK142.out 2).trans rfl
                have hcz68_3 : wr.cell? ⟨gb142, 3, none⟩ = some (.int .i64 0) := (blk_cell BK142.out 3).trans rfl
                have hfz68_0 := blk_frozen BK142.out 0
                have hfz68_1 := blk_frozen BK142.out 1
                have hfz68_2 := blk_frozen BK142.out 2
                have hfz68_3 := blk_frozen BK142.out 3
                go_wp2
                refine bodyPost_ret (results_cell_row rfl _ _ gb142 31 #[.int .i64 x147000_13, .string (⟨#[]⟩ : ByteArray), .int .i64 x147002_4, .int .i64 0] (0, 0) _ rfl z2_6 Try.underlying31 rfl (by kernel_rfl)) rfl ?_
                exact ⟨by first | rfl | (simp [errW_none, errW_some] <;> rfl) | (simp [*, errW_none, errW_some] <;> rfl), z2_1, z2_2, z2_0⟩
               ·rw [if_neg c63] at H
                have c63b0 : (((rd_T31 l1 x147002_4).f0) == 1) = false := beq_eq_false_iff_ne.mpr c63
                have c63b1 : (((rd_T31 l1 x147002_4).f0) != 1) = true := bne_iff_ne.mpr c63
                have H' := Aside0.mk H
                clear H
                have hnb69 := NB146_142.out
                have hnc69 := NB142_146.out
                have hnb70 := NB146_0.out
                have hnc70 := NB0_146.out
                have hcz71_0 : wr.cell? ⟨gb146, 0, none⟩ = some (.int .i64 x147000_13) := (blk_cell BK146.out 0).trans rfl
                have hcz71_1 : wr.cell? ⟨gb146, 1, none⟩ = some (.string (⟨#[]⟩ : ByteArray)) := (blk_cell BK146.out 1).trans rfl
                have hcz71_2 : wr.cell? ⟨gb146, 2, none⟩ = some (.int .i64 x147002_4) := (blk_cell BK146.out 2).trans rfl
                have hcz71_3 : wr.cell? ⟨gb146, 3, none⟩ = some (.int .i64 0) := (blk_cell BK146.out 3).trans rfl
                have hfz71_0 := blk_frozen BK146.out 0
                have hfz71_1 := blk_frozen BK146.out 1
                have hfz71_2 := blk_frozen BK146.out 2
                have hfz71_3 := blk_frozen BK146.out 3
                have p165 : 0 ≤ (x147002_4 : Int) := of_decide_eq_true (by first | (with_reducible assumption) | assumption)
                have q165 : x147002_4 < (l1.length : Int) := of_decide_eq_true (by first | (with_reducible assumption) | assumption)
                obtain ⟨ad165, e165, hx165_0, hx165_1, hx165_2, hx165_3⟩ := at_T31 (Kd.C_foot_now HR1.out HK.out) x147002_4 p165 q165
                cases e165
                replace p165 := eq_true p165
                replace q165 := eq_true q165
                go_wp2
                go_roundg k4
                case measure => have := HJ3.out; have := HJ13.out; have := HJ32.out; have := HK4.out; omega
                case rel => exact ⟨(wrap64 (x147002_4 - 1)), H', ⟨by have := HJ3.out; have := HJ13.out; have := HJ32.out; have := HK4.out; omega⟩, ⟨z2_4⟩, ⟨by (with_reducible repeat (first | refine blk_drewN ?_ _ | refine blk_drew ?_ | refine blk_alloc ?_ _)); refine blk_put (cs := #[.int .i64 x147000_13, .string (⟨#[]⟩ : ByteArray), .int .i64 x147002_4, .int .i64 0]) ?_ 2 _ rfl; (with_reducible repeat (first | refine blk_drewN ?_ _ | refine blk_drew ?_ | refine blk_alloc ?_ _)); exact BK146.out⟩, ⟨z2_1⟩, ⟨z2_0⟩, ⟨z2_2⟩⟩
              ·rw [if_neg c62] at H
               exact absurd H (by simp)
             ·rw [if_neg c61] at H
              exact absurd H (by simp)

/-! ### spec_l15Draw: function 83 -/
def spec_l15Draw.l0 : Nat → List (S31) → Int → List Int → Int → Int → Option ((List (S31)) × Int × Int)
  | 0, _, _, _, _, _ => none
  | k + 1, x3, x4, x1000, x1001, x1002 => if x4 > 0 then ((spec_l15Step.f k x1000 x1001 x1002 x3).bind fun bt172 => (if x3.length < 3518437208883 then (spec_l15Draw.l0 k (x3 ++ [(⟨bt172.1, bt172.2.1, bt172.2.2.1, bt172.2.2.2.1⟩ : S31)]) (wrap64 (x4 - 1)) x1000 bt172.2.2.2.2.1 bt172.2.2.2.2.2) else (none))) else (some (x3, x1001, x1002))
def spec_l15Draw.f (k : Nat) (s0_0 : List Int) (s0_1 : Int) (s0_2 : Int) : Option ((List (S31)) × Int × Int) := (spec_l1Below.f s0_0 s0_1 s0_2 5).bind fun bt169 => (spec_l15Draw.l0 k (([] : List (S31))) (wrap64 (1 + bt169.1)) s0_0 bt169.2.1 bt169.2.2)
theorem spec_l15Draw.mono_l : ∀ k, (∀ y0 y1 y2 y3 y4, LeO (spec_l15Draw.l0 k y0 y1 y2 y3 y4) (spec_l15Draw.l0 (k + 1) y0 y1 y2 y3 y4))
  | 0 => fun _ _ _ _ _ r h => by simp [spec_l15Draw.l0] at h
  | k + 1 => by
   have ih0 := spec_l15Draw.mono_l k
   ·intro y0 y1 y2 y3 y4
    unfold spec_l15Draw.l0
    repeat' first
    | (with_reducible exact ih0 _ _ _ _ _)
    | (with_reducible exact spec_l15Step.mono _ _ _ _ _)
    | (with_reducible exact LeO.refl _)
    | (with_reducible exact LeO.none _)
    | (with_reducible refine LeO.ite ?_ ?_)
    | (with_reducible refine LeO.bind ?_ (fun _ => ?_))
    | exact ih0 _ _ _ _ _
    | exact spec_l15Step.mono _ _ _ _ _
    | exact LeO.none _
    | refine LeO.ite ?_ ?_
    | refine LeO.bind ?_ (fun _ => ?_)
theorem spec_l15Draw.mono : ∀ a0 a1 a2 k, LeO (spec_l15Draw.f k a0 a1 a2) (spec_l15Draw.f (k + 1) a0 a1 a2) := by
  intro a0 a1 a2 k
  have ih0 := spec_l15Draw.mono_l k
  unfold spec_l15Draw.f
  repeat' first
    | (with_reducible exact ih0 _ _ _ _ _)
    | (with_reducible exact spec_l15Step.mono _ _ _ _ _)
    | (with_reducible exact LeO.refl _)
    | (with_reducible exact LeO.none _)
    | (with_reducible refine LeO.ite ?_ ?_)
    | (with_reducible refine LeO.bind ?_ (fun _ => ?_))
    | exact ih0 _ _ _ _ _
    | exact spec_l15Step.mono _ _ _ _ _
    | exact LeO.none _
    | refine LeO.ite ?_ ?_
    | refine LeO.bind ?_ (fun _ => ?_)
set_option maxHeartbeats 8000000 in
set_option maxRecDepth 100000 in
theorem spec_l15Draw.calls (k : Nat) (g : Nat) (s0_0 : List Int) (s0_1 : Int) (s0_2 : Int) (r1 : List (S31)) (r2 : Int) (r3 : Int) (w0 w : World) (hI : IsS98 w0 w g s0_0 s0_1 s0_2) (hB : Below w0.heap.size w0 w) (h : spec_l15Draw.f k s0_0 s0_1 s0_2 = some (r1, r2, r3)) :
   Calls Try.prog 83 #[.pointer (some ⟨g, 0, none⟩)] w fun e w' => ∃ v0_ : Value, e = .returned (v0_) ∧ Kd.R k31 31 w' w.heap.size (fun _ => True) v0_ r1 ∧ IsS98 w0 w' g s0_0 r2 r3 ∧ Below w0.heap.size w0 w' ∧ KeepBut w w' g none := by
  have HI0 := Aside0.mk hI
  have HK := Aside0.mk (KeepBut.refl w g none)
  have HL := Aside0.mk hB.size
  clear hI
  have HW0 := Aside0.mk hB.size
  have HB := Aside0.mk hB
  clear hB
  have H : ((spec_l1Below.f s0_0 s0_1 s0_2 5).bind fun bt169 => (spec_l15Draw.l0 k (([] : List (S31))) (wrap64 (1 + bt169.1)) s0_0 bt169.2.1 bt169.2.2)) = some (r1, r2, r3) := h
  clear h
  obtain ⟨y166, hy166⟩ : ∃ y_ : List (S31), y_ = (([] : List (S31))) := ⟨_, rfl⟩
  replace H : ((spec_l1Below.f s0_0 s0_1 s0_2 5).bind fun bt169 => (spec_l15Draw.l0 k y166 (wrap64 (1 + bt169.1)) s0_0 bt169.2.1 bt169.2.2)) = some (r1, r2, r3) := by first | (rw [hy166]; with_reducible exact H) | (have H2_ := (Option.bind_some _ _).symm.trans H; rw [hy166]; with_reducible exact H2_) | (have H2_ := (Option.bind_some _ _).symm.trans H; with_reducible exact H2_) | with_reducible exact H | (rw [hy166]; exact H) | exact H
  have Ny166 := Aside0.mk hy166
  clear hy166
  replace H := Option.bind_eq_some_iff.mp H
  obtain ⟨⟨t169, t170, t171⟩, A20, H⟩ := H
  replace H : (spec_l15Draw.l0 k y166 (wrap64 (1 + t169)) s0_0 t170 t171) = some (r1, r2, r3) := H
  have A2 := Aside0.mk A20
  clear A20
  have H' := Aside0.mk H
  clear H
  go_enter Try.func83, Try.ntmps83
  go_wp2_with (first | ((with_reducible refine gate_dst (N := 5) rfl ?_); refine Kd.R_lit k31 _ 31 ?hg (N := 5) ?hd (xs := ([] : List (S31))) (inner := []) (ok := fun _ => True) (okp := fun _ => True) ?hr ?hp (fun _ hk => hk) trivial (Below.refl _ _) (Nat.le_refl _) (by simp) ?_; (case hd => rfl); (case hg => rfl); (case hr => first | (go_simp; done) | (go_simp; rfl)); (case hp => exact (Reps.none _ _)); intro v167 w3 ho4 hb hg_ hnew_; clear hg_ hnew_; (first | rw [← Ny166.out] at ho4 | (simp only [Int.reduceToNat] at ho4; rw [← Ny166.out] at ho4)); have n0_ := Aside0.mk (Kd.R_lower ho4 (keep_size (w := w) (g := g) (row := none) z2_3)); have n1_ := Aside0.mk (IsS98.below z2_8 hb); have n2_ := Aside0.mk (KeepBut.trans z2_3 (KeepBut.of_below hb g none) (.inl rfl)); have n3_ := Aside0.mk (below_step z2_7 hb); clear HI0; clear HK; clear HB; have HO168 := n0_; have HI0 := n1_; have HK := n2_; have HB := n3_; clear n0_ n1_ n2_ n3_; clear hb ho4) | ((with_reducible refine gate_callee (f := 71) rfl ?_); refine goesL_ (some 7) rfl rfl Try.func71 (by kernel_rfl) rfl #[.pointer (some ⟨g, 0, none⟩), .int .i64 5] rfl z2_9 ?_; (with_reducible refine (spec_l1Below.calls g s0_0 s0_1 s0_2 5 t169 t170 t171 w0 _ ?side1 ?side2 A2.out).mono ?_); (case side1 => exact z2_8); (case side2 => exact z2_7); rintro e w5 ⟨rfl, hi, hb, hk⟩; refine ⟨_, rfl, ?_⟩; have n0_ := Aside0.mk (Kd.R_mono (Kd.R_keep (IsS98.apart (show IsS98 w0 _ g s0_0 s0_1 s0_2 from by repeat (first | (with_reducible first | exact HI0.out | apply IsS98.alloc | apply IsS98.drewN | apply IsS98.drew | apply IsS98.set_1 | apply IsS98.set_2) | exact HI0.out)) (kd2_ HO168.out) (by decide)) hk (fun _ h => h.2)) (fun _ h => h.1)); have n1_ := Aside0.mk (KeepBut.trans z2_3 hk (.inl rfl)); have n2_ := Aside0.mk (hb); have n3_ := Aside0.mk (hi); clear HO168; clear HK; clear HB; clear HI0; have HO168 := n0_; have HK := n1_; have HB := n2_; have HI0 := n3_; clear n0_ n1_ n2_ n3_; (try clear hb); (try clear hb2); (try clear hk); (try clear hi)))
  go_loopg [3, 4] k (fun kq v3 v4 w' => ∃ (x3_1 : List (S31)) (x4_1 : Int) (x1001_1 : Int) (x1002_1 : Int), v4 = .int .i64 x4_1 ∧ Aside0 (spec_l15Draw.l0 kq x3_1 x4_1 s0_0 x1001_1 x1002_1 = some (r1, r2, r3)) ∧ Aside0 (kq ≤ k) ∧ Aside0 (Kd.R k31 31 w' w.heap.size (fun _ => True) v3 x3_1) ∧ Aside0 (IsS98 w0 w' g s0_0 x1001_1 x1002_1) ∧ Aside0 (KeepBut w w' g none) ∧ Aside0 (Below w0.heap.size w0 w'))
  case atStart => exact ⟨(y166), (wrap64 (1 + t169)), (t170), (t171), (by first | rfl | (simp; done) | (simp [*]; done)), H', ⟨Nat.le_refl _⟩, ⟨by (with_reducible repeat (first | apply Kd.R_alloc | apply Kd.R_drewN | apply Kd.R_drew)); exact HO168.out⟩, ⟨z2_8⟩, ⟨z2_3⟩, ⟨z2_7⟩⟩
  case round =>
   clear H'
   try clear p2
   obtain ⟨x3_1, x4_1, x1001_1, x1002_1, rfl, HA, HK1, HO_3, HI0, HK, HB⟩ := hrel
   cases gk with
   | zero => exact absurd HA.out (by simp [spec_l15Draw.l0])
   | succ k1 =>
    have H := HA.out
    clear HA
    simp only [spec_l15Draw.l0] at H
    by_cases c6 : x4_1 > 0
    ·rw [if_pos c6] at H
     have c6b0 : decide (0 < x4_1) = true := decide_eq_true c6
     clear c6
     replace H := Option.bind_eq_some_iff.mp H
     obtain ⟨⟨t172, t173, t174, t175, t176, t177⟩, A70, H⟩ := H
     replace H : (if x3_1.length < 3518437208883 then (spec_l15Draw.l0 k1 (x3_1 ++ [(⟨t172, t173, t174, t175⟩ : S31)]) (wrap64 (x4_1 - 1)) s0_0 t176 t177) else (none)) = some (r1, r2, r3) := H
     have A7 := Aside0.mk A70
     clear A70
     by_cases c8 : x3_1.length < 3518437208883
     ·rw [if_pos c8] at H
      have LMc8 := Aside0.mk c8
      clear c8
      obtain ⟨y178, hy178⟩ : ∃ y_ : List (S31), y_ = (x3_1 ++ [(⟨t172, t173, t174, t175⟩ : S31)]) := ⟨_, rfl⟩
      replace H : (spec_l15Draw.l0 k1 y178 (wrap64 (x4_1 - 1)) s0_0 t176 t177) = some (r1, r2, r3) := by first | (rw [hy178]; with_reducible exact H) | (have H2_ := (Option.bind_some _ _).symm.trans H; rw [hy178]; with_reducible exact H2_) | (have H2_ := (Option.bind_some _ _).symm.trans H; with_reducible exact H2_) | with_reducible exact H | (rw [hy178]; exact H) | exact H
      have Ny178 := Aside0.mk hy178
      clear hy178
      have H' := Aside0.mk H
      clear H
      obtain ⟨Ao9, co9, eo9⟩ := Kd.R_slice HO_3.out
      subst eo9
      go_wp2_with (first | ((with_reducible refine gate_callee (f := 98) rfl ?_); refine goesL_ (some 16) rfl rfl Try.func98 (by kernel_rfl) rfl #[.pointer (some ⟨g, 0, none⟩), .slice Ao9 x3_1.length co9] rfl z2_9 ?_; (with_reducible refine (spec_l15Step.calls k1 g s0_0 x1001_1 x1002_1 _ _ x3_1 t172 t173 t174 t175 t176 t177 w0 _ ?side1 ?side2 ?side3 ?side4 A7.out).mono ?_); (case side1 => exact z2_8); (case side2 => exact z2_7); (case side3 => exact Kd.C_foot_own (IsS98.apart (show IsS98 w0 _ g s0_0 x1001_1 x1002_1 from by repeat (first | (with_reducible first | exact HI0.out | apply IsS98.alloc | apply IsS98.drewN | apply IsS98.drew | apply IsS98.set_1 | apply IsS98.set_2) | exact HI0.out)) (kd2_ HO_3.out) (by decide)) (fun _ h_ => h_.2)); (case side4 => exact (Kd.R_reads' HO_3.out).2.1); rintro e w10 ⟨rfl, hi, hb, hk⟩; refine ⟨_, rfl, ?_⟩; have n0_ := Aside0.mk (Kd.R_mono (Kd.R_keep (IsS98.apart (show IsS98 w0 _ g s0_0 x1001_1 x1002_1 from by repeat (first | (with_reducible first | exact HI0.out | apply IsS98.alloc | apply IsS98.drewN | apply IsS98.drew | apply IsS98.set_1 | apply IsS98.set_2) | exact HI0.out)) (kd2_ HO_3.out) (by decide)) hk (fun _ h => h.2)) (fun _ h => h.1)); have n1_ := Aside0.mk (KeepBut.trans z2_3 hk (.inl rfl)); have n2_ := Aside0.mk (hb); have n3_ := Aside0.mk (hi); clear HO_3; clear HK; clear HB; clear HI0; have HO_3 := n0_; have HK := n1_; have HB := n2_; have HI0 := n3_; clear n0_ n1_ n2_ n3_; (try clear hb); (try clear hb2); (try clear hk); (try clear hi)) | ((with_reducible refine gate_builtin (b := .append) (xs := #[.tmp 13, .tmp 17]) rfl ?_); at_builtin; refine Kd.R_append k31 w.heap.size rfl (.tmp 13) (.tmp 17) 24 31 (.agg #[(.int .i64 0), (.string ⟨#[]⟩), (.int .i64 0), (.int .i64 0)]) 40 rfl Try.underlying24 info31 rfl (by decide) (by omega) (.slice Ao9 x3_1.length co9) x3_1 (⟨t172, t173, t174, t175⟩ : S31) [.int .i64 t172, .string t173, .int .i64 t174, .int .i64 t175] (fun _ => True) (fun _ => False) rfl rfl ?aP (fun _ hk => hk.elim) ?aF ?aO (Below.refl _ _) ?aS ?aL ?_; (case aP => exact k31_mkM _ _ _ (⟨t172, t173, t174, t175⟩ : S31)); (case aF => exact (fun _ _ => trivial)); (case aO => exact (kd2_ HO_3.out)); (case aS => exact (keep_size (w := w) (g := g) (row := none) z2_3)); (case aL => have := LMc8.out; omega); intro v179 w11 ho hb hg hat; rw [← Ny178.out] at ho; have n0_ := Aside0.mk (IsS98.grown z2_8 hg (IsS98.own_ne HI0.out HO_3.out (by decide))); have n1_ := Aside0.mk (below_weaken z2_7 HL.out hb); have n2_ := Aside0.mk (KeepBut.trans z2_3 (KeepBut.of_grown hg g) (Kd.R_base2 HO_3.out)); have n3_ := Aside0.mk (ho); clear HI0; clear HB; clear HK; clear HO_3; have HI0 := n0_; have HB := n1_; have HK := n2_; have HO180 := n3_; clear n0_ n1_ n2_ n3_; clear ho hb hg hat))
      go_roundg k1
      case measure => have := HK1.out; omega
      case rel => exact ⟨(y178), (wrap64 (x4_1 - 1)), (t176), (t177), (by first | rfl | (simp; done) | (simp [*]; done)), H', ⟨by have := HK1.out; omega⟩, ⟨by (with_reducible repeat (first | apply Kd.R_alloc | apply Kd.R_drewN | apply Kd.R_drew)); exact HO180.out⟩, ⟨z2_8⟩, ⟨z2_3⟩, ⟨z2_7⟩⟩
     ·rw [if_neg c8] at H
      exact absurd H (by simp)
    ·rw [if_neg c6] at H
     have c6b0 : decide (0 < x4_1) = false := decide_eq_false c6
     clear c6
     simp only [Option.some.injEq, Prod.mk.injEq] at H
     obtain ⟨rfl, rfl, rfl⟩ := H
     go_wp2
     go_ret
     exact ⟨_, by first | rfl | (simp [errW_none, errW_some] <;> rfl) | (simp [*, errW_none, errW_some] <;> rfl), by (with_reducible repeat (first | apply Kd.R_alloc | apply Kd.R_drewN | apply Kd.R_drew)); exact HO_3.out, z2_8, z2_7, z2_3⟩

end Go.Proofs.Ytodcckiphdnjeab.QFnPlays
