-- Written by a changed copy of the kit's printer (wip/mp.py of this repo), for this claim; Lean checks it.
import Derived.Test.YtodcckiphdnjeabDoorQFnFillsx0
import Derived.Test.YtodcckiphdnjeabDoorQFnFillsx2
import Derived.Test.YtodcckiphdnjeabDoorQFnFillsx4
import Derived.Test.YtodcckiphdnjeabDoorQFnFillsx8
import Derived.Test.YtodcckiphdnjeabDoorQFnFillsx9
import Derived.Test.YtodcckiphdnjeabDoorQFnFillsx11
namespace Go.Proofs.YtodcckiphdnjeabDoor.QFnFills
open Go.RowKit Go.Proofs.YtodcckiphdnjeabDoorW.PrintWords Go.Proofs.YtodcckiphdnjeabDoorW.PrintLast Go.Proofs.YtodcckiphdnjeabDoorW.PrintMore
attribute [local go_sem] max2_int min2_int max_two min_two max_three min_three max_four min_four   -- for this text's walks alone
set_option linter.unusedVariables false
set_option linter.unusedSimpArgs false

theorem bd12_ {p q : Prop} (h0 : q) (h : q → p := by intro h_; (with_reducible repeat (first | refine blk_drewN ?_ _ | refine blk_drew ?_ | refine blk_alloc ?_ _)); exact h_) : p := h h0
theorem kd12_ {p q : Prop} (h0 : q) (h : q → p := by intro h_; (with_reducible repeat (first | apply Kd.R_alloc | apply Kd.R_drewN | apply Kd.R_drew)); exact h_) : p := h h0
theorem z12_0 {p : Prop} (h : p := by (with_reducible repeat (first | refine blk_drewN ?_ _ | refine blk_drew ?_ | refine blk_alloc ?_ _)); refine blk_put (cs := #[.int .i64 t330, .int .i64 t331, .string (⟨#[]⟩ : ByteArray)]) ?_ 2 _ rfl; (with_reducible repeat (first | refine blk_drewN ?_ _ | refine blk_drew ?_ | refine blk_alloc ?_ _)); refine blk_put (cs := #[.int .i64 t330, .int .i64 0, .string (⟨#[]⟩ : ByteArray)]) ?_ 1 _ rfl; (with_reducible repeat (first | refine blk_drewN ?_ _ | refine blk_drew ?_ | refine blk_alloc ?_ _)); refine blk_put (cs := #[.int .i64 0, .int .i64 0, .string (⟨#[]⟩ : ByteArray)]) ?_ 0 _ rfl; (with_reducible repeat (first | refine blk_drewN ?_ _ | refine blk_drew ?_ | refine blk_alloc ?_ _)); exact BK335.out) : p := h
theorem z12_1 {p : Prop} (h : p := by (with_reducible repeat (first | refine blk_drewN ?_ _ | refine blk_drew ?_ | refine blk_alloc ?_ _)); refine blk_far ?_ NB329_335.out _; (with_reducible repeat (first | refine blk_drewN ?_ _ | refine blk_drew ?_ | refine blk_alloc ?_ _)); refine blk_far ?_ NB329_335.out _; (with_reducible repeat (first | refine blk_drewN ?_ _ | refine blk_drew ?_ | refine blk_alloc ?_ _)); refine blk_far ?_ NB329_335.out _; (with_reducible repeat (first | refine blk_drewN ?_ _ | refine blk_drew ?_ | refine blk_alloc ?_ _)); exact BK329.out) : p := h
theorem z12_2 {p : Prop} (h : p := by repeat (first | (with_reducible first | exact HB.out | apply below_alloc | apply pw_below_drewN | apply below_drew1 | refine below_set ?_ (IsS68.ge HI339.out) | refine below_set ?_ GE329.out | refine below_set ?_ GE335.out) | exact HB.out)) : p := h
theorem z12_3 {p : Prop} (h : p := by (try simp only [List.map_toArray, List.map_cons, List.map_nil]); first | done | rfl | (simp only [List.length_drop, List.length_take]; rfl)) : p := h
theorem z12_4 {p : Prop} (h : p := by repeat (first | (with_reducible first | exact HB.out | apply below_alloc | apply pw_below_drewN | apply below_drew1) | exact HB.out)) : p := h
theorem z12_5 {p : Prop} (h : p := by repeat (first | (with_reducible first | exact HI339.out | apply IsS68.alloc | apply IsS68.drewN | apply IsS68.drew | apply IsS68.set_1 | apply IsS68.set_2 | refine IsS68.far ?_ NB339_329.out _ | refine IsS68.far ?_ NB339_335.out _) | exact HI339.out)) : p := h
theorem z12_6 {p : Prop} (h : p := by repeat (first | (with_reducible first | exact HB.out | apply below_alloc | apply pw_below_drewN | apply below_drew1 | refine below_set ?_ GE329.out) | exact HB.out)) : p := h
theorem z12_7 {p : Prop} (h : p := by (with_reducible repeat (first | refine blk_drewN ?_ _ | refine blk_drew ?_ | refine blk_alloc ?_ _)); refine blk_put (cs := #[.int .i64 t330, .int .i64 t331, .string (⟨#[]⟩ : ByteArray)]) ?_ 2 _ rfl; (with_reducible repeat (first | refine blk_drewN ?_ _ | refine blk_drew ?_ | refine blk_alloc ?_ _)); refine blk_put (cs := #[.int .i64 t330, .int .i64 0, .string (⟨#[]⟩ : ByteArray)]) ?_ 1 _ rfl; (with_reducible repeat (first | refine blk_drewN ?_ _ | refine blk_drew ?_ | refine blk_alloc ?_ _)); refine blk_put (cs := #[.int .i64 0, .int .i64 0, .string (⟨#[]⟩ : ByteArray)]) ?_ 0 _ rfl; (with_reducible repeat (first | refine blk_drewN ?_ _ | refine blk_drew ?_ | refine blk_alloc ?_ _)); exact BK329.out) : p := h
theorem pt12_ : (∀ (l : List Value) (i : Nat) (x : Value), l.toArray.setIfInBounds i x = (l.set i x).toArray) ∧ (∀ (a : Value) (l : List Value) (x : Value), (a :: l).set 0 x = x :: l) ∧ (∀ (a : Value) (l : List Value) (i : Nat) (x : Value), (a :: l).set (i + 1) x = a :: l.set i x) := ⟨fun _ _ _ => List.setIfInBounds_toArray .., fun _ _ _ => rfl, fun _ _ _ _ => rfl⟩
/-! ### spec_WordsFitting: function 21 -/
def spec_WordsFitting.l0 : Nat → List ByteArray → ByteArray → List ByteArray → Int → Option (List ByteArray)
  | 0, _, _, _, _ => none
  | k + 1, x0, x1, x5, x6 => if x6 < (x0.length : Int) then (if 0 ≤ x6 then ((spec_FitsPattern.f k x1 (rdOf ByteArray.empty x0 x6)).bind fun t324 => (if t324 = true then (if x5.length < 8796093022208 then (spec_WordsFitting.l0 k x0 x1 (x5 ++ [rdOf ByteArray.empty x0 x6]) (wrap64 (x6 + 1))) else (none)) else (spec_WordsFitting.l0 k x0 x1 x5 (wrap64 (x6 + 1))))) else (none)) else (some x5)
def spec_WordsFitting.f (k : Nat) (l0 : List ByteArray) (a1 : ByteArray) : Option (List ByteArray) := spec_WordsFitting.l0 k l0 a1 (([] : List ByteArray)) 0
theorem spec_WordsFitting.mono_l : ∀ k, (∀ y0 y1 y2 y3, LeO (spec_WordsFitting.l0 k y0 y1 y2 y3) (spec_WordsFitting.l0 (k + 1) y0 y1 y2 y3))
  | 0 => fun _ _ _ _ r h => by simp [spec_WordsFitting.l0] at h
  | k + 1 => by
   have ih0 := spec_WordsFitting.mono_l k
   ·intro y0 y1 y2 y3
    unfold spec_WordsFitting.l0
    repeat' first
    | (with_reducible exact ih0 _ _ _ _)
    | (with_reducible exact spec_FitsPattern.mono _ _ _)
    | (with_reducible exact LeO.refl _)
    | (with_reducible exact LeO.none _)
    | (with_reducible refine LeO.ite ?_ ?_)
    | (with_reducible refine LeO.bind ?_ (fun _ => ?_))
    | exact ih0 _ _ _ _
    | exact spec_FitsPattern.mono _ _ _
    | exact LeO.none _
    | refine LeO.ite ?_ ?_
    | refine LeO.bind ?_ (fun _ => ?_)
theorem spec_WordsFitting.mono : ∀ a0 a1 k, LeO (spec_WordsFitting.f k a0 a1) (spec_WordsFitting.f (k + 1) a0 a1) := by
  intro a0 a1 k
  have ih0 := spec_WordsFitting.mono_l k; unfold spec_WordsFitting.f
  repeat' first
    | (with_reducible exact ih0 _ _ _ _)
    | (with_reducible exact spec_FitsPattern.mono _ _ _)
    | (with_reducible exact LeO.refl _)
    | (with_reducible exact LeO.none _)
    | (with_reducible refine LeO.ite ?_ ?_)
    | (with_reducible refine LeO.bind ?_ (fun _ => ?_))
    | exact ih0 _ _ _ _
    | exact spec_FitsPattern.mono _ _ _
    | exact LeO.none _
    | refine LeO.ite ?_ ?_
    | refine LeO.bind ?_ (fun _ => ?_)
set_option maxHeartbeats 8000000 in
set_option maxRecDepth 100000 in
theorem spec_WordsFitting.calls (k : Nat) (A0 : Option Addr) (c0 : Nat) (l0 : List ByteArray) (a1 : ByteArray) (r : List ByteArray) (w : World) (hr0 : Kd.C Kd.string w A0 l0.length l0) (hc0 : l0.length ≤ c0) (h : spec_WordsFitting.f k l0 a1 = some r) :
   Calls Tryd.prog 21 #[.slice A0 l0.length c0, .string a1] w fun e w' => ∃ v0_ : Value, e = .returned (v0_) ∧ Kd.R Kd.string 9 w' w.heap.size (fun _ => True) v0_ r ∧ Below w.heap.size w w' := by
  have HR0 := Aside0.mk hr0; have HC0 := Aside0.mk hc0; clear hr0 hc0; have HB := Aside0.mk (Below.refl w.heap.size w); have H : (spec_WordsFitting.l0 k l0 a1 (([] : List ByteArray)) 0) = some r := h; clear h; obtain ⟨y320, hy320⟩ : ∃ y_ : List ByteArray, y_ = (([] : List ByteArray)) := ⟨_, rfl⟩; replace H : (spec_WordsFitting.l0 k l0 a1 y320 0) = some r := by first | (rw [hy320]; with_reducible exact H) | (have H2_ := (Option.bind_some _ _).symm.trans H; rw [hy320]; with_reducible exact H2_) | (have H2_ := (Option.bind_some _ _).symm.trans H; with_reducible exact H2_) | with_reducible exact H | (rw [hy320]; exact H) | exact H
  have Ny320 := Aside0.mk hy320; clear hy320; have H' := Aside0.mk H
  clear H; go_enter Tryd.func21, Tryd.ntmps21
  go_wp2_with (first | ((with_reducible refine gate_dst (N := 7) rfl ?_); refine Kd.R_lit Kd.string _ 9 ?hg (N := 7) ?hd (xs := ([] : List ByteArray)) (inner := []) (ok := fun _ => True) (okp := fun _ => True) ?hr ?hp (fun _ hk => hk) trivial (Below.refl _ _) (Nat.le_refl _) (by simp) ?_; (case hd => rfl); (case hg => rfl); (case hr => first | (go_simp; done) | (go_simp; rfl)); (case hp => exact (Reps.none _ _)); intro v321 w3 ho4 hb hg_ hnew_; clear hg_ hnew_; (first | rw [← Ny320.out] at ho4 | (simp only [Int.reduceToNat] at ho4; rw [← Ny320.out] at ho4)); have n0_ := Aside0.mk (Kd.R_lower ho4 (below_size z12_4)); have n1_ := Aside0.mk (below_step z12_4 hb); clear HB; have HO322 := n0_; have HB := n1_; clear n0_ n1_; clear hb ho4))
  go_loopg [5, 6] k (fun kq v5 v6 w' => ∃ (x5_1 : List ByteArray) (x6_1 : Int), v6 = .int .i64 x6_1 ∧ Aside0 (spec_WordsFitting.l0 kq l0 a1 x5_1 x6_1 = some r) ∧ Aside0 (kq ≤ k) ∧ Aside0 (Kd.R Kd.string 9 w' w.heap.size (fun _ => True) v5 x5_1) ∧ Aside0 (Below w.heap.size w w'))
  case atStart => exact ⟨(y320), (0), (by first | rfl | (simp; done) | (simp [*]; done)), H', ⟨Nat.le_refl _⟩, ⟨by (with_reducible repeat (first | apply Kd.R_alloc | apply Kd.R_drewN | apply Kd.R_drew)); exact HO322.out⟩, ⟨z12_4⟩⟩
  case round =>
   clear H'; try clear c2
   try clear p2
   obtain ⟨x5_1, x6_1, rfl, HA, HK1, HO_5, HB⟩ := hrel
   cases gk with
   | zero => exact absurd HA.out (by simp [spec_WordsFitting.l0])
   | succ k1 =>
    have H := HA.out; clear HA; simp only [spec_WordsFitting.l0] at H; by_cases c5 : x6_1 < (l0.length : Int)
    ·rw [if_pos c5] at H
     have c5b0 : decide (x6_1 < (l0.length : Int)) = true := decide_eq_true c5; clear c5; by_cases c6 : 0 ≤ x6_1
     ·rw [if_pos c6] at H
      have c6b0 : decide (0 ≤ x6_1) = true := decide_eq_true c6; clear c6; replace H := Option.bind_eq_some_iff.mp H; obtain ⟨t324, A70, H⟩ := H; replace H : (if t324 = true then (if x5_1.length < 8796093022208 then (spec_WordsFitting.l0 k1 l0 a1 (x5_1 ++ [rdOf ByteArray.empty l0 x6_1]) (wrap64 (x6_1 + 1))) else (none)) else (spec_WordsFitting.l0 k1 l0 a1 x5_1 (wrap64 (x6_1 + 1)))) = some r := H; have A7 := Aside0.mk A70; clear A70; by_cases c8 : t324 = true
      ·subst c8; have H1 : (if x5_1.length < 8796093022208 then (spec_WordsFitting.l0 k1 l0 a1 (x5_1 ++ [rdOf ByteArray.empty l0 x6_1]) (wrap64 (x6_1 + 1))) else (none)) = some r := by rw [if_pos rfl] at H; exact H
       clear H; have H := H1; clear H1; by_cases c9 : x5_1.length < 8796093022208
       ·rw [if_pos c9] at H
        have LMc9 := Aside0.mk c9; clear c9; obtain ⟨y326, hy326⟩ : ∃ y_ : List ByteArray, y_ = (x5_1 ++ [rdOf ByteArray.empty l0 x6_1]) := ⟨_, rfl⟩; replace H : (spec_WordsFitting.l0 k1 l0 a1 y326 (wrap64 (x6_1 + 1))) = some r := by first | (rw [hy326]; with_reducible exact H) | (have H2_ := (Option.bind_some _ _).symm.trans H; rw [hy326]; with_reducible exact H2_) | (have H2_ := (Option.bind_some _ _).symm.trans H; with_reducible exact H2_) | with_reducible exact H | (rw [hy326]; exact H) | exact H
        have Ny326 := Aside0.mk hy326; clear hy326; have H' := Aside0.mk H
        clear H; have p323 : 0 ≤ (x6_1 : Int) := of_decide_eq_true (by first | (with_reducible assumption) | assumption)
        have q323 : x6_1 < (l0.length : Int) := of_decide_eq_true (by first | (with_reducible assumption) | assumption)
        obtain ⟨ad323, e323, hx323_0⟩ := Kd.at_string HR0.out x6_1 p323 q323
        cases e323; try replace hx323_0 := (HB.out.cell (World.block_lt_of_cell? w _ hx323_0)).trans hx323_0
        replace p323 := eq_true p323; replace q323 := eq_true q323; go_wp2_with (first | ((with_reducible refine gate_callee (f := 44) rfl ?_); refine goesL_ (some 19) rfl rfl Tryd.func44 (by kernel_rfl) rfl #[.string a1, .string (rdOf ByteArray.empty l0 x6_1)] rfl z12_3 ?_; (with_reducible refine (spec_FitsPattern.calls k1 a1 (rdOf ByteArray.empty l0 x6_1) true _ A7.out).mono ?_); rintro e w' ⟨rfl, ⟨nd, rfl⟩⟩; refine ⟨_, rfl, ?_⟩; have p325 : 0 ≤ (x6_1 : Int) := of_decide_eq_true (by first | (with_reducible assumption) | assumption); have q325 : x6_1 < (l0.length : Int) := of_decide_eq_true (by first | (with_reducible assumption) | assumption); obtain ⟨ad325, e325, hx325_0⟩ := Kd.at_string HR0.out x6_1 p325 q325; obtain rfl : ad323 = ad325 := (by injection e325); replace hx325_0 := (HB.out.cell (World.block_lt_of_cell? w _ hx325_0)).trans hx325_0; replace p325 := eq_true p325; replace q325 := eq_true q325) | ((with_reducible refine gate_builtin (b := .append) (xs := #[.tmp 20, .tmp 25]) rfl ?_); at_builtin; refine Kd.R_append Kd.string (w0 := w) w.heap.size rfl (.tmp 20) (.tmp 25) 34 9 (.string ⟨#[]⟩) 16 rfl Tryd.underlying34 info9 rfl (by decide) (by omega) u5 x5_1 (rdOf ByteArray.empty l0 x6_1) [.string (rdOf ByteArray.empty l0 x6_1)] (fun _ => True) (fun _ => False) rfl rfl ?aP (fun _ hk => hk.elim) ?aF ?aO ?aB ?aS ?aL ?_; (case aP => exact rfl); (case aB => exact z12_4); (case aF => exact (fun _ _ => trivial)); (case aO => exact (kd12_ HO_5.out)); (case aS => exact (below_size z12_4)); (case aL => have := LMc9.out; omega); intro v327 w10 ho hb hg hat; rw [← Ny326.out] at ho; have n0_ := Aside0.mk (hb); have n1_ := Aside0.mk (ho); clear HB; clear HO_5; have HB := n0_; have HO328 := n1_; clear n0_ n1_; clear ho hb hg hat))
        go_roundg k1
        case measure => have := HK1.out; omega
        case rel => exact ⟨(y326), (wrap64 (x6_1 + 1)), (by first | rfl | (simp; done) | (simp [*]; done)), H', ⟨by have := HK1.out; omega⟩, ⟨by (with_reducible repeat (first | apply Kd.R_alloc | apply Kd.R_drewN | apply Kd.R_drew)); exact HO328.out⟩, ⟨z12_4⟩⟩
       ·rw [if_neg c9] at H
        exact absurd H (by simp)
      ·replace c8 := Bool.eq_false_iff.mpr c8; subst c8; have H1 : (spec_WordsFitting.l0 k1 l0 a1 x5_1 (wrap64 (x6_1 + 1))) = some r := by rw [if_neg (show ¬ (false = true) by decide)] at H; exact H
       clear H; have H := H1; clear H1; have H' := Aside0.mk H
       clear H; have p323 : 0 ≤ (x6_1 : Int) := of_decide_eq_true (by first | (with_reducible assumption) | assumption)
       have q323 : x6_1 < (l0.length : Int) := of_decide_eq_true (by first | (with_reducible assumption) | assumption)
       obtain ⟨ad323, e323, hx323_0⟩ := Kd.at_string HR0.out x6_1 p323 q323
       cases e323; try replace hx323_0 := (HB.out.cell (World.block_lt_of_cell? w _ hx323_0)).trans hx323_0
       replace p323 := eq_true p323; replace q323 := eq_true q323; go_wp2_with (first | ((with_reducible refine gate_callee (f := 44) rfl ?_); refine goesL_ (some 19) rfl rfl Tryd.func44 (by kernel_rfl) rfl #[.string a1, .string (rdOf ByteArray.empty l0 x6_1)] rfl z12_3 ?_; (with_reducible refine (spec_FitsPattern.calls k1 a1 (rdOf ByteArray.empty l0 x6_1) false _ A7.out).mono ?_); rintro e w' ⟨rfl, ⟨nd, rfl⟩⟩; refine ⟨_, rfl, ?_⟩))
       go_roundg k1
       case measure => have := HK1.out; omega
       case rel => exact ⟨(x5_1), (wrap64 (x6_1 + 1)), (by first | rfl | (simp; done) | (simp [*]; done)), H', ⟨by have := HK1.out; omega⟩, ⟨by (with_reducible repeat (first | apply Kd.R_alloc | apply Kd.R_drewN | apply Kd.R_drew)); exact HO_5.out⟩, ⟨z12_4⟩⟩
     ·rw [if_neg c6] at H
      exact absurd H (by simp)
    ·rw [if_neg c5] at H
     have c5b0 : decide (x6_1 < (l0.length : Int)) = false := decide_eq_false c5; clear c5; obtain rfl := Option.some.inj H; go_wp2
     go_ret
     exact ⟨_, by first | rfl | (simp [errW_none, errW_some] <;> rfl) | (simp [*, errW_none, errW_some] <;> rfl), by (with_reducible repeat (first | apply Kd.R_alloc | apply Kd.R_drewN | apply Kd.R_drew)); exact HO_5.out, z12_4⟩

/-! ### spec_DrawPutWord: function 5 -/
def spec_DrawPutWord.f (k : Nat) (l0 : List Int) : Option (Int × Int × ByteArray × ByteArray × Int × ByteArray) := (spec_DrawSlotPattern.f k l0).bind fun bt330 => ((spec_l1New.f k l0).bind fun bt336 => ((spec_l4Any.f bt336.1 bt336.2.1 bt336.2.2).bind fun bt340 => ((spec_l4Words.f).bind fun t343 => ((spec_SlotPattern.f k bt330.1 bt330.2.1 bt330.2.2.1 bt330.2.2.2.1 bt330.2.2.2.2).bind fun t346 => ((spec_WordsFitting.f k t343 t346).bind fun t347 => (if (t347.length : Int) > 0 then ((spec_l1Once.f bt336.1 bt340.2.1 bt340.2.2 3).bind fun bt350 => (if bt350.1 = true then (some (bt330.1, bt330.2.1, bt330.2.2.1, bt330.2.2.2.1, bt330.2.2.2.2, bt340.1)) else ((spec_l1Below.f bt336.1 bt350.2.1 bt350.2.2 (t347.length : Int)).bind fun bt353 => (if 0 ≤ bt353.1 then (if bt353.1 < (t347.length : Int) then (some (bt330.1, bt330.2.1, bt330.2.2.1, bt330.2.2.2.1, bt330.2.2.2.2, rdOf ByteArray.empty t347 bt353.1)) else (none)) else (none))))) else (some (bt330.1, bt330.2.1, bt330.2.2.1, bt330.2.2.2.1, bt330.2.2.2.2, bt340.1))))))))
theorem spec_DrawPutWord.mono : ∀ a0 k, LeO (spec_DrawPutWord.f k a0) (spec_DrawPutWord.f (k + 1) a0) := by
  intro a0 k
  unfold spec_DrawPutWord.f
  repeat' first
    | (with_reducible exact spec_DrawSlotPattern.mono _ _)
    | (with_reducible exact spec_SlotPattern.mono _ _ _ _ _ _)
    | (with_reducible exact spec_WordsFitting.mono _ _ _)
    | (with_reducible exact spec_l1New.mono _ _)
    | (with_reducible exact LeO.refl _)
    | (with_reducible exact LeO.none _)
    | (with_reducible refine LeO.ite ?_ ?_)
    | (with_reducible refine LeO.bind ?_ (fun _ => ?_))
    | exact spec_DrawSlotPattern.mono _ _
    | exact spec_SlotPattern.mono _ _ _ _ _ _
    | exact spec_WordsFitting.mono _ _ _
    | exact spec_l1New.mono _ _
    | exact LeO.none _
    | refine LeO.ite ?_ ?_
    | refine LeO.bind ?_ (fun _ => ?_)
set_option maxHeartbeats 8000000 in
set_option maxRecDepth 100000 in
theorem spec_DrawPutWord.calls (k : Nat) (A0 : Option Addr) (c0 : Nat) (l0 : List Int) (r1 : Int) (r2 : Int) (r3 : ByteArray) (r4 : ByteArray) (r5 : Int) (r6 : ByteArray) (w : World) (hr0 : Kd.C (Kd.int .u8) w A0 l0.length l0) (hc0 : l0.length ≤ c0) (h : spec_DrawPutWord.f k l0 = some (r1, r2, r3, r4, r5, r6)) :
   Calls Tryd.prog 5 #[.slice A0 l0.length c0] w fun e w' => e = .returned (.tuple #[.agg #[.int .i64 r1, .int .i64 r2, .string r3], .string r4, .int .i64 r5, .string r6]) ∧ Below w.heap.size w w' := by
  have hu25 := Tryd.underlying25; have HR0 := Aside0.mk hr0; have HC0 := Aside0.mk hc0; clear hr0 hc0; have HB := Aside0.mk (Below.refl w.heap.size w); have H : ((spec_DrawSlotPattern.f k l0).bind fun bt330 => ((spec_l1New.f k l0).bind fun bt336 => ((spec_l4Any.f bt336.1 bt336.2.1 bt336.2.2).bind fun bt340 => ((spec_l4Words.f).bind fun t343 => ((spec_SlotPattern.f k bt330.1 bt330.2.1 bt330.2.2.1 bt330.2.2.2.1 bt330.2.2.2.2).bind fun t346 => ((spec_WordsFitting.f k t343 t346).bind fun t347 => (if (t347.length : Int) > 0 then ((spec_l1Once.f bt336.1 bt340.2.1 bt340.2.2 3).bind fun bt350 => (if bt350.1 = true then (some (bt330.1, bt330.2.1, bt330.2.2.1, bt330.2.2.2.1, bt330.2.2.2.2, bt340.1)) else ((spec_l1Below.f bt336.1 bt350.2.1 bt350.2.2 (t347.length : Int)).bind fun bt353 => (if 0 ≤ bt353.1 then (if bt353.1 < (t347.length : Int) then (some (bt330.1, bt330.2.1, bt330.2.2.1, bt330.2.2.2.1, bt330.2.2.2.2, rdOf ByteArray.empty t347 bt353.1)) else (none)) else (none))))) else (some (bt330.1, bt330.2.1, bt330.2.2.1, bt330.2.2.2.1, bt330.2.2.2.2, bt340.1))))))))) = some (r1, r2, r3, r4, r5, r6) := h; clear h; replace H := Option.bind_eq_some_iff.mp H; obtain ⟨⟨t330, t331, t332, t333, t334⟩, A20, H⟩ := H; replace H : ((spec_l1New.f k l0).bind fun bt336 => ((spec_l4Any.f bt336.1 bt336.2.1 bt336.2.2).bind fun bt340 => ((spec_l4Words.f).bind fun t343 => ((spec_SlotPattern.f k t330 t331 t332 t333 t334).bind fun t346 => ((spec_WordsFitting.f k t343 t346).bind fun t347 => (if (t347.length : Int) > 0 then ((spec_l1Once.f bt336.1 bt340.2.1 bt340.2.2 3).bind fun bt350 => (if bt350.1 = true then (some (t330, t331, t332, t333, t334, bt340.1)) else ((spec_l1Below.f bt336.1 bt350.2.1 bt350.2.2 (t347.length : Int)).bind fun bt353 => (if 0 ≤ bt353.1 then (if bt353.1 < (t347.length : Int) then (some (t330, t331, t332, t333, t334, rdOf ByteArray.empty t347 bt353.1)) else (none)) else (none))))) else (some (t330, t331, t332, t333, t334, bt340.1)))))))) = some (r1, r2, r3, r4, r5, r6) := H; have A2 := Aside0.mk A20; clear A20; replace H := Option.bind_eq_some_iff.mp H; obtain ⟨⟨t336, t337, t338⟩, A30, H⟩ := H; replace H : ((spec_l4Any.f t336 t337 t338).bind fun bt340 => ((spec_l4Words.f).bind fun t343 => ((spec_SlotPattern.f k t330 t331 t332 t333 t334).bind fun t346 => ((spec_WordsFitting.f k t343 t346).bind fun t347 => (if (t347.length : Int) > 0 then ((spec_l1Once.f t336 bt340.2.1 bt340.2.2 3).bind fun bt350 => (if bt350.1 = true then (some (t330, t331, t332, t333, t334, bt340.1)) else ((spec_l1Below.f t336 bt350.2.1 bt350.2.2 (t347.length : Int)).bind fun bt353 => (if 0 ≤ bt353.1 then (if bt353.1 < (t347.length : Int) then (some (t330, t331, t332, t333, t334, rdOf ByteArray.empty t347 bt353.1)) else (none)) else (none))))) else (some (t330, t331, t332, t333, t334, bt340.1))))))) = some (r1, r2, r3, r4, r5, r6) := H; have A3 := Aside0.mk A30; clear A30; replace H := Option.bind_eq_some_iff.mp H; obtain ⟨⟨t340, t341, t342⟩, A40, H⟩ := H; replace H : ((spec_l4Words.f).bind fun t343 => ((spec_SlotPattern.f k t330 t331 t332 t333 t334).bind fun t346 => ((spec_WordsFitting.f k t343 t346).bind fun t347 => (if (t347.length : Int) > 0 then ((spec_l1Once.f t336 t341 t342 3).bind fun bt350 => (if bt350.1 = true then (some (t330, t331, t332, t333, t334, t340)) else ((spec_l1Below.f t336 bt350.2.1 bt350.2.2 (t347.length : Int)).bind fun bt353 => (if 0 ≤ bt353.1 then (if bt353.1 < (t347.length : Int) then (some (t330, t331, t332, t333, t334, rdOf ByteArray.empty t347 bt353.1)) else (none)) else (none))))) else (some (t330, t331, t332, t333, t334, t340)))))) = some (r1, r2, r3, r4, r5, r6) := H; have A4 := Aside0.mk A40; clear A40; replace H := Option.bind_eq_some_iff.mp H; obtain ⟨t343, A50, H⟩ := H; replace H : ((spec_SlotPattern.f k t330 t331 t332 t333 t334).bind fun t346 => ((spec_WordsFitting.f k t343 t346).bind fun t347 => (if (t347.length : Int) > 0 then ((spec_l1Once.f t336 t341 t342 3).bind fun bt350 => (if bt350.1 = true then (some (t330, t331, t332, t333, t334, t340)) else ((spec_l1Below.f t336 bt350.2.1 bt350.2.2 (t347.length : Int)).bind fun bt353 => (if 0 ≤ bt353.1 then (if bt353.1 < (t347.length : Int) then (some (t330, t331, t332, t333, t334, rdOf ByteArray.empty t347 bt353.1)) else (none)) else (none))))) else (some (t330, t331, t332, t333, t334, t340))))) = some (r1, r2, r3, r4, r5, r6) := H; have A5 := Aside0.mk A50; clear A50; replace H := Option.bind_eq_some_iff.mp H; obtain ⟨t346, A60, H⟩ := H; replace H : ((spec_WordsFitting.f k t343 t346).bind fun t347 => (if (t347.length : Int) > 0 then ((spec_l1Once.f t336 t341 t342 3).bind fun bt350 => (if bt350.1 = true then (some (t330, t331, t332, t333, t334, t340)) else ((spec_l1Below.f t336 bt350.2.1 bt350.2.2 (t347.length : Int)).bind fun bt353 => (if 0 ≤ bt353.1 then (if bt353.1 < (t347.length : Int) then (some (t330, t331, t332, t333, t334, rdOf ByteArray.empty t347 bt353.1)) else (none)) else (none))))) else (some (t330, t331, t332, t333, t334, t340)))) = some (r1, r2, r3, r4, r5, r6) := H; have A6 := Aside0.mk A60; clear A60; replace H := Option.bind_eq_some_iff.mp H; obtain ⟨t347, A70, H⟩ := H; replace H : (if (t347.length : Int) > 0 then ((spec_l1Once.f t336 t341 t342 3).bind fun bt350 => (if bt350.1 = true then (some (t330, t331, t332, t333, t334, t340)) else ((spec_l1Below.f t336 bt350.2.1 bt350.2.2 (t347.length : Int)).bind fun bt353 => (if 0 ≤ bt353.1 then (if bt353.1 < (t347.length : Int) then (some (t330, t331, t332, t333, t334, rdOf ByteArray.empty t347 bt353.1)) else (none)) else (none))))) else (some (t330, t331, t332, t333, t334, t340))) = some (r1, r2, r3, r4, r5, r6) := H; have A7 := Aside0.mk A70; clear A70; by_cases c8 : (t347.length : Int) > 0
  ·rw [if_pos c8] at H
   have c8b0 : decide (0 < (t347.length : Int)) = true := decide_eq_true c8; have c8b1 : decide (0 < t347.length) = true := decide_eq_true (by omega); clear c8; replace H := Option.bind_eq_some_iff.mp H; obtain ⟨⟨t350, t351, t352⟩, A90, H⟩ := H; replace H : (if t350 = true then (some (t330, t331, t332, t333, t334, t340)) else ((spec_l1Below.f t336 t351 t352 (t347.length : Int)).bind fun bt353 => (if 0 ≤ bt353.1 then (if bt353.1 < (t347.length : Int) then (some (t330, t331, t332, t333, t334, rdOf ByteArray.empty t347 bt353.1)) else (none)) else (none)))) = some (r1, r2, r3, r4, r5, r6) := H; have A9 := Aside0.mk A90; clear A90; by_cases c10 : t350 = true
   ·subst c10; have H1 : (some (t330, t331, t332, t333, t334, t340)) = some (r1, r2, r3, r4, r5, r6) := by rw [if_pos rfl] at H; exact H
    clear H; have H := H1; clear H1; simp only [Option.some.injEq, Prod.mk.injEq] at H; obtain ⟨rfl, rfl, rfl, rfl, rfl, rfl⟩ := H; go_enter Tryd.func5, Tryd.ntmps5
    try go_wp2_with (first | ((with_reducible refine gate_dst (N := 2) rfl ?_); refine box_event ?hg (N := 2) ?hd (cs := #[.int .i64 0, .int .i64 0, .string (⟨#[]⟩ : ByteArray)]) (t := 25) ?hr ?_; (case hd => rfl); (case hg => rfl); (case hr => first | (go_simp; done) | (go_simp; rfl)); intro gb329 hg w11 hbox hb; have n0_ := Aside0.mk (below_step z12_4 hb); have n1_ := Aside0.mk (hbox); have n2_ := Aside0.mk ((by rw [hg]; exact (below_size z12_4) : w.heap.size ≤ gb329)); have n3_ := Aside0.mk ((by rw [hg]; exact (below_size z12_4) : w.heap.size ≤ gb329)); clear HB; have HB := n0_; have BK329 := n1_; have GW329 := n2_; have GE329 := n3_; clear n0_ n1_ n2_ n3_; clear hb hbox hg) | ((with_reducible refine gate_callee (f := 18) rfl ?_); refine goesL_ (some 14) rfl rfl Tryd.func18 (by kernel_rfl) rfl #[.slice A0 l0.length c0] rfl z12_3 ?_; (with_reducible refine (spec_DrawSlotPattern.calls k _ _ l0 t330 t331 t332 t333 t334 _ ?side1 ?side2 A2.out).mono ?_); (case side1 => repeat (first | exact (Kd.C_below HR0.out HB.out) | (with_reducible refine Kd.C_alloc ?_ _) | (with_reducible refine Kd.C_drewN ?_ _) | (with_reducible refine Kd.C_drew ?_))); (case side2 => exact HC0.out); rintro e w12 ⟨rfl, hb⟩; refine ⟨_, rfl, ?_⟩; have n0_ := Aside0.mk (blk_below (g := gb329) (o := .cells #[.int .i64 0, .int .i64 0, .string (⟨#[]⟩ : ByteArray)] 25 (0, 0)) (bd12_ BK329.out) hb); have n1_ := Aside0.mk (below_step z12_6 hb); clear BK329; clear HB; have BK329 := n0_; have HB := n1_; clear n0_ n1_; (try clear hb); (try clear hb2); (try clear hk); (try clear hi)) | ((with_reducible refine gate_dst (N := 6) rfl ?_); refine box_event ?hg (N := 6) ?hd (cs := #[.int .i64 0, .int .i64 0, .string (⟨#[]⟩ : ByteArray)]) (t := 25) ?hr ?_; (case hd => rfl); (case hg => rfl); (case hr => first | (go_simp; done) | (go_simp; rfl)); intro gb335 hg w13 hbox hb; have n0_ := Aside0.mk (blk_below (g := gb329) (o := .cells #[.int .i64 0, .int .i64 0, .string (⟨#[]⟩ : ByteArray)] 25 (0, 0)) (bd12_ BK329.out) hb); have n1_ := Aside0.mk (below_step z12_6 hb); have n2_ := Aside0.mk (hbox); have n3_ := Aside0.mk ((by rw [hg]; exact (below_size z12_6) : w.heap.size ≤ gb335)); have n4_ := Aside0.mk ((by rw [hg]; exact (below_size z12_6) : w.heap.size ≤ gb335)); have n5_ := Aside0.mk ((by rw [hg]; exact Nat.ne_of_lt (blk_lt (g := gb329) (o := .cells #[.int .i64 0, .int .i64 0, .string (⟨#[]⟩ : ByteArray)] 25 (0, 0)) (bd12_ BK329.out)) : gb329 ≠ gb335)); have n6_ := Aside0.mk ((by rw [hg]; exact Nat.ne_of_gt (blk_lt (g := gb329) (o := .cells #[.int .i64 0, .int .i64 0, .string (⟨#[]⟩ : ByteArray)] 25 (0, 0)) (bd12_ BK329.out)) : gb335 ≠ gb329)); clear BK329; clear HB; have BK329 := n0_; have HB := n1_; have BK335 := n2_; have GW335 := n3_; have GE335 := n4_; have NB329_335 := n5_; have NB335_329 := n6_; clear n0_ n1_ n2_ n3_ n4_ n5_ n6_; clear hb hbox hg; have hnb14 := NB335_329.out; have hnc14 := NB329_335.out; have hcz15_0 : w13.cell? ⟨gb335, 0, none⟩ = some (.int .i64 0) := (blk_cell BK335.out 0).trans rfl; have hcz15_1 : w13.cell? ⟨gb335, 1, none⟩ = some (.int .i64 0) := (blk_cell BK335.out 1).trans rfl; have hcz15_2 : w13.cell? ⟨gb335, 2, none⟩ = some (.string (⟨#[]⟩ : ByteArray)) := (blk_cell BK335.out 2).trans rfl; have hfz15_0 := blk_frozen BK335.out 0; have hfz15_1 := blk_frozen BK335.out 1; have hfz15_2 := blk_frozen BK335.out 2) | ((with_reducible refine gate_callee (f := 19) rfl ?_); refine goesL_ (some 19) rfl rfl Tryd.func19 (by kernel_rfl) rfl #[.slice A0 l0.length c0] rfl z12_3 ?_; (with_reducible refine (spec_l1New.calls k _ _ l0 t336 t337 t338 w _ ?side1 ?side2 ?side3 A3.out).mono ?_); (case side1 => repeat (first | (with_reducible first | exact HB.out | apply below_alloc | apply pw_below_drewN | apply below_drew1 | refine below_set ?_ GE329.out | refine below_set ?_ GE335.out) | exact HB.out)); (case side2 => exact HR0.out); (case side3 => exact HC0.out); rintro e w16 ⟨g339, rfl, hi, hb, hb2⟩; refine ⟨_, rfl, ?_⟩; have n0_ := Aside0.mk (blk_below (g := gb329) (o := .cells #[.int .i64 0, .int .i64 0, .string (⟨#[]⟩ : ByteArray)] 25 (0, 0)) z12_1 hb2); have n1_ := Aside0.mk (blk_below (g := gb335) (o := .cells #[.int .i64 t330, .int .i64 t331, .string t332] 25 (0, 0)) z12_0 hb2); have n2_ := Aside0.mk (hb); have n3_ := Aside0.mk (hi); have n4_ := Aside0.mk (IsS68.ne_blk hi (blk_below (g := gb329) (o := .cells #[.int .i64 0, .int .i64 0, .string (⟨#[]⟩ : ByteArray)] 25 (0, 0)) z12_1 hb2) (by decide)); have n5_ := Aside0.mk (Ne.symm (IsS68.ne_blk hi (blk_below (g := gb329) (o := .cells #[.int .i64 0, .int .i64 0, .string (⟨#[]⟩ : ByteArray)] 25 (0, 0)) z12_1 hb2) (by decide))); have n6_ := Aside0.mk (IsS68.ne_blk hi (blk_below (g := gb335) (o := .cells #[.int .i64 t330, .int .i64 t331, .string t332] 25 (0, 0)) z12_0 hb2) (by decide)); have n7_ := Aside0.mk (Ne.symm (IsS68.ne_blk hi (blk_below (g := gb335) (o := .cells #[.int .i64 t330, .int .i64 t331, .string t332] 25 (0, 0)) z12_0 hb2) (by decide))); clear BK329; clear BK335; clear HB; have BK329 := n0_; have BK335 := n1_; have HB := n2_; have HI339 := n3_; have NB339_329 := n4_; have NB329_339 := n5_; have NB339_335 := n6_; have NB335_339 := n7_; clear n0_ n1_ n2_ n3_ n4_ n5_ n6_ n7_; (try clear hb); (try clear hb2); (try clear hk); (try clear hi)) | ((with_reducible refine gate_callee (f := 20) rfl ?_); refine goesL_ (some 21) rfl rfl Tryd.func20 (by kernel_rfl) rfl #[.pointer (some ⟨g339, 0, none⟩)] rfl z12_3 ?_; (with_reducible refine (spec_l4Any.calls g339 t336 t337 t338 t340 t341 t342 w _ ?side1 ?side2 A4.out).mono ?_); (case side1 => exact z12_5); (case side2 => exact z12_2); rintro e w17 ⟨rfl, hi, hb, hk⟩; refine ⟨_, rfl, ?_⟩; have n0_ := Aside0.mk (KeepBut.blk hk (g' := gb329) (o := .cells #[.int .i64 0, .int .i64 0, .string (⟨#[]⟩ : ByteArray)] 25 (0, 0)) (bd12_ BK329.out) NB329_339.out (by simp)); have n1_ := Aside0.mk (KeepBut.blk hk (g' := gb335) (o := .cells #[.int .i64 t330, .int .i64 t331, .string t332] 25 (0, 0)) (bd12_ BK335.out) NB335_339.out (by simp)); have n2_ := Aside0.mk (hb); have n3_ := Aside0.mk (hi); clear BK329; clear BK335; clear HB; clear HI339; have BK329 := n0_; have BK335 := n1_; have HB := n2_; have HI339 := n3_; clear n0_ n1_ n2_ n3_; (try clear hb); (try clear hb2); (try clear hk); (try clear hi)))
    have n0_ := Aside0.mk (blk_drew BK329.out); have n1_ := Aside0.mk (blk_drew BK335.out); have n2_ := Aside0.mk (IsS68.drew HI339.out); have n3_ := Aside0.mk (below_drew1 HB.out); clear BK329; clear BK335; clear HI339; clear HB; have BK329 := n0_; have BK335 := n1_; have HI339 := n2_; have HB := n3_; clear n0_ n1_ n2_ n3_; refine start_ (n := 7) (S := fun w' => w'.cell? ⟨gb335, 0, none⟩ = some (.int .i64 t330) ∧ w'.cell? ⟨gb335, 1, none⟩ = some (.int .i64 t331) ∧ w'.cell? ⟨gb335, 2, none⟩ = some (.string t332)) (ds := []) #[false, false, false, false, false, false, false] (by kernel_rfl) rfl rfl ⟨(blk_cell BK335.out 0).trans rfl, (blk_cell BK335.out 1).trans rfl, (blk_cell BK335.out 2).trans rfl⟩ (fun hHeld => ?_)
    generalize w17.drew = w18 at BK329 BK335 HI339 HB hHeld ⊢
    refine pure_ (i := 2) (N := some 24) (v := ?_) (a' := ?_) #[false, false, true, false, false, false, false] rfl rfl (by kernel_rfl) (fun _ _ _ h => h) (Or.inl ⟨by rfl, ?_⟩) ?_ ?_
    rotate_left
    ·intro w'
     go_simp; with_reducible rfl
    rotate_left
    ·simp only [Act.put, pt12_, i64_w, i32_w]; rfl
    refine pure_ (i := 3) (N := some 25) (v := ?_) (a' := ?_) #[false, false, true, true, false, false, false] rfl rfl (by kernel_rfl) (fun _ _ _ h => h) (Or.inl ⟨by rfl, ?_⟩) ?_ ?_
    rotate_left
    ·intro w'
     go_simp; with_reducible rfl
    rotate_left
    ·simp only [Act.put, pt12_, i64_w, i32_w]; rfl
    refine take_ (i := 1) (N := some 23) (v := ?_) (a' := ?_) #[false, true, true, true, false, false, false] rfl rfl (by kernel_rfl) (fun _ _ _ h => h) (Or.inl ⟨by rfl, ?_⟩) hHeld ?_ ?_
    rotate_left
    ·rintro w' ⟨s0, s1, s2⟩
     go_simp; with_reducible rfl
    rotate_left
    ·simp only [Act.put, pt12_, i64_w, i32_w]; rfl
    refine one_ (i := 0) (N := some 22) #[true, true, true, true, false, false, false] rfl rfl (by kernel_rfl) (by decide) (fun K hK => ?_)
    refine goes_ Tryd.func22 (by kernel_rfl) rfl #[] (by rfl) rfl rfl z12_3 ?_
    with_reducible refine (spec_l4Words.calls  t343 _ A5.out).mono ?_
    rintro e w19 ⟨v344, rfl, ho0, hb⟩
    refine ⟨_, rfl, ?_⟩
    have n0_ := Aside0.mk (Kd.R_lower ho0 (below_size z12_2)); have n1_ := Aside0.mk (blk_below (g := gb329) (o := .cells #[.int .i64 0, .int .i64 0, .string (⟨#[]⟩ : ByteArray)] 25 (0, 0)) (bd12_ BK329.out) hb); have n2_ := Aside0.mk (blk_below (g := gb335) (o := .cells #[.int .i64 t330, .int .i64 t331, .string t332] 25 (0, 0)) (bd12_ BK335.out) hb); have n3_ := Aside0.mk (IsS68.below z12_5 hb); have n4_ := Aside0.mk (below_step z12_2 hb); clear BK329; clear BK335; clear HI339; clear HB; have HO345 := n0_; have BK329 := n1_; have BK335 := n2_; have HI339 := n3_; have HB := n4_; clear n0_ n1_ n2_ n3_ n4_; (try clear hb)
    (try clear hb2)
    (try clear hk)
    (try clear hi)
    (try clear ho0)
    refine hK.out _ _ ⟨(blk_cell BK335.out 0).trans rfl, (blk_cell BK335.out 1).trans rfl, (blk_cell BK335.out 2).trans rfl⟩ (fun hHeld => ?_)
    clear hK K; refine norm_ (a' := ?_) ?_ ?_
    rotate_left
    ·show Act.put _ (some 22) _ = _
     simp only [Act.put, pt12_, i64_w, i32_w]; rfl
    refine one_ (i := 4) (N := some 26) #[true, true, true, true, true, false, false] rfl rfl (by kernel_rfl) (by decide) (fun K hK => ?_)
    refine goes_ Tryd.func23 (by kernel_rfl) rfl #[.agg #[.int .i64 t330, .int .i64 t331, .string t332], .string t333, .int .i64 t334] (by rfl) rfl rfl z12_3 ?_
    with_reducible refine (spec_SlotPattern.calls k t330 t331 t332 t333 t334 t346 _ A6.out).mono ?_
    rintro e w20 ⟨rfl, hb⟩
    refine ⟨_, rfl, ?_⟩
    have n0_ := Aside0.mk (Kd.R_below (kd12_ HO345.out) hb); have n1_ := Aside0.mk (blk_below (g := gb329) (o := .cells #[.int .i64 0, .int .i64 0, .string (⟨#[]⟩ : ByteArray)] 25 (0, 0)) (bd12_ BK329.out) hb); have n2_ := Aside0.mk (blk_below (g := gb335) (o := .cells #[.int .i64 t330, .int .i64 t331, .string t332] 25 (0, 0)) (bd12_ BK335.out) hb); have n3_ := Aside0.mk (IsS68.below z12_5 hb); have n4_ := Aside0.mk (below_step z12_2 hb); clear HO345; clear BK329; clear BK335; clear HI339; clear HB; have HO345 := n0_; have BK329 := n1_; have BK335 := n2_; have HI339 := n3_; have HB := n4_; clear n0_ n1_ n2_ n3_ n4_; (try clear hb)
    (try clear hb2)
    (try clear hk)
    (try clear hi)
    obtain ⟨Ao21, co21, eo21⟩ := Kd.R_slice HO345.out; (first | subst eo21 | (injection eo21 with f1_ f2_ f3_; have f4_ := f1_.symm; have f5_ := f3_.symm; clear f1_ f2_ f3_; subst f4_; subst f5_))
    refine hK.out _ _ ⟨(blk_cell BK335.out 0).trans rfl, (blk_cell BK335.out 1).trans rfl, (blk_cell BK335.out 2).trans rfl⟩ (fun hHeld => ?_)
    clear hK K; refine norm_ (a' := ?_) ?_ ?_
    rotate_left
    ·show Act.put _ (some 26) _ = _
     simp only [Act.put, pt12_, i64_w, i32_w]; rfl
    refine one_ (i := 5) (N := some 27) #[true, true, true, true, true, true, false] rfl rfl (by kernel_rfl) (by decide) (fun K hK => ?_)
    refine goes_ Tryd.func21 (by kernel_rfl) rfl #[.slice Ao21 t343.length co21, .string t346] (by rfl) rfl rfl z12_3 ?_
    with_reducible refine (spec_WordsFitting.calls k _ _ t343 t346 t347 _ ?side1 ?side2 A7.out).mono ?_
    (case side1 => repeat (first | exact (Kd.R_reads' HO345.out).2.2 | (with_reducible refine Kd.C_alloc ?_ _) | (with_reducible refine Kd.C_drewN ?_ _) | (with_reducible refine Kd.C_drew ?_)))
    (case side2 => exact (Kd.R_reads' HO345.out).2.1)
    rintro e w22 ⟨v348, rfl, ho0, hb⟩
    refine ⟨_, rfl, ?_⟩
    have n0_ := Aside0.mk (Kd.R_elder' (kd12_ HO345.out) (Kd.R_base ho0) hb); have n1_ := Aside0.mk (Kd.R_lower (Kd.R_new' ho0 (Kd.R_lt (kd12_ HO345.out))) (below_size z12_2)); have n2_ := Aside0.mk (blk_below (g := gb329) (o := .cells #[.int .i64 0, .int .i64 0, .string (⟨#[]⟩ : ByteArray)] 25 (0, 0)) (bd12_ BK329.out) hb); have n3_ := Aside0.mk (blk_below (g := gb335) (o := .cells #[.int .i64 t330, .int .i64 t331, .string t332] 25 (0, 0)) (bd12_ BK335.out) hb); have n4_ := Aside0.mk (IsS68.below z12_5 hb); have n5_ := Aside0.mk (below_step z12_2 hb); clear HO345; clear BK329; clear BK335; clear HI339; clear HB; have HO345 := n0_; have HO349 := n1_; have BK329 := n2_; have BK335 := n3_; have HI339 := n4_; have HB := n5_; clear n0_ n1_ n2_ n3_ n4_ n5_; (try clear hb)
    (try clear hb2)
    (try clear hk)
    (try clear hi)
    (try clear ho0)
    refine hK.out _ _ ⟨(blk_cell BK335.out 0).trans rfl, (blk_cell BK335.out 1).trans rfl, (blk_cell BK335.out 2).trans rfl⟩ (fun hHeld => ?_)
    clear hK K; refine norm_ (a' := ?_) ?_ ?_
    rotate_left
    ·show Act.put _ (some 27) _ = _
     simp only [Act.put, pt12_, i64_w, i32_w]; rfl
    refine pure_ (i := 6) (N := some 11) (v := ?_) (a' := ?_) #[true, true, true, true, true, true, true] rfl rfl (by kernel_rfl) (fun _ _ _ h => h) (Or.inl ⟨by rfl, ?_⟩) ?_ ?_
    rotate_left
    ·intro w'
     go_simp; with_reducible rfl
    rotate_left
    ·simp only [Act.put, pt12_, i64_w, i32_w]; rfl
    refine done_ (by kernel_rfl) ?_
    obtain ⟨Ao23, co23, eo23⟩ := Kd.R_slice HO349.out; subst eo23; try go_wp2_with (first | (go_at_call 24; (with_reducible refine (spec_l1Once.calls g339 t336 t341 t342 3 true t351 t352 w _ ?side1 ?side2 A9.out).mono ?_); (case side1 => exact z12_5); (case side2 => exact z12_2); rintro e w24 ⟨rfl, hi, hb, hk⟩; have n0_ := Aside0.mk (KeepBut.blk hk (g' := gb329) (o := .cells #[.int .i64 0, .int .i64 0, .string (⟨#[]⟩ : ByteArray)] 25 (0, 0)) (bd12_ BK329.out) NB329_339.out (by simp)); have n1_ := Aside0.mk (KeepBut.blk hk (g' := gb335) (o := .cells #[.int .i64 t330, .int .i64 t331, .string t332] 25 (0, 0)) (bd12_ BK335.out) NB335_339.out (by simp)); have n2_ := Aside0.mk (Kd.R_mono (Kd.R_keep (IsS68.apart (show IsS68 w _ g339 t336 t341 t342 from by repeat (first | (with_reducible first | exact HI339.out | apply IsS68.alloc | apply IsS68.drewN | apply IsS68.drew | apply IsS68.set_1 | apply IsS68.set_2 | refine IsS68.far ?_ NB339_329.out _ | refine IsS68.far ?_ NB339_335.out _) | exact HI339.out)) (kd12_ HO345.out) (by decide)) hk (fun _ h => h.2)) (fun _ h => h.1)); have n3_ := Aside0.mk (Kd.R_mono (Kd.R_keep (IsS68.apart (show IsS68 w _ g339 t336 t341 t342 from by repeat (first | (with_reducible first | exact HI339.out | apply IsS68.alloc | apply IsS68.drewN | apply IsS68.drew | apply IsS68.set_1 | apply IsS68.set_2 | refine IsS68.far ?_ NB339_329.out _ | refine IsS68.far ?_ NB339_335.out _) | exact HI339.out)) (kd12_ HO349.out) (by decide)) hk (fun _ h => h.2)) (fun _ h => h.1)); have n4_ := Aside0.mk (hb); have n5_ := Aside0.mk (hi); clear BK329; clear BK335; clear HO345; clear HO349; clear HB; clear HI339; have BK329 := n0_; have BK335 := n1_; have HO345 := n2_; have HO349 := n3_; have HB := n4_; have HI339 := n5_; clear n0_ n1_ n2_ n3_ n4_ n5_; (try clear hb); (try clear hb2); (try clear hk); (try clear hi); have hnb25 := NB335_339.out; have hnc25 := NB339_335.out; have hcz26_0 : w24.cell? ⟨gb335, 0, none⟩ = some (.int .i64 t330) := (blk_cell BK335.out 0).trans rfl; have hcz26_1 : w24.cell? ⟨gb335, 1, none⟩ = some (.int .i64 t331) := (blk_cell BK335.out 1).trans rfl; have hcz26_2 : w24.cell? ⟨gb335, 2, none⟩ = some (.string t332) := (blk_cell BK335.out 2).trans rfl; have hfz26_0 := blk_frozen BK335.out 0; have hfz26_1 := blk_frozen BK335.out 1; have hfz26_2 := blk_frozen BK335.out 2; have hnb27 := NB329_339.out; have hnc27 := NB339_329.out; have hcz28_0 : w24.cell? ⟨gb329, 0, none⟩ = some (.int .i64 0) := (blk_cell BK329.out 0).trans rfl; have hcz28_1 : w24.cell? ⟨gb329, 1, none⟩ = some (.int .i64 0) := (blk_cell BK329.out 1).trans rfl; have hcz28_2 : w24.cell? ⟨gb329, 2, none⟩ = some (.string (⟨#[]⟩ : ByteArray)) := (blk_cell BK329.out 2).trans rfl; have hfz28_0 := blk_frozen BK329.out 0; have hfz28_1 := blk_frozen BK329.out 1; have hfz28_2 := blk_frozen BK329.out 2))
    refine bodyPost_ret (results_list (rs := [.cell 2 25, .tmp 3, .tmp 4, .tmp 5]) rfl (by simp) (.cell gb329 25 #[.int .i64 t330, .int .i64 t331, .string t332] (0, 0) _ rfl z12_7 Tryd.underlying25 rfl (by kernel_rfl) (.tmp (.tmp (.tmp .nil))))) rfl ?_
    exact ⟨by first | rfl | (simp [errW_none, errW_some] <;> rfl) | (simp [*, errW_none, errW_some] <;> rfl), z12_2⟩
   ·replace c10 := Bool.eq_false_iff.mpr c10; subst c10; have H1 : ((spec_l1Below.f t336 t351 t352 (t347.length : Int)).bind fun bt353 => (if 0 ≤ bt353.1 then (if bt353.1 < (t347.length : Int) then (some (t330, t331, t332, t333, t334, rdOf ByteArray.empty t347 bt353.1)) else (none)) else (none))) = some (r1, r2, r3, r4, r5, r6) := by rw [if_neg (show ¬ (false = true) by decide)] at H; exact H
    clear H; have H := H1; clear H1; replace H := Option.bind_eq_some_iff.mp H; obtain ⟨⟨t353, t354, t355⟩, A290, H⟩ := H; replace H : (if 0 ≤ t353 then (if t353 < (t347.length : Int) then (some (t330, t331, t332, t333, t334, rdOf ByteArray.empty t347 t353)) else (none)) else (none)) = some (r1, r2, r3, r4, r5, r6) := H; have A29 := Aside0.mk A290; clear A290; by_cases c30 : 0 ≤ t353
    ·rw [if_pos c30] at H
     have c30b0 : decide (0 ≤ t353) = true := decide_eq_true c30; clear c30; by_cases c31 : t353 < (t347.length : Int)
     ·rw [if_pos c31] at H
      have c31b0 : decide (t353 < (t347.length : Int)) = true := decide_eq_true c31; clear c31; simp only [Option.some.injEq, Prod.mk.injEq] at H; obtain ⟨rfl, rfl, rfl, rfl, rfl, rfl⟩ := H; go_enter Tryd.func5, Tryd.ntmps5
      try go_wp2_with (first | ((with_reducible refine gate_dst (N := 2) rfl ?_); refine box_event ?hg (N := 2) ?hd (cs := #[.int .i64 0, .int .i64 0, .string (⟨#[]⟩ : ByteArray)]) (t := 25) ?hr ?_; (case hd => rfl); (case hg => rfl); (case hr => first | (go_simp; done) | (go_simp; rfl)); intro gb329 hg w32 hbox hb; have n0_ := Aside0.mk (below_step z12_4 hb); have n1_ := Aside0.mk (hbox); have n2_ := Aside0.mk ((by rw [hg]; exact (below_size z12_4) : w.heap.size ≤ gb329)); have n3_ := Aside0.mk ((by rw [hg]; exact (below_size z12_4) : w.heap.size ≤ gb329)); clear HB; have HB := n0_; have BK329 := n1_; have GW329 := n2_; have GE329 := n3_; clear n0_ n1_ n2_ n3_; clear hb hbox hg) | ((with_reducible refine gate_callee (f := 18) rfl ?_); refine goesL_ (some 14) rfl rfl Tryd.func18 (by kernel_rfl) rfl #[.slice A0 l0.length c0] rfl z12_3 ?_; (with_reducible refine (spec_DrawSlotPattern.calls k _ _ l0 t330 t331 t332 t333 t334 _ ?side1 ?side2 A2.out).mono ?_); (case side1 => repeat (first | exact (Kd.C_below HR0.out HB.out) | (with_reducible refine Kd.C_alloc ?_ _) | (with_reducible refine Kd.C_drewN ?_ _) | (with_reducible refine Kd.C_drew ?_))); (case side2 => exact HC0.out); rintro e w33 ⟨rfl, hb⟩; refine ⟨_, rfl, ?_⟩; have n0_ := Aside0.mk (blk_below (g := gb329) (o := .cells #[.int .i64 0, .int .i64 0, .string (⟨#[]⟩ : ByteArray)] 25 (0, 0)) (bd12_ BK329.out) hb); have n1_ := Aside0.mk (below_step z12_6 hb); clear BK329; clear HB; have BK329 := n0_; have HB := n1_; clear n0_ n1_; (try clear hb); (try clear hb2); (try clear hk); (try clear hi)) | ((with_reducible refine gate_dst (N := 6) rfl ?_); refine box_event ?hg (N := 6) ?hd (cs := #[.int .i64 0, .int .i64 0, .string (⟨#[]⟩ : ByteArray)]) (t := 25) ?hr ?_; (case hd => rfl); (case hg => rfl); (case hr => first | (go_simp; done) | (go_simp; rfl)); intro gb335 hg w34 hbox hb; have n0_ := Aside0.mk (blk_below (g := gb329) (o := .cells #[.int .i64 0, .int .i64 0, .string (⟨#[]⟩ : ByteArray)] 25 (0, 0)) (bd12_ BK329.out) hb); have n1_ := Aside0.mk (below_step z12_6 hb); have n2_ := Aside0.mk (hbox); have n3_ := Aside0.mk ((by rw [hg]; exact (below_size z12_6) : w.heap.size ≤ gb335)); have n4_ := Aside0.mk ((by rw [hg]; exact (below_size z12_6) : w.heap.size ≤ gb335)); have n5_ := Aside0.mk ((by rw [hg]; exact Nat.ne_of_lt (blk_lt (g := gb329) (o := .cells #[.int .i64 0, .int .i64 0, .string (⟨#[]⟩ : ByteArray)] 25 (0, 0)) (bd12_ BK329.out)) : gb329 ≠ gb335)); have n6_ := Aside0.mk ((by rw [hg]; exact Nat.ne_of_gt (blk_lt (g := gb329) (o := .cells #[.int .i64 0, .int .i64 0, .string (⟨#[]⟩ : ByteArray)] 25 (0, 0)) (bd12_ BK329.out)) : gb335 ≠ gb329)); clear BK329; clear HB; have BK329 := n0_; have HB := n1_; have BK335 := n2_; have GW335 := n3_; have GE335 := n4_; have NB329_335 := n5_; have NB335_329 := n6_; clear n0_ n1_ n2_ n3_ n4_ n5_ n6_; clear hb hbox hg; have hnb35 := NB335_329.out; have hnc35 := NB329_335.out; have hcz36_0 : w34.cell? ⟨gb335, 0, none⟩ = some (.int .i64 0) := (blk_cell BK335.out 0).trans rfl; have hcz36_1 : w34.cell? ⟨gb335, 1, none⟩ = some (.int .i64 0) := (blk_cell BK335.out 1).trans rfl; have hcz36_2 : w34.cell? ⟨gb335, 2, none⟩ = some (.string (⟨#[]⟩ : ByteArray)) := (blk_cell BK335.out 2).trans rfl; have hfz36_0 := blk_frozen BK335.out 0; have hfz36_1 := blk_frozen BK335.out 1; have hfz36_2 := blk_frozen BK335.out 2) | ((with_reducible refine gate_callee (f := 19) rfl ?_); refine goesL_ (some 19) rfl rfl Tryd.func19 (by kernel_rfl) rfl #[.slice A0 l0.length c0] rfl z12_3 ?_; (with_reducible refine (spec_l1New.calls k _ _ l0 t336 t337 t338 w _ ?side1 ?side2 ?side3 A3.out).mono ?_); (case side1 => repeat (first | (with_reducible first | exact HB.out | apply below_alloc | apply pw_below_drewN | apply below_drew1 | refine below_set ?_ GE329.out | refine below_set ?_ GE335.out) | exact HB.out)); (case side2 => exact HR0.out); (case side3 => exact HC0.out); rintro e w37 ⟨g339, rfl, hi, hb, hb2⟩; refine ⟨_, rfl, ?_⟩; have n0_ := Aside0.mk (blk_below (g := gb329) (o := .cells #[.int .i64 0, .int .i64 0, .string (⟨#[]⟩ : ByteArray)] 25 (0, 0)) z12_1 hb2); have n1_ := Aside0.mk (blk_below (g := gb335) (o := .cells #[.int .i64 t330, .int .i64 t331, .string t332] 25 (0, 0)) z12_0 hb2); have n2_ := Aside0.mk (hb); have n3_ := Aside0.mk (hi); have n4_ := Aside0.mk (IsS68.ne_blk hi (blk_below (g := gb329) (o := .cells #[.int .i64 0, .int .i64 0, .string (⟨#[]⟩ : ByteArray)] 25 (0, 0)) z12_1 hb2) (by decide)); have n5_ := Aside0.mk (Ne.symm (IsS68.ne_blk hi (blk_below (g := gb329) (o := .cells #[.int .i64 0, .int .i64 0, .string (⟨#[]⟩ : ByteArray)] 25 (0, 0)) z12_1 hb2) (by decide))); have n6_ := Aside0.mk (IsS68.ne_blk hi (blk_below (g := gb335) (o := .cells #[.int .i64 t330, .int .i64 t331, .string t332] 25 (0, 0)) z12_0 hb2) (by decide)); have n7_ := Aside0.mk (Ne.symm (IsS68.ne_blk hi (blk_below (g := gb335) (o := .cells #[.int .i64 t330, .int .i64 t331, .string t332] 25 (0, 0)) z12_0 hb2) (by decide))); clear BK329; clear BK335; clear HB; have BK329 := n0_; have BK335 := n1_; have HB := n2_; have HI339 := n3_; have NB339_329 := n4_; have NB329_339 := n5_; have NB339_335 := n6_; have NB335_339 := n7_; clear n0_ n1_ n2_ n3_ n4_ n5_ n6_ n7_; (try clear hb); (try clear hb2); (try clear hk); (try clear hi)) | ((with_reducible refine gate_callee (f := 20) rfl ?_); refine goesL_ (some 21) rfl rfl Tryd.func20 (by kernel_rfl) rfl #[.pointer (some ⟨g339, 0, none⟩)] rfl z12_3 ?_; (with_reducible refine (spec_l4Any.calls g339 t336 t337 t338 t340 t341 t342 w _ ?side1 ?side2 A4.out).mono ?_); (case side1 => exact z12_5); (case side2 => exact z12_2); rintro e w38 ⟨rfl, hi, hb, hk⟩; refine ⟨_, rfl, ?_⟩; have n0_ := Aside0.mk (KeepBut.blk hk (g' := gb329) (o := .cells #[.int .i64 0, .int .i64 0, .string (⟨#[]⟩ : ByteArray)] 25 (0, 0)) (bd12_ BK329.out) NB329_339.out (by simp)); have n1_ := Aside0.mk (KeepBut.blk hk (g' := gb335) (o := .cells #[.int .i64 t330, .int .i64 t331, .string t332] 25 (0, 0)) (bd12_ BK335.out) NB335_339.out (by simp)); have n2_ := Aside0.mk (hb); have n3_ := Aside0.mk (hi); clear BK329; clear BK335; clear HB; clear HI339; have BK329 := n0_; have BK335 := n1_; have HB := n2_; have HI339 := n3_; clear n0_ n1_ n2_ n3_; (try clear hb); (try clear hb2); (try clear hk); (try clear hi)))
      have n0_ := Aside0.mk (blk_drew BK329.out); have n1_ := Aside0.mk (blk_drew BK335.out); have n2_ := Aside0.mk (IsS68.drew HI339.out); have n3_ := Aside0.mk (below_drew1 HB.out); clear BK329; clear BK335; clear HI339; clear HB; have BK329 := n0_; have BK335 := n1_; have HI339 := n2_; have HB := n3_; clear n0_ n1_ n2_ n3_; refine start_ (n := 7) (S := fun w' => w'.cell? ⟨gb335, 0, none⟩ = some (.int .i64 t330) ∧ w'.cell? ⟨gb335, 1, none⟩ = some (.int .i64 t331) ∧ w'.cell? ⟨gb335, 2, none⟩ = some (.string t332)) (ds := []) #[false, false, false, false, false, false, false] (by kernel_rfl) rfl rfl ⟨(blk_cell BK335.out 0).trans rfl, (blk_cell BK335.out 1).trans rfl, (blk_cell BK335.out 2).trans rfl⟩ (fun hHeld => ?_)
      generalize w38.drew = w39 at BK329 BK335 HI339 HB hHeld ⊢
      refine pure_ (i := 2) (N := some 24) (v := ?_) (a' := ?_) #[false, false, true, false, false, false, false] rfl rfl (by kernel_rfl) (fun _ _ _ h => h) (Or.inl ⟨by rfl, ?_⟩) ?_ ?_
      rotate_left
      ·intro w'
       go_simp; with_reducible rfl
      rotate_left
      ·simp only [Act.put, pt12_, i64_w, i32_w]; rfl
      refine pure_ (i := 3) (N := some 25) (v := ?_) (a' := ?_) #[false, false, true, true, false, false, false] rfl rfl (by kernel_rfl) (fun _ _ _ h => h) (Or.inl ⟨by rfl, ?_⟩) ?_ ?_
      rotate_left
      ·intro w'
       go_simp; with_reducible rfl
      rotate_left
      ·simp only [Act.put, pt12_, i64_w, i32_w]; rfl
      refine take_ (i := 1) (N := some 23) (v := ?_) (a' := ?_) #[false, true, true, true, false, false, false] rfl rfl (by kernel_rfl) (fun _ _ _ h => h) (Or.inl ⟨by rfl, ?_⟩) hHeld ?_ ?_
      rotate_left
      ·rintro w' ⟨s0, s1, s2⟩
       go_simp; with_reducible rfl
      rotate_left
      ·simp only [Act.put, pt12_, i64_w, i32_w]; rfl
      refine one_ (i := 0) (N := some 22) #[true, true, true, true, false, false, false] rfl rfl (by kernel_rfl) (by decide) (fun K hK => ?_)
      refine goes_ Tryd.func22 (by kernel_rfl) rfl #[] (by rfl) rfl rfl z12_3 ?_
      with_reducible refine (spec_l4Words.calls  t343 _ A5.out).mono ?_
      rintro e w40 ⟨v344, rfl, ho0, hb⟩
      refine ⟨_, rfl, ?_⟩
      have n0_ := Aside0.mk (Kd.R_lower ho0 (below_size z12_2)); have n1_ := Aside0.mk (blk_below (g := gb329) (o := .cells #[.int .i64 0, .int .i64 0, .string (⟨#[]⟩ : ByteArray)] 25 (0, 0)) (bd12_ BK329.out) hb); have n2_ := Aside0.mk (blk_below (g := gb335) (o := .cells #[.int .i64 t330, .int .i64 t331, .string t332] 25 (0, 0)) (bd12_ BK335.out) hb); have n3_ := Aside0.mk (IsS68.below z12_5 hb); have n4_ := Aside0.mk (below_step z12_2 hb); clear BK329; clear BK335; clear HI339; clear HB; have HO345 := n0_; have BK329 := n1_; have BK335 := n2_; have HI339 := n3_; have HB := n4_; clear n0_ n1_ n2_ n3_ n4_; (try clear hb)
      (try clear hb2)
      (try clear hk)
      (try clear hi)
      (try clear ho0)
      refine hK.out _ _ ⟨(blk_cell BK335.out 0).trans rfl, (blk_cell BK335.out 1).trans rfl, (blk_cell BK335.out 2).trans rfl⟩ (fun hHeld => ?_)
      clear hK K; refine norm_ (a' := ?_) ?_ ?_
      rotate_left
      ·show Act.put _ (some 22) _ = _
       simp only [Act.put, pt12_, i64_w, i32_w]; rfl
      refine one_ (i := 4) (N := some 26) #[true, true, true, true, true, false, false] rfl rfl (by kernel_rfl) (by decide) (fun K hK => ?_)
      refine goes_ Tryd.func23 (by kernel_rfl) rfl #[.agg #[.int .i64 t330, .int .i64 t331, .string t332], .string t333, .int .i64 t334] (by rfl) rfl rfl z12_3 ?_
      with_reducible refine (spec_SlotPattern.calls k t330 t331 t332 t333 t334 t346 _ A6.out).mono ?_
      rintro e w41 ⟨rfl, hb⟩
      refine ⟨_, rfl, ?_⟩
      have n0_ := Aside0.mk (Kd.R_below (kd12_ HO345.out) hb); have n1_ := Aside0.mk (blk_below (g := gb329) (o := .cells #[.int .i64 0, .int .i64 0, .string (⟨#[]⟩ : ByteArray)] 25 (0, 0)) (bd12_ BK329.out) hb); have n2_ := Aside0.mk (blk_below (g := gb335) (o := .cells #[.int .i64 t330, .int .i64 t331, .string t332] 25 (0, 0)) (bd12_ BK335.out) hb); have n3_ := Aside0.mk (IsS68.below z12_5 hb); have n4_ := Aside0.mk (below_step z12_2 hb); clear HO345; clear BK329; clear BK335; clear HI339; clear HB; have HO345 := n0_; have BK329 := n1_; have BK335 := n2_; have HI339 := n3_; have HB := n4_; clear n0_ n1_ n2_ n3_ n4_; (try clear hb)
      (try clear hb2)
      (try clear hk)
      (try clear hi)
      obtain ⟨Ao42, co42, eo42⟩ := Kd.R_slice HO345.out; (first | subst eo42 | (injection eo42 with f1_ f2_ f3_; have f4_ := f1_.symm; have f5_ := f3_.symm; clear f1_ f2_ f3_; subst f4_; subst f5_))
      refine hK.out _ _ ⟨(blk_cell BK335.out 0).trans rfl, (blk_cell BK335.out 1).trans rfl, (blk_cell BK335.out 2).trans rfl⟩ (fun hHeld => ?_)
      clear hK K; refine norm_ (a' := ?_) ?_ ?_
      rotate_left
      ·show Act.put _ (some 26) _ = _
       simp only [Act.put, pt12_, i64_w, i32_w]; rfl
      refine one_ (i := 5) (N := some 27) #[true, true, true, true, true, true, false] rfl rfl (by kernel_rfl) (by decide) (fun K hK => ?_)
      refine goes_ Tryd.func21 (by kernel_rfl) rfl #[.slice Ao42 t343.length co42, .string t346] (by rfl) rfl rfl z12_3 ?_
      with_reducible refine (spec_WordsFitting.calls k _ _ t343 t346 t347 _ ?side1 ?side2 A7.out).mono ?_
      (case side1 => repeat (first | exact (Kd.R_reads' HO345.out).2.2 | (with_reducible refine Kd.C_alloc ?_ _) | (with_reducible refine Kd.C_drewN ?_ _) | (with_reducible refine Kd.C_drew ?_)))
      (case side2 => exact (Kd.R_reads' HO345.out).2.1)
      rintro e w43 ⟨v348, rfl, ho0, hb⟩
      refine ⟨_, rfl, ?_⟩
      have n0_ := Aside0.mk (Kd.R_elder' (kd12_ HO345.out) (Kd.R_base ho0) hb); have n1_ := Aside0.mk (Kd.R_lower (Kd.R_new' ho0 (Kd.R_lt (kd12_ HO345.out))) (below_size z12_2)); have n2_ := Aside0.mk (blk_below (g := gb329) (o := .cells #[.int .i64 0, .int .i64 0, .string (⟨#[]⟩ : ByteArray)] 25 (0, 0)) (bd12_ BK329.out) hb); have n3_ := Aside0.mk (blk_below (g := gb335) (o := .cells #[.int .i64 t330, .int .i64 t331, .string t332] 25 (0, 0)) (bd12_ BK335.out) hb); have n4_ := Aside0.mk (IsS68.below z12_5 hb); have n5_ := Aside0.mk (below_step z12_2 hb); clear HO345; clear BK329; clear BK335; clear HI339; clear HB; have HO345 := n0_; have HO349 := n1_; have BK329 := n2_; have BK335 := n3_; have HI339 := n4_; have HB := n5_; clear n0_ n1_ n2_ n3_ n4_ n5_; (try clear hb)
      (try clear hb2)
      (try clear hk)
      (try clear hi)
      (try clear ho0)
      refine hK.out _ _ ⟨(blk_cell BK335.out 0).trans rfl, (blk_cell BK335.out 1).trans rfl, (blk_cell BK335.out 2).trans rfl⟩ (fun hHeld => ?_)
      clear hK K; refine norm_ (a' := ?_) ?_ ?_
      rotate_left
      ·show Act.put _ (some 27) _ = _
       simp only [Act.put, pt12_, i64_w, i32_w]; rfl
      refine pure_ (i := 6) (N := some 11) (v := ?_) (a' := ?_) #[true, true, true, true, true, true, true] rfl rfl (by kernel_rfl) (fun _ _ _ h => h) (Or.inl ⟨by rfl, ?_⟩) ?_ ?_
      rotate_left
      ·intro w'
       go_simp; with_reducible rfl
      rotate_left
      ·simp only [Act.put, pt12_, i64_w, i32_w]; rfl
      refine done_ (by kernel_rfl) ?_
      obtain ⟨Ao44, co44, eo44⟩ := Kd.R_slice HO349.out; subst eo44; try go_wp2_with (first | (go_at_call 24; (with_reducible refine (spec_l1Once.calls g339 t336 t341 t342 3 false t351 t352 w _ ?side1 ?side2 A9.out).mono ?_); (case side1 => exact z12_5); (case side2 => exact z12_2); rintro e w45 ⟨rfl, hi, hb, hk⟩; have n0_ := Aside0.mk (KeepBut.blk hk (g' := gb329) (o := .cells #[.int .i64 0, .int .i64 0, .string (⟨#[]⟩ : ByteArray)] 25 (0, 0)) (bd12_ BK329.out) NB329_339.out (by simp)); have n1_ := Aside0.mk (KeepBut.blk hk (g' := gb335) (o := .cells #[.int .i64 t330, .int .i64 t331, .string t332] 25 (0, 0)) (bd12_ BK335.out) NB335_339.out (by simp)); have n2_ := Aside0.mk (Kd.R_mono (Kd.R_keep (IsS68.apart (show IsS68 w _ g339 t336 t341 t342 from by repeat (first | (with_reducible first | exact HI339.out | apply IsS68.alloc | apply IsS68.drewN | apply IsS68.drew | apply IsS68.set_1 | apply IsS68.set_2 | refine IsS68.far ?_ NB339_329.out _ | refine IsS68.far ?_ NB339_335.out _) | exact HI339.out)) (kd12_ HO345.out) (by decide)) hk (fun _ h => h.2)) (fun _ h => h.1)); have n3_ := Aside0.mk (Kd.R_mono (Kd.R_keep (IsS68.apart (show IsS68 w _ g339 t336 t341 t342 from by repeat (first | (with_reducible first | exact HI339.out | apply IsS68.alloc | apply IsS68.drewN | apply IsS68.drew | apply IsS68.set_1 | apply IsS68.set_2 | refine IsS68.far ?_ NB339_329.out _ | refine IsS68.far ?_ NB339_335.out _) | exact HI339.out)) (kd12_ HO349.out) (by decide)) hk (fun _ h => h.2)) (fun _ h => h.1)); have n4_ := Aside0.mk (hb); have n5_ := Aside0.mk (hi); clear BK329; clear BK335; clear HO345; clear HO349; clear HB; clear HI339; have BK329 := n0_; have BK335 := n1_; have HO345 := n2_; have HO349 := n3_; have HB := n4_; have HI339 := n5_; clear n0_ n1_ n2_ n3_ n4_ n5_; (try clear hb); (try clear hb2); (try clear hk); (try clear hi)) | ((with_reducible refine gate_callee (f := 25) rfl ?_); refine goesL_ (some 40) rfl rfl Tryd.func25 (by kernel_rfl) rfl #[.pointer (some ⟨g339, 0, none⟩), .int .i64 (t347.length : Int)] rfl z12_3 ?_; (with_reducible refine (spec_l1Below.calls g339 t336 t351 t352 (t347.length : Int) t353 t354 t355 w _ ?side1 ?side2 A29.out).mono ?_); (case side1 => exact z12_5); (case side2 => exact z12_2); rintro e w46 ⟨rfl, hi, hb, hk⟩; refine ⟨_, rfl, ?_⟩; have n0_ := Aside0.mk (KeepBut.blk hk (g' := gb329) (o := .cells #[.int .i64 0, .int .i64 0, .string (⟨#[]⟩ : ByteArray)] 25 (0, 0)) (bd12_ BK329.out) NB329_339.out (by simp)); have n1_ := Aside0.mk (KeepBut.blk hk (g' := gb335) (o := .cells #[.int .i64 t330, .int .i64 t331, .string t332] 25 (0, 0)) (bd12_ BK335.out) NB335_339.out (by simp)); have n2_ := Aside0.mk (Kd.R_mono (Kd.R_keep (IsS68.apart (show IsS68 w _ g339 t336 t351 t352 from by repeat (first | (with_reducible first | exact HI339.out | apply IsS68.alloc | apply IsS68.drewN | apply IsS68.drew | apply IsS68.set_1 | apply IsS68.set_2 | refine IsS68.far ?_ NB339_329.out _ | refine IsS68.far ?_ NB339_335.out _) | exact HI339.out)) (kd12_ HO345.out) (by decide)) hk (fun _ h => h.2)) (fun _ h => h.1)); have n3_ := Aside0.mk (Kd.R_mono (Kd.R_keep (IsS68.apart (show IsS68 w _ g339 t336 t351 t352 from by repeat (first | (with_reducible first | exact HI339.out | apply IsS68.alloc | apply IsS68.drewN | apply IsS68.drew | apply IsS68.set_1 | apply IsS68.set_2 | refine IsS68.far ?_ NB339_329.out _ | refine IsS68.far ?_ NB339_335.out _) | exact HI339.out)) (kd12_ HO349.out) (by decide)) hk (fun _ h => h.2)) (fun _ h => h.1)); have n4_ := Aside0.mk (hb); have n5_ := Aside0.mk (hi); clear BK329; clear BK335; clear HO345; clear HO349; clear HB; clear HI339; have BK329 := n0_; have BK335 := n1_; have HO345 := n2_; have HO349 := n3_; have HB := n4_; have HI339 := n5_; clear n0_ n1_ n2_ n3_ n4_ n5_; (try clear hb); (try clear hb2); (try clear hk); (try clear hi); have p356 : 0 ≤ (t353 : Int) := of_decide_eq_true (by first | (with_reducible assumption) | assumption); have q356 : t353 < (t347.length : Int) := of_decide_eq_true (by first | (with_reducible assumption) | assumption); obtain ⟨ad356, e356, hx356_0⟩ := Kd.at_string (Kd.R_reads' HO349.out).2.2 t353 p356 q356; cases e356; replace p356 := eq_true p356; replace q356 := eq_true q356; have hnb47 := NB335_339.out; have hnc47 := NB339_335.out; have hcz48_0 : w46.cell? ⟨gb335, 0, none⟩ = some (.int .i64 t330) := (blk_cell BK335.out 0).trans rfl; have hcz48_1 : w46.cell? ⟨gb335, 1, none⟩ = some (.int .i64 t331) := (blk_cell BK335.out 1).trans rfl; have hcz48_2 : w46.cell? ⟨gb335, 2, none⟩ = some (.string t332) := (blk_cell BK335.out 2).trans rfl; have hfz48_0 := blk_frozen BK335.out 0; have hfz48_1 := blk_frozen BK335.out 1; have hfz48_2 := blk_frozen BK335.out 2; have hnb49 := NB329_339.out; have hnc49 := NB339_329.out; have hcz50_0 : w46.cell? ⟨gb329, 0, none⟩ = some (.int .i64 0) := (blk_cell BK329.out 0).trans rfl; have hcz50_1 : w46.cell? ⟨gb329, 1, none⟩ = some (.int .i64 0) := (blk_cell BK329.out 1).trans rfl; have hcz50_2 : w46.cell? ⟨gb329, 2, none⟩ = some (.string (⟨#[]⟩ : ByteArray)) := (blk_cell BK329.out 2).trans rfl; have hfz50_0 := blk_frozen BK329.out 0; have hfz50_1 := blk_frozen BK329.out 1; have hfz50_2 := blk_frozen BK329.out 2))
      refine bodyPost_ret (results_list (rs := [.cell 2 25, .tmp 3, .tmp 4, .tmp 5]) rfl (by simp) (.cell gb329 25 #[.int .i64 t330, .int .i64 t331, .string t332] (0, 0) _ rfl z12_7 Tryd.underlying25 rfl (by kernel_rfl) (.tmp (.tmp (.tmp .nil))))) rfl ?_
      exact ⟨by first | rfl | (simp [errW_none, errW_some] <;> rfl) | (simp [*, errW_none, errW_some] <;> rfl), z12_2⟩
     ·rw [if_neg c31] at H
      exact absurd H (by simp)
    ·rw [if_neg c30] at H
     exact absurd H (by simp)
  ·rw [if_neg c8] at H
   have c8b0 : decide (0 < (t347.length : Int)) = false := decide_eq_false c8; have c8b1 : decide (0 < t347.length) = false := decide_eq_false (by omega); clear c8; simp only [Option.some.injEq, Prod.mk.injEq] at H; obtain ⟨rfl, rfl, rfl, rfl, rfl, rfl⟩ := H; go_enter Tryd.func5, Tryd.ntmps5
   try go_wp2_with (first | ((with_reducible refine gate_dst (N := 2) rfl ?_); refine box_event ?hg (N := 2) ?hd (cs := #[.int .i64 0, .int .i64 0, .string (⟨#[]⟩ : ByteArray)]) (t := 25) ?hr ?_; (case hd => rfl); (case hg => rfl); (case hr => first | (go_simp; done) | (go_simp; rfl)); intro gb329 hg w51 hbox hb; have n0_ := Aside0.mk (below_step z12_4 hb); have n1_ := Aside0.mk (hbox); have n2_ := Aside0.mk ((by rw [hg]; exact (below_size z12_4) : w.heap.size ≤ gb329)); have n3_ := Aside0.mk ((by rw [hg]; exact (below_size z12_4) : w.heap.size ≤ gb329)); clear HB; have HB := n0_; have BK329 := n1_; have GW329 := n2_; have GE329 := n3_; clear n0_ n1_ n2_ n3_; clear hb hbox hg) | ((with_reducible refine gate_callee (f := 18) rfl ?_); refine goesL_ (some 14) rfl rfl Tryd.func18 (by kernel_rfl) rfl #[.slice A0 l0.length c0] rfl z12_3 ?_; (with_reducible refine (spec_DrawSlotPattern.calls k _ _ l0 t330 t331 t332 t333 t334 _ ?side1 ?side2 A2.out).mono ?_); (case side1 => repeat (first | exact (Kd.C_below HR0.out HB.out) | (with_reducible refine Kd.C_alloc ?_ _) | (with_reducible refine Kd.C_drewN ?_ _) | (with_reducible refine Kd.C_drew ?_))); (case side2 => exact HC0.out); rintro e w52 ⟨rfl, hb⟩; refine ⟨_, rfl, ?_⟩; have n0_ := Aside0.mk (blk_below (g := gb329) (o := .cells #[.int .i64 0, .int .i64 0, .string (⟨#[]⟩ : ByteArray)] 25 (0, 0)) (bd12_ BK329.out) hb); have n1_ := Aside0.mk (below_step z12_6 hb); clear BK329; clear HB; have BK329 := n0_; have HB := n1_; clear n0_ n1_; (try clear hb); (try clear hb2); (try clear hk); (try clear hi)) | ((with_reducible refine gate_dst (N := 6) rfl ?_); refine box_event ?hg (N := 6) ?hd (cs := #[.int .i64 0, .int .i64 0, .string (⟨#[]⟩ : ByteArray)]) (t := 25) ?hr ?_; (case hd => rfl); (case hg => rfl); (case hr => first | (go_simp; done) | (go_simp; rfl)); intro gb335 hg w53 hbox hb; have n0_ := Aside0.mk (blk_below (g := gb329) (o := .cells #[.int .i64 0, .int .i64 0, .string (⟨#[]⟩ : ByteArray)] 25 (0, 0)) (bd12_ BK329.out) hb); have n1_ := Aside0.mk (below_step z12_6 hb); have n2_ := Aside0.mk (hbox); have n3_ := Aside0.mk ((by rw [hg]; exact (below_size z12_6) : w.heap.size ≤ gb335)); have n4_ := Aside0.mk ((by rw [hg]; exact (below_size z12_6) : w.heap.size ≤ gb335)); have n5_ := Aside0.mk ((by rw [hg]; exact Nat.ne_of_lt (blk_lt (g := gb329) (o := .cells #[.int .i64 0, .int .i64 0, .string (⟨#[]⟩ : ByteArray)] 25 (0, 0)) (bd12_ BK329.out)) : gb329 ≠ gb335)); have n6_ := Aside0.mk ((by rw [hg]; exact Nat.ne_of_gt (blk_lt (g := gb329) (o := .cells #[.int .i64 0, .int .i64 0, .string (⟨#[]⟩ : ByteArray)] 25 (0, 0)) (bd12_ BK329.out)) : gb335 ≠ gb329)); clear BK329; clear HB; have BK329 := n0_; have HB := n1_; have BK335 := n2_; have GW335 := n3_; have GE335 := n4_; have NB329_335 := n5_; have NB335_329 := n6_; clear n0_ n1_ n2_ n3_ n4_ n5_ n6_; clear hb hbox hg; have hnb54 := NB335_329.out; have hnc54 := NB329_335.out; have hcz55_0 : w53.cell? ⟨gb335, 0, none⟩ = some (.int .i64 0) := (blk_cell BK335.out 0).trans rfl; have hcz55_1 : w53.cell? ⟨gb335, 1, none⟩ = some (.int .i64 0) := (blk_cell BK335.out 1).trans rfl; have hcz55_2 : w53.cell? ⟨gb335, 2, none⟩ = some (.string (⟨#[]⟩ : ByteArray)) := (blk_cell BK335.out 2).trans rfl; have hfz55_0 := blk_frozen BK335.out 0; have hfz55_1 := blk_frozen BK335.out 1; have hfz55_2 := blk_frozen BK335.out 2) | ((with_reducible refine gate_callee (f := 19) rfl ?_); refine goesL_ (some 19) rfl rfl Tryd.func19 (by kernel_rfl) rfl #[.slice A0 l0.length c0] rfl z12_3 ?_; (with_reducible refine (spec_l1New.calls k _ _ l0 t336 t337 t338 w _ ?side1 ?side2 ?side3 A3.out).mono ?_); (case side1 => repeat (first | (with_reducible first | exact HB.out | apply below_alloc | apply pw_below_drewN | apply below_drew1 | refine below_set ?_ GE329.out | refine below_set ?_ GE335.out) | exact HB.out)); (case side2 => exact HR0.out); (case side3 => exact HC0.out); rintro e w56 ⟨g339, rfl, hi, hb, hb2⟩; refine ⟨_, rfl, ?_⟩; have n0_ := Aside0.mk (blk_below (g := gb329) (o := .cells #[.int .i64 0, .int .i64 0, .string (⟨#[]⟩ : ByteArray)] 25 (0, 0)) z12_1 hb2); have n1_ := Aside0.mk (blk_below (g := gb335) (o := .cells #[.int .i64 t330, .int .i64 t331, .string t332] 25 (0, 0)) z12_0 hb2); have n2_ := Aside0.mk (hb); have n3_ := Aside0.mk (hi); have n4_ := Aside0.mk (IsS68.ne_blk hi (blk_below (g := gb329) (o := .cells #[.int .i64 0, .int .i64 0, .string (⟨#[]⟩ : ByteArray)] 25 (0, 0)) z12_1 hb2) (by decide)); have n5_ := Aside0.mk (Ne.symm (IsS68.ne_blk hi (blk_below (g := gb329) (o := .cells #[.int .i64 0, .int .i64 0, .string (⟨#[]⟩ : ByteArray)] 25 (0, 0)) z12_1 hb2) (by decide))); have n6_ := Aside0.mk (IsS68.ne_blk hi (blk_below (g := gb335) (o := .cells #[.int .i64 t330, .int .i64 t331, .string t332] 25 (0, 0)) z12_0 hb2) (by decide)); have n7_ := Aside0.mk (Ne.symm (IsS68.ne_blk hi (blk_below (g := gb335) (o := .cells #[.int .i64 t330, .int .i64 t331, .string t332] 25 (0, 0)) z12_0 hb2) (by decide))); clear BK329; clear BK335; clear HB; have BK329 := n0_; have BK335 := n1_; have HB := n2_; have HI339 := n3_; have NB339_329 := n4_; have NB329_339 := n5_; have NB339_335 := n6_; have NB335_339 := n7_; clear n0_ n1_ n2_ n3_ n4_ n5_ n6_ n7_; (try clear hb); (try clear hb2); (try clear hk); (try clear hi)) | ((with_reducible refine gate_callee (f := 20) rfl ?_); refine goesL_ (some 21) rfl rfl Tryd.func20 (by kernel_rfl) rfl #[.pointer (some ⟨g339, 0, none⟩)] rfl z12_3 ?_; (with_reducible refine (spec_l4Any.calls g339 t336 t337 t338 t340 t341 t342 w _ ?side1 ?side2 A4.out).mono ?_); (case side1 => exact z12_5); (case side2 => exact z12_2); rintro e w57 ⟨rfl, hi, hb, hk⟩; refine ⟨_, rfl, ?_⟩; have n0_ := Aside0.mk (KeepBut.blk hk (g' := gb329) (o := .cells #[.int .i64 0, .int .i64 0, .string (⟨#[]⟩ : ByteArray)] 25 (0, 0)) (bd12_ BK329.out) NB329_339.out (by simp)); have n1_ := Aside0.mk (KeepBut.blk hk (g' := gb335) (o := .cells #[.int .i64 t330, .int .i64 t331, .string t332] 25 (0, 0)) (bd12_ BK335.out) NB335_339.out (by simp)); have n2_ := Aside0.mk (hb); have n3_ := Aside0.mk (hi); clear BK329; clear BK335; clear HB; clear HI339; have BK329 := n0_; have BK335 := n1_; have HB := n2_; have HI339 := n3_; clear n0_ n1_ n2_ n3_; (try clear hb); (try clear hb2); (try clear hk); (try clear hi)))
   have n0_ := Aside0.mk (blk_drew BK329.out); have n1_ := Aside0.mk (blk_drew BK335.out); have n2_ := Aside0.mk (IsS68.drew HI339.out); have n3_ := Aside0.mk (below_drew1 HB.out); clear BK329; clear BK335; clear HI339; clear HB; have BK329 := n0_; have BK335 := n1_; have HI339 := n2_; have HB := n3_; clear n0_ n1_ n2_ n3_; refine start_ (n := 7) (S := fun w' => w'.cell? ⟨gb335, 0, none⟩ = some (.int .i64 t330) ∧ w'.cell? ⟨gb335, 1, none⟩ = some (.int .i64 t331) ∧ w'.cell? ⟨gb335, 2, none⟩ = some (.string t332)) (ds := []) #[false, false, false, false, false, false, false] (by kernel_rfl) rfl rfl ⟨(blk_cell BK335.out 0).trans rfl, (blk_cell BK335.out 1).trans rfl, (blk_cell BK335.out 2).trans rfl⟩ (fun hHeld => ?_)
   generalize w57.drew = w58 at BK329 BK335 HI339 HB hHeld ⊢
   refine pure_ (i := 2) (N := some 24) (v := ?_) (a' := ?_) #[false, false, true, false, false, false, false] rfl rfl (by kernel_rfl) (fun _ _ _ h => h) (Or.inl ⟨by rfl, ?_⟩) ?_ ?_
   rotate_left
   ·intro w'
    go_simp; with_reducible rfl
   rotate_left
   ·simp only [Act.put, pt12_, i64_w, i32_w]; rfl
   refine pure_ (i := 3) (N := some 25) (v := ?_) (a' := ?_) #[false, false, true, true, false, false, false] rfl rfl (by kernel_rfl) (fun _ _ _ h => h) (Or.inl ⟨by rfl, ?_⟩) ?_ ?_
   rotate_left
   ·intro w'
    go_simp; with_reducible rfl
   rotate_left
   ·simp only [Act.put, pt12_, i64_w, i32_w]; rfl
   refine take_ (i := 1) (N := some 23) (v := ?_) (a' := ?_) #[false, true, true, true, false, false, false] rfl rfl (by kernel_rfl) (fun _ _ _ h => h) (Or.inl ⟨by rfl, ?_⟩) hHeld ?_ ?_
   rotate_left
   ·rintro w' ⟨s0, s1, s2⟩
    go_simp; with_reducible rfl
   rotate_left
   ·simp only [Act.put, pt12_, i64_w, i32_w]; rfl
   refine one_ (i := 0) (N := some 22) #[true, true, true, true, false, false, false] rfl rfl (by kernel_rfl) (by decide) (fun K hK => ?_)
   refine goes_ Tryd.func22 (by kernel_rfl) rfl #[] (by rfl) rfl rfl z12_3 ?_
   with_reducible refine (spec_l4Words.calls  t343 _ A5.out).mono ?_
   rintro e w59 ⟨v344, rfl, ho0, hb⟩
   refine ⟨_, rfl, ?_⟩
   have n0_ := Aside0.mk (Kd.R_lower ho0 (below_size z12_2)); have n1_ := Aside0.mk (blk_below (g := gb329) (o := .cells #[.int .i64 0, .int .i64 0, .string (⟨#[]⟩ : ByteArray)] 25 (0, 0)) (bd12_ BK329.out) hb); have n2_ := Aside0.mk (blk_below (g := gb335) (o := .cells #[.int .i64 t330, .int .i64 t331, .string t332] 25 (0, 0)) (bd12_ BK335.out) hb); have n3_ := Aside0.mk (IsS68.below z12_5 hb); have n4_ := Aside0.mk (below_step z12_2 hb); clear BK329; clear BK335; clear HI339; clear HB; have HO345 := n0_; have BK329 := n1_; have BK335 := n2_; have HI339 := n3_; have HB := n4_; clear n0_ n1_ n2_ n3_ n4_; (try clear hb)
   (try clear hb2)
   (try clear hk)
   (try clear hi)
   (try clear ho0)
   refine hK.out _ _ ⟨(blk_cell BK335.out 0).trans rfl, (blk_cell BK335.out 1).trans rfl, (blk_cell BK335.out 2).trans rfl⟩ (fun hHeld => ?_)
   clear hK K; refine norm_ (a' := ?_) ?_ ?_
   rotate_left
   ·show Act.put _ (some 22) _ = _
    simp only [Act.put, pt12_, i64_w, i32_w]; rfl
   refine one_ (i := 4) (N := some 26) #[true, true, true, true, true, false, false] rfl rfl (by kernel_rfl) (by decide) (fun K hK => ?_)
   refine goes_ Tryd.func23 (by kernel_rfl) rfl #[.agg #[.int .i64 t330, .int .i64 t331, .string t332], .string t333, .int .i64 t334] (by rfl) rfl rfl z12_3 ?_
   with_reducible refine (spec_SlotPattern.calls k t330 t331 t332 t333 t334 t346 _ A6.out).mono ?_
   rintro e w60 ⟨rfl, hb⟩
   refine ⟨_, rfl, ?_⟩
   have n0_ := Aside0.mk (Kd.R_below (kd12_ HO345.out) hb); have n1_ := Aside0.mk (blk_below (g := gb329) (o := .cells #[.int .i64 0, .int .i64 0, .string (⟨#[]⟩ : ByteArray)] 25 (0, 0)) (bd12_ BK329.out) hb); have n2_ := Aside0.mk (blk_below (g := gb335) (o := .cells #[.int .i64 t330, .int .i64 t331, .string t332] 25 (0, 0)) (bd12_ BK335.out) hb); have n3_ := Aside0.mk (IsS68.below z12_5 hb); have n4_ := Aside0.mk (below_step z12_2 hb); clear HO345; clear BK329; clear BK335; clear HI339; clear HB; have HO345 := n0_; have BK329 := n1_; have BK335 := n2_; have HI339 := n3_; have HB := n4_; clear n0_ n1_ n2_ n3_ n4_; (try clear hb)
   (try clear hb2)
   (try clear hk)
   (try clear hi)
   obtain ⟨Ao61, co61, eo61⟩ := Kd.R_slice HO345.out; (first | subst eo61 | (injection eo61 with f1_ f2_ f3_; have f4_ := f1_.symm; have f5_ := f3_.symm; clear f1_ f2_ f3_; subst f4_; subst f5_))
   refine hK.out _ _ ⟨(blk_cell BK335.out 0).trans rfl, (blk_cell BK335.out 1).trans rfl, (blk_cell BK335.out 2).trans rfl⟩ (fun hHeld => ?_)
   clear hK K; refine norm_ (a' := ?_) ?_ ?_
   rotate_left
   ·show Act.put _ (some 26) _ = _
    simp only [Act.put, pt12_, i64_w, i32_w]; rfl
   refine one_ (i := 5) (N := some 27) #[true, true, true, true, true, true, false] rfl rfl (by kernel_rfl) (by decide) (fun K hK => ?_)
   refine goes_ Tryd.func21 (by kernel_rfl) rfl #[.slice Ao61 t343.length co61, .string t346] (by rfl) rfl rfl z12_3 ?_
   with_reducible refine (spec_WordsFitting.calls k _ _ t343 t346 t347 _ ?side1 ?side2 A7.out).mono ?_
   (case side1 => repeat (first | exact (Kd.R_reads' HO345.out).2.2 | (with_reducible refine Kd.C_alloc ?_ _) | (with_reducible refine Kd.C_drewN ?_ _) | (with_reducible refine Kd.C_drew ?_)))
   (case side2 => exact (Kd.R_reads' HO345.out).2.1)
   rintro e w62 ⟨v348, rfl, ho0, hb⟩
   refine ⟨_, rfl, ?_⟩
   have n0_ := Aside0.mk (Kd.R_elder' (kd12_ HO345.out) (Kd.R_base ho0) hb); have n1_ := Aside0.mk (Kd.R_lower (Kd.R_new' ho0 (Kd.R_lt (kd12_ HO345.out))) (below_size z12_2)); have n2_ := Aside0.mk (blk_below (g := gb329) (o := .cells #[.int .i64 0, .int .i64 0, .string (⟨#[]⟩ : ByteArray)] 25 (0, 0)) (bd12_ BK329.out) hb); have n3_ := Aside0.mk (blk_below (g := gb335) (o := .cells #[.int .i64 t330, .int .i64 t331, .string t332] 25 (0, 0)) (bd12_ BK335.out) hb); have n4_ := Aside0.mk (IsS68.below z12_5 hb); have n5_ := Aside0.mk (below_step z12_2 hb); clear HO345; clear BK329; clear BK335; clear HI339; clear HB; have HO345 := n0_; have HO349 := n1_; have BK329 := n2_; have BK335 := n3_; have HI339 := n4_; have HB := n5_; clear n0_ n1_ n2_ n3_ n4_ n5_; (try clear hb)
   (try clear hb2)
   (try clear hk)
   (try clear hi)
   (try clear ho0)
   refine hK.out _ _ ⟨(blk_cell BK335.out 0).trans rfl, (blk_cell BK335.out 1).trans rfl, (blk_cell BK335.out 2).trans rfl⟩ (fun hHeld => ?_)
   clear hK K; refine norm_ (a' := ?_) ?_ ?_
   rotate_left
   ·show Act.put _ (some 27) _ = _
    simp only [Act.put, pt12_, i64_w, i32_w]; rfl
   refine pure_ (i := 6) (N := some 11) (v := ?_) (a' := ?_) #[true, true, true, true, true, true, true] rfl rfl (by kernel_rfl) (fun _ _ _ h => h) (Or.inl ⟨by rfl, ?_⟩) ?_ ?_
   rotate_left
   ·intro w'
    go_simp; with_reducible rfl
   rotate_left
   ·simp only [Act.put, pt12_, i64_w, i32_w]; rfl
   refine done_ (by kernel_rfl) ?_
   obtain ⟨Ao63, co63, eo63⟩ := Kd.R_slice HO349.out; subst eo63; have hnb64 := NB335_339.out; have hnc64 := NB339_335.out; have hcz65_0 : w62.cell? ⟨gb335, 0, none⟩ = some (.int .i64 t330) := (blk_cell BK335.out 0).trans rfl; have hcz65_1 : w62.cell? ⟨gb335, 1, none⟩ = some (.int .i64 t331) := (blk_cell BK335.out 1).trans rfl; have hcz65_2 : w62.cell? ⟨gb335, 2, none⟩ = some (.string t332) := (blk_cell BK335.out 2).trans rfl; have hfz65_0 := blk_frozen BK335.out 0; have hfz65_1 := blk_frozen BK335.out 1; have hfz65_2 := blk_frozen BK335.out 2; have hnb66 := NB329_339.out; have hnc66 := NB339_329.out; have hcz67_0 : w62.cell? ⟨gb329, 0, none⟩ = some (.int .i64 0) := (blk_cell BK329.out 0).trans rfl; have hcz67_1 : w62.cell? ⟨gb329, 1, none⟩ = some (.int .i64 0) := (blk_cell BK329.out 1).trans rfl; have hcz67_2 : w62.cell? ⟨gb329, 2, none⟩ = some (.string (⟨#[]⟩ : ByteArray)) := (blk_cell BK329.out 2).trans rfl; have hfz67_0 := blk_frozen BK329.out 0; have hfz67_1 := blk_frozen BK329.out 1; have hfz67_2 := blk_frozen BK329.out 2; try go_wp2
   refine bodyPost_ret (results_list (rs := [.cell 2 25, .tmp 3, .tmp 4, .tmp 5]) rfl (by simp) (.cell gb329 25 #[.int .i64 t330, .int .i64 t331, .string t332] (0, 0) _ rfl z12_7 Tryd.underlying25 rfl (by kernel_rfl) (.tmp (.tmp (.tmp .nil))))) rfl ?_
   exact ⟨by first | rfl | (simp [errW_none, errW_some] <;> rfl) | (simp [*, errW_none, errW_some] <;> rfl), z12_2⟩

/-! ### impl_InRange: function 38 -/
def impl_InRange.f (a0 : Int) (a1 : Int) (a2 : Int) : Option (Bool) := if a1 ≤ a0 then (some (decide (a0 ≤ a2))) else (some false)
set_option maxHeartbeats 8000000 in
set_option maxRecDepth 100000 in
theorem impl_InRange.calls (a0 : Int) (a1 : Int) (a2 : Int) (r : Bool) (w : World) (h : impl_InRange.f a0 a1 a2 = some r) :
   Calls Tryd.prog 38 #[.int .i64 a0, .int .i64 a1, .int .i64 a2] w fun e w' => e = .returned (.bool r) ∧ Drawn0 w w' := by
  have H : (if a1 ≤ a0 then (some (decide (a0 ≤ a2))) else (some false)) = some r := h; clear h; by_cases c4 : a1 ≤ a0
  ·rw [if_pos c4] at H
   have c4b0 : decide (a1 ≤ a0) = true := decide_eq_true c4; clear c4; obtain rfl := Option.some.inj H; go_enter Tryd.func38, Tryd.ntmps38
   go_wp2
   go_ret
   exact ⟨by first | rfl | (simp; done) | (simp [*]; done), by repeat (first | exact Drawn0.refl _ | apply Drawn0.step)⟩
  ·rw [if_neg c4] at H
   have c4b0 : decide (a1 ≤ a0) = false := decide_eq_false c4; clear c4; obtain rfl := Option.some.inj H; go_enter Tryd.func38, Tryd.ntmps38
   go_wp2
   go_ret
   exact ⟨by first | rfl | (simp; done) | (simp [*]; done), by repeat (first | exact Drawn0.refl _ | apply Drawn0.step)⟩

end Go.Proofs.YtodcckiphdnjeabDoor.QFnFills
