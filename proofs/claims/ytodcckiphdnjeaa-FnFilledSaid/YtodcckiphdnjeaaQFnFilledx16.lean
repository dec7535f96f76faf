-- Written by a changed copy of the kit's printer (wip/mp.py of this repo), for this claim; Lean checks it.
import Derived.Test.YtodcckiphdnjeaaQFnFilledx0
import Derived.Test.YtodcckiphdnjeaaQFnFilledx8
import Derived.Test.YtodcckiphdnjeaaQFnFilledx10
import Derived.Test.YtodcckiphdnjeaaQFnFilledx11
import Derived.Test.YtodcckiphdnjeaaQFnFilledx12
import Derived.Test.YtodcckiphdnjeaaQFnFilledx15
namespace Go.Proofs.Ytodcckiphdnjeaa.QFnFilled
open Go.RowKit Go.Proofs.YtodcckiphdnjeaaW.PrintWords Go.Proofs.YtodcckiphdnjeaaW.PrintLast Go.Proofs.YtodcckiphdnjeaaW.PrintMore
attribute [local go_sem] max2_int min2_int max_two min_two max_three min_three max_four min_four   -- for this text's walks alone
set_option linter.unusedVariables false
set_option linter.unusedSimpArgs false

theorem bc3_16_ {W : World} {g : Nat} {v0 v1 v2 : Value} {t : TypeId} (h : W.heap[g]? = some (.cells #[v0, v1, v2] t (0, 0))) : W.cell? ⟨g, 0, none⟩ = some v0 ∧ W.cell? ⟨g, 1, none⟩ = some v1 ∧ W.cell? ⟨g, 2, none⟩ = some v2 ∧ W.frozen? ⟨g, 0, none⟩ = false ∧ W.frozen? ⟨g, 1, none⟩ = false ∧ W.frozen? ⟨g, 2, none⟩ = false := ⟨(blk_cell h 0).trans rfl, (blk_cell h 1).trans rfl, (blk_cell h 2).trans rfl, blk_frozen h 0, blk_frozen h 1, blk_frozen h 2⟩
theorem bd16_ {p q : Prop} (h0 : q) (h : q → p := by intro h_; (with_reducible repeat (first | refine blk_drewN ?_ _ | refine blk_drew ?_ | refine blk_alloc ?_ _)); exact h_) : p := h h0
theorem kd16_ {p q : Prop} (h0 : q) (h : q → p := by intro h_; (with_reducible repeat (first | apply Kd.R_alloc | apply Kd.R_drewN | apply Kd.R_drew)); exact h_) : p := h h0
theorem z16_0 {p : Prop} (h : p := by repeat (first | (with_reducible first | exact HK.out | apply KeepBut.set_ | apply keep_drewN | apply keep_drew | apply keep_alloc | refine keep_far ?_ GW305.out _ | refine keep_far ?_ GW316.out _) | exact HK.out)) : p := h
theorem z16_1 {p : Prop} (h : p := by repeat (first | (with_reducible first | exact HI0.out | apply IsS103.alloc | apply IsS103.drewN | apply IsS103.drew | apply IsS103.set_1 | apply IsS103.set_2 | refine IsS103.far ?_ NB0_305.out _ | refine IsS103.far ?_ NB0_316.out _) | exact HI0.out)) : p := h
theorem z16_2 {p : Prop} (h : p := by repeat (first | (with_reducible first | exact HB.out | apply below_alloc | apply pw_below_drewN | apply below_drew1 | refine below_set ?_ (IsS103.ge HI0.out) | refine below_set ?_ GE305.out | refine below_set ?_ GE316.out) | exact HB.out)) : p := h
theorem z16_3 {p : Prop} (h : p := by (try simp only [List.map_toArray, List.map_cons, List.map_nil]); first | done | rfl | (simp only [List.length_drop, List.length_take]; rfl)) : p := h
theorem z16_4 {p : Prop} (h : p := by repeat (first | (with_reducible first | exact HK.out | apply KeepBut.set_ | apply keep_drewN | apply keep_drew | apply keep_alloc | refine keep_far ?_ GW305.out _) | exact HK.out)) : p := h
theorem z16_5 {p : Prop} (h : p := by repeat (first | (with_reducible first | exact HB.out | apply below_alloc | apply pw_below_drewN | apply below_drew1 | refine below_set ?_ (IsS103.ge HI349.out) | refine below_set ?_ GE345.out | refine below_set ?_ GE359.out) | exact HB.out)) : p := h
theorem z16_6 {p : Prop} (h : p := by (with_reducible repeat (first | refine blk_drewN ?_ _ | refine blk_drew ?_ | refine blk_alloc ?_ _)); refine blk_put (cs := #[.int .i64 t312, .int .i64 t313, .string (⟨#[]⟩ : ByteArray)]) ?_ 2 _ rfl; (with_reducible repeat (first | refine blk_drewN ?_ _ | refine blk_drew ?_ | refine blk_alloc ?_ _)); refine blk_put (cs := #[.int .i64 t312, .int .i64 0, .string (⟨#[]⟩ : ByteArray)]) ?_ 1 _ rfl; (with_reducible repeat (first | refine blk_drewN ?_ _ | refine blk_drew ?_ | refine blk_alloc ?_ _)); refine blk_put (cs := #[.int .i64 0, .int .i64 0, .string (⟨#[]⟩ : ByteArray)]) ?_ 0 _ rfl; (with_reducible repeat (first | refine blk_drewN ?_ _ | refine blk_drew ?_ | refine blk_alloc ?_ _)); exact BK305.out) : p := h
theorem z16_7 {p : Prop} (h : p := by repeat (first | (with_reducible first | exact HB.out | apply below_alloc | apply pw_below_drewN | apply below_drew1 | refine below_set ?_ (IsS103.ge HI349.out) | refine below_set ?_ GE345.out) | exact HB.out)) : p := h
theorem z16_8 {p : Prop} (h : p := by repeat (first | (with_reducible first | exact HK.out | apply KeepBut.set_ | apply keep_drewN | apply keep_drew | apply keep_alloc) | exact HK.out)) : p := h
theorem z16_9 {p : Prop} (h : p := by (with_reducible repeat (first | refine blk_drewN ?_ _ | refine blk_drew ?_ | refine blk_alloc ?_ _)); exact BK305.out) : p := h
theorem z16_10 {p : Prop} (h : p := by (with_reducible repeat (first | refine blk_drewN ?_ _ | refine blk_drew ?_ | refine blk_alloc ?_ _)); exact BK316.out) : p := h
theorem pt16_ : (∀ (l : List Value) (i : Nat) (x : Value), l.toArray.setIfInBounds i x = (l.set i x).toArray) ∧ (∀ (a : Value) (l : List Value) (x : Value), (a :: l).set 0 x = x :: l) ∧ (∀ (a : Value) (l : List Value) (i : Nat) (x : Value), (a :: l).set (i + 1) x = a :: l.set i x) := ⟨fun _ _ _ => List.setIfInBounds_toArray .., fun _ _ _ => rfl, fun _ _ _ _ => rfl⟩
/-! ### spec_l13Draw: function 55 -/
mutual
def spec_l13Draw.l0 : Nat → List ByteArray → ByteArray → Int → Int → List Int → Int → Int → Int → Int → ByteArray → Option (Int × Int × ByteArray × ByteArray × List ByteArray × Int × Int)
  | 0, _, _, _, _, _, _, _, _, _, _ => none
  | k + 1, x7, x8, x9, x10, x1000, x1001, x1002, x317000, x317001, x317002 => if x10 > 0 then (if x9 > 0 then (spec_l13Draw.j1 k x7 x8 x9 x10 (decide ((x7.length : Int) > 0)) x1000 x1001 x1002 x317000 x317001 x317002) else (spec_l13Draw.j1 k x7 x8 x9 x10 false x1000 x1001 x1002 x317000 x317001 x317002)) else (spec_l13Draw.j1 k x7 x8 x9 x10 false x1000 x1001 x1002 x317000 x317001 x317002)
def spec_l13Draw.j1 : Nat → List ByteArray → ByteArray → Int → Int → Bool → List Int → Int → Int → Int → Int → ByteArray → Option (Int × Int × ByteArray × ByteArray × List ByteArray × Int × Int)
  | 0, _, _, _, _, _, _, _, _, _, _, _ => none
  | k + 1, x7, x8, x9, x10, x37, x1000, x1001, x1002, x317000, x317001, x317002 => if x37 = true then ((spec_l1Below.f x1000 x1001 x1002 x9).bind fun bt329 => ((spec_l1Below.f x1000 bt329.2.1 bt329.2.2 (x7.length : Int)).bind fun bt332 => (if 0 ≤ bt332.1 then (if bt332.1 < (x7.length : Int) then ((spec_PutWord.f k x317000 x317001 x317002 x8 bt329.1 (rdOf ByteArray.empty x7 bt332.1)).bind fun bt336 => (spec_l13Draw.l0 k x7 bt336.1 x9 (wrap64 (x10 - 1)) x1000 bt332.2.1 bt332.2.2 x317000 x317001 x317002)) else (none)) else (none)))) else ((spec_l1Once.f x1000 x1001 x1002 9).bind fun bt338 => (if bt338.1 = true then (if x8.size + 1 ≤ 9223372036854775807 then (some (x317000, x317001, x317002, x8 ++ (⟨#[63]⟩ : ByteArray), x7, bt338.2.1, bt338.2.2)) else (none)) else (some (x317000, x317001, x317002, x8, x7, bt338.2.1, bt338.2.2))))
end
def spec_l13Draw.f (k : Nat) (s0_0 : List Int) (s0_1 : Int) (s0_2 : Int) : Option (Int × Int × ByteArray × ByteArray × List ByteArray × Int × Int) := (spec_l13Texts.f).bind fun t306 => ((spec_l1Str.f s0_0 s0_1 s0_2 t306).bind fun bt309 => ((spec_ParseGrid.f k bt309.1).bind fun bt312 => ((spec_l13Words.f k s0_0 bt309.2.1 bt309.2.2).bind fun bt317 => ((spec_EmptyFill.f k bt312.1 bt312.2.1 bt312.2.2.1).bind fun t322 => ((spec_SlotsOf.f k bt312.1 bt312.2.1 bt312.2.2.1).bind fun t323 => ((spec_l1Below.f s0_0 bt317.2.1 bt317.2.2 3).bind fun bt326 => (spec_l13Draw.l0 k bt317.1 t322 (t323.length : Int) bt326.1 s0_0 bt326.2.1 bt326.2.2 bt312.1 bt312.2.1 bt312.2.2.1)))))))
theorem spec_l13Draw.mono_l : ∀ k, (∀ y0 y1 y2 y3 y4 y5 y6 y7 y8 y9, LeO (spec_l13Draw.l0 k y0 y1 y2 y3 y4 y5 y6 y7 y8 y9) (spec_l13Draw.l0 (k + 1) y0 y1 y2 y3 y4 y5 y6 y7 y8 y9)) ∧ (∀ y0 y1 y2 y3 y4 y5 y6 y7 y8 y9 y10, LeO (spec_l13Draw.j1 k y0 y1 y2 y3 y4 y5 y6 y7 y8 y9 y10) (spec_l13Draw.j1 (k + 1) y0 y1 y2 y3 y4 y5 y6 y7 y8 y9 y10))
  | 0 => ⟨fun _ _ _ _ _ _ _ _ _ _ r h => by simp [spec_l13Draw.l0] at h, fun _ _ _ _ _ _ _ _ _ _ _ r h => by simp [spec_l13Draw.j1] at h⟩
  | k + 1 => by
   obtain ⟨ih0, ih1⟩ := spec_l13Draw.mono_l k; refine ⟨?_, ?_⟩
   ·intro y0 y1 y2 y3 y4 y5 y6 y7 y8 y9
    unfold spec_l13Draw.l0
    with_reducible repeat' first
    | exact ih0 _ _ _ _ _ _ _ _ _ _
    | exact ih1 _ _ _ _ _ _ _ _ _ _ _
    | exact spec_EmptyFill.mono _ _ _ _
    | exact spec_ParseGrid.mono _ _
    | exact spec_PutWord.mono _ _ _ _ _ _ _
    | exact spec_SlotsOf.mono _ _ _ _
    | exact spec_l13Words.mono _ _ _ _
    | exact LeO.refl _
    | exact LeO.none _
    | refine LeO.ite ?_ ?_
    | refine LeO.bind ?_ (fun _ => ?_)
   ·intro y0 y1 y2 y3 y4 y5 y6 y7 y8 y9 y10
    unfold spec_l13Draw.j1
    with_reducible repeat' first
    | exact ih0 _ _ _ _ _ _ _ _ _ _
    | exact ih1 _ _ _ _ _ _ _ _ _ _ _
    | exact spec_EmptyFill.mono _ _ _ _
    | exact spec_ParseGrid.mono _ _
    | exact spec_PutWord.mono _ _ _ _ _ _ _
    | exact spec_SlotsOf.mono _ _ _ _
    | exact spec_l13Words.mono _ _ _ _
    | exact LeO.refl _
    | exact LeO.none _
    | refine LeO.ite ?_ ?_
    | refine LeO.bind ?_ (fun _ => ?_)
theorem spec_l13Draw.mono : ∀ a0 a1 a2 k, LeO (spec_l13Draw.f k a0 a1 a2) (spec_l13Draw.f (k + 1) a0 a1 a2) := by
  intro a0 a1 a2 k
  obtain ⟨ih0, ih1⟩ := spec_l13Draw.mono_l k; unfold spec_l13Draw.f
  with_reducible repeat' first
  | exact ih0 _ _ _ _ _ _ _ _ _ _
  | exact ih1 _ _ _ _ _ _ _ _ _ _ _
  | exact spec_EmptyFill.mono _ _ _ _
  | exact spec_ParseGrid.mono _ _
  | exact spec_PutWord.mono _ _ _ _ _ _ _
  | exact spec_SlotsOf.mono _ _ _ _
  | exact spec_l13Words.mono _ _ _ _
  | exact LeO.refl _
  | exact LeO.none _
  | refine LeO.ite ?_ ?_
  | refine LeO.bind ?_ (fun _ => ?_)
def spec_l13Draw.T8 : Bool × List (List Nat × List Nat) := (true, [([], []), ([], []), ([], []), ([], []), ([2, 3], [2, 3]), ([], []), ([], []), ([], []), ([7], [7]), ([6, 8, 4], [6, 8]), ([5, 9], [5, 9]), ([10], [10]), ([0, 1, 4, 11, 9], [0, 1, 4, 11]), ([12], [12]), ([13], [13]), ([13], [13]), ([14, 12, 0, 1, 2, 3, 4, 5, 6, 7, 8, 9, 10, 11, 12, 13, 14], [1, 14])])
def spec_l13Draw.B8 : List Nat := [0, 0, 0, 0, 12, 0, 0, 0, 128, 476, 1020, 2044, 4095, 8191, 16383, 16383, 32767]
theorem spec_l13Draw.tab8 : rtab .any (opsOf Try.f55 8) = spec_l13Draw.T8 := by kernel_rfl
theorem spec_l13Draw.bits8 : waitsOk spec_l13Draw.T8.2 spec_l13Draw.B8 = true := by kernel_rfl
set_option maxHeartbeats 8000000 in
set_option maxRecDepth 100000 in
theorem spec_l13Draw.calls (k : Nat) (g : Nat) (s0_0 : List Int) (s0_1 : Int) (s0_2 : Int) (r1 : Int) (r2 : Int) (r3 : ByteArray) (r4 : ByteArray) (r5 : List ByteArray) (r6 : Int) (r7 : Int) (w0 w : World) (hI : IsS103 w0 w g s0_0 s0_1 s0_2) (hB : Below w0.heap.size w0 w) (h : spec_l13Draw.f k s0_0 s0_1 s0_2 = some (r1, r2, r3, r4, r5, r6, r7)) :
   Calls Try.prog 55 #[.pointer (some ⟨g, 0, none⟩)] w fun e w' => ∃ v4_ : Value, e = .returned (.tuple #[.agg #[.int .i64 r1, .int .i64 r2, .string r3], .string r4, v4_]) ∧ Kd.R Kd.string 9 w' w.heap.size (fun _ => True) v4_ r5 ∧ IsS103 w0 w' g s0_0 r6 r7 ∧ Below w0.heap.size w0 w' ∧ KeepBut w w' g none := by
  have hu28 := Try.underlying28; have HI0 := Aside0.mk hI; have HK := Aside0.mk (KeepBut.refl w g none); have HL := Aside0.mk hB.size; clear hI; have HW0 := Aside0.mk hB.size; have HB := Aside0.mk hB; clear hB; have H : ((spec_l13Texts.f).bind fun t306 => ((spec_l1Str.f s0_0 s0_1 s0_2 t306).bind fun bt309 => ((spec_ParseGrid.f k bt309.1).bind fun bt312 => ((spec_l13Words.f k s0_0 bt309.2.1 bt309.2.2).bind fun bt317 => ((spec_EmptyFill.f k bt312.1 bt312.2.1 bt312.2.2.1).bind fun t322 => ((spec_SlotsOf.f k bt312.1 bt312.2.1 bt312.2.2.1).bind fun t323 => ((spec_l1Below.f s0_0 bt317.2.1 bt317.2.2 3).bind fun bt326 => (spec_l13Draw.l0 k bt317.1 t322 (t323.length : Int) bt326.1 s0_0 bt326.2.1 bt326.2.2 bt312.1 bt312.2.1 bt312.2.2.1)))))))) = some (r1, r2, r3, r4, r5, r6, r7) := h; clear h; replace H := Option.bind_eq_some_iff.mp H; obtain ⟨t306, A20, H⟩ := H; try dsimp only at H
  have A2 := Aside0.mk A20; clear A20; replace H := Option.bind_eq_some_iff.mp H; obtain ⟨⟨t309, t310, t311⟩, A30, H⟩ := H; try dsimp only at H
  have A3 := Aside0.mk A30; clear A30; replace H := Option.bind_eq_some_iff.mp H; obtain ⟨⟨t312, t313, t314, t315⟩, A40, H⟩ := H; try dsimp only at H
  have A4 := Aside0.mk A40; clear A40; replace H := Option.bind_eq_some_iff.mp H; obtain ⟨⟨t317, t320, t321⟩, A50, H⟩ := H; try dsimp only at H
  have A5 := Aside0.mk A50; clear A50; replace H := Option.bind_eq_some_iff.mp H; obtain ⟨t322, A60, H⟩ := H; try dsimp only at H
  have A6 := Aside0.mk A60; clear A60; replace H := Option.bind_eq_some_iff.mp H; obtain ⟨t323, A70, H⟩ := H; try dsimp only at H
  have A7 := Aside0.mk A70; clear A70; replace H := Option.bind_eq_some_iff.mp H; obtain ⟨⟨t326, t327, t328⟩, A80, H⟩ := H; try dsimp only at H
  have A8 := Aside0.mk A80; clear A80; have H' := Aside0.mk H
  clear H; go_enter Try.func55, Try.ntmps55
  go_wp2_with (first | ((with_reducible refine gate_dst (N := 2) rfl ?_); (try (refine gate_guard (by rfl) ?_; dsimp only)); refine box_event ?hg (N := 2) ?hd (cs := #[.int .i64 0, .int .i64 0, .string (⟨#[]⟩ : ByteArray)]) (t := 28) ?hr ?_; (case hd => rfl); (case hg => rfl); (case hr => first | (go_simp; done) | (go_simp; rfl)); intro gb305 hg w9 hbox hb; replace HB := Aside0.mk (below_step (by repeat (first | (with_reducible first | exact HB.out | apply below_alloc | apply pw_below_drewN | apply below_drew1 | refine below_set ?_ (IsS103.ge HI0.out)) | exact HB.out)) hb); have BK305 := Aside0.mk (hbox); have GW305 := Aside0.mk ((by rw [hg]; exact (keep_size (w := w) (g := g) (row := none) z16_8) : w.heap.size ≤ gb305)); have GE305 := Aside0.mk ((Nat.le_trans HW0.out (by rw [hg]; exact (keep_size (w := w) (g := g) (row := none) z16_8) : w.heap.size ≤ gb305) : w0.heap.size ≤ gb305)); replace HK := Aside0.mk (KeepBut.trans z16_8 (KeepBut.of_below hb g none) (.inl rfl)); have NB0_305 := Aside0.mk ((by rw [hg]; exact Nat.ne_of_lt (IsS103.lt (show IsS103 w0 _ g s0_0 s0_1 s0_2 from by repeat (first | (with_reducible first | exact HI0.out | apply IsS103.alloc | apply IsS103.drewN | apply IsS103.drew | apply IsS103.set_1 | apply IsS103.set_2) | exact HI0.out))) : g ≠ gb305)); have NB305_0 := Aside0.mk ((by rw [hg]; exact Nat.ne_of_gt (IsS103.lt (show IsS103 w0 _ g s0_0 s0_1 s0_2 from by repeat (first | (with_reducible first | exact HI0.out | apply IsS103.alloc | apply IsS103.drewN | apply IsS103.drew | apply IsS103.set_1 | apply IsS103.set_2) | exact HI0.out))) : gb305 ≠ g)); replace HI0 := Aside0.mk (IsS103.below (by repeat (first | (with_reducible first | exact HI0.out | apply IsS103.alloc | apply IsS103.drewN | apply IsS103.drew | apply IsS103.set_1 | apply IsS103.set_2) | exact HI0.out)) hb); clear hb hbox hg) | ((with_reducible refine gate_callee (f := 94) rfl ?_); refine goesL_ (some 13) rfl rfl Try.func94 (by kernel_rfl) rfl #[] rfl z16_3 ?_; (with_reducible refine (spec_l13Texts.calls  t306 _ A2.out).mono ?_); rintro e w10 ⟨v307, rfl, ho0, hb⟩; refine ⟨_, rfl, ?_⟩; have HO308 := Aside0.mk (Kd.R_lower ho0 (keep_size (w := w) (g := g) (row := none) z16_4)); replace BK305 := Aside0.mk (blk_below (g := gb305) (o := .cells #[.int .i64 0, .int .i64 0, .string (⟨#[]⟩ : ByteArray)] 28 (0, 0)) (bd16_ BK305.out) hb); replace HK := Aside0.mk (KeepBut.trans z16_4 (KeepBut.of_below hb g none) (.inl rfl)); replace HB := Aside0.mk (below_step (by repeat (first | (with_reducible first | exact HB.out | apply below_alloc | apply pw_below_drewN | apply below_drew1 | refine below_set ?_ (IsS103.ge HI0.out) | refine below_set ?_ GE305.out) | exact HB.out)) hb); replace HI0 := Aside0.mk (IsS103.below (by repeat (first | (with_reducible first | exact HI0.out | apply IsS103.alloc | apply IsS103.drewN | apply IsS103.drew | apply IsS103.set_1 | apply IsS103.set_2 | refine IsS103.far ?_ NB0_305.out _) | exact HI0.out)) hb); (try clear hb); (try clear ho0); obtain ⟨Ao11, co11, eo11⟩ := Kd.R_slice HO308.out; subst eo11) | ((with_reducible refine gate_callee (f := 93) rfl ?_); refine goesL_ (some 14) rfl rfl Try.func93 (by kernel_rfl) rfl #[.pointer (some ⟨g, 0, none⟩), .slice Ao11 t306.length co11] rfl z16_3 ?_; (with_reducible refine (spec_l1Str.calls g s0_0 s0_1 s0_2 _ _ t306 t309 t310 t311 w0 _ ?side1 ?side2 ?side3 ?side4 ?side5 A3.out).mono ?_); (case side1 => repeat (first | (with_reducible first | exact HI0.out | apply IsS103.alloc | apply IsS103.drewN | apply IsS103.drew | apply IsS103.set_1 | apply IsS103.set_2 | refine IsS103.far ?_ NB0_305.out _) | exact HI0.out)); (case side2 => repeat (first | (with_reducible first | exact HB.out | apply below_alloc | apply pw_below_drewN | apply below_drew1 | refine below_set ?_ (IsS103.ge HI0.out) | refine below_set ?_ GE305.out) | exact HB.out)); (case side3 => repeat (first | exact (Kd.R_reads' HO308.out).2.2 | (with_reducible refine Kd.C_alloc ?_ _) | (with_reducible refine Kd.C_drewN ?_ _) | (with_reducible refine Kd.C_drew ?_))); (case side4 => exact (Kd.R_reads' HO308.out).2.1); (case side5 => exact far_slice (IsS103.own_ne HI0.out HO308.out (by decide))); rintro e w12 ⟨rfl, hi, hb, hk⟩; refine ⟨_, rfl, ?_⟩; replace BK305 := Aside0.mk (KeepBut.blk hk (g' := gb305) (o := .cells #[.int .i64 0, .int .i64 0, .string (⟨#[]⟩ : ByteArray)] 28 (0, 0)) (bd16_ BK305.out) NB305_0.out (by simp)); replace HO308 := Aside0.mk (Kd.R_mono (Kd.R_keep (IsS103.apart (show IsS103 w0 _ g s0_0 s0_1 s0_2 from by repeat (first | (with_reducible first | exact HI0.out | apply IsS103.alloc | apply IsS103.drewN | apply IsS103.drew | apply IsS103.set_1 | apply IsS103.set_2 | refine IsS103.far ?_ NB0_305.out _) | exact HI0.out)) (kd16_ HO308.out) (by decide)) hk (fun _ h => h.2)) (fun _ h => h.1)); replace HK := Aside0.mk (KeepBut.trans z16_4 hk (.inl rfl)); replace HB := Aside0.mk (hb); replace HI0 := Aside0.mk (hi); (try clear hb)) | ((with_reducible refine gate_callee (f := 92) rfl ?_); refine goesL_ (some 15) rfl rfl Try.func92 (by kernel_rfl) rfl #[.string t309] rfl z16_3 ?_; (with_reducible refine (spec_ParseGrid.calls k t309 t312 t313 t314 t315 _ A4.out).mono ?_); rintro e w13 ⟨rfl, hb⟩; refine ⟨_, rfl, ?_⟩; replace HO308 := Aside0.mk (Kd.R_below (kd16_ HO308.out) hb); replace BK305 := Aside0.mk (blk_below (g := gb305) (o := .cells #[.int .i64 0, .int .i64 0, .string (⟨#[]⟩ : ByteArray)] 28 (0, 0)) (bd16_ BK305.out) hb); replace HK := Aside0.mk (KeepBut.trans z16_4 (KeepBut.of_below hb g none) (.inl rfl)); replace HB := Aside0.mk (below_step (by repeat (first | (with_reducible first | exact HB.out | apply below_alloc | apply pw_below_drewN | apply below_drew1 | refine below_set ?_ (IsS103.ge HI0.out) | refine below_set ?_ GE305.out) | exact HB.out)) hb); replace HI0 := Aside0.mk (IsS103.below (by repeat (first | (with_reducible first | exact HI0.out | apply IsS103.alloc | apply IsS103.drewN | apply IsS103.drew | apply IsS103.set_1 | apply IsS103.set_2 | refine IsS103.far ?_ NB0_305.out _) | exact HI0.out)) hb); (try clear hb)) | ((with_reducible refine gate_dst (N := 5) rfl ?_); (try (refine gate_guard (by rfl) ?_; dsimp only)); refine box_event ?hg (N := 5) ?hd (cs := #[.int .i64 0, .int .i64 0, .string (⟨#[]⟩ : ByteArray)]) (t := 28) ?hr ?_; (case hd => rfl); (case hg => rfl); (case hr => first | (go_simp; done) | (go_simp; rfl)); intro gb316 hg w14 hbox hb; replace HO308 := Aside0.mk (Kd.R_below (kd16_ HO308.out) hb); replace HB := Aside0.mk (below_step (by repeat (first | (with_reducible first | exact HB.out | apply below_alloc | apply pw_below_drewN | apply below_drew1 | refine below_set ?_ (IsS103.ge HI0.out) | refine below_set ?_ GE305.out) | exact HB.out)) hb); have BK316 := Aside0.mk (hbox); have GW316 := Aside0.mk ((by rw [hg]; exact (keep_size (w := w) (g := g) (row := none) z16_4) : w.heap.size ≤ gb316)); have GE316 := Aside0.mk ((Nat.le_trans HW0.out (by rw [hg]; exact (keep_size (w := w) (g := g) (row := none) z16_4) : w.heap.size ≤ gb316) : w0.heap.size ≤ gb316)); replace HK := Aside0.mk (KeepBut.trans z16_4 (KeepBut.of_below hb g none) (.inl rfl)); have NB305_316 := Aside0.mk ((by rw [hg]; exact Nat.ne_of_lt (blk_lt (g := gb305) (o := .cells #[.int .i64 0, .int .i64 0, .string (⟨#[]⟩ : ByteArray)] 28 (0, 0)) (bd16_ BK305.out)) : gb305 ≠ gb316)); have NB316_305 := Aside0.mk ((by rw [hg]; exact Nat.ne_of_gt (blk_lt (g := gb305) (o := .cells #[.int .i64 0, .int .i64 0, .string (⟨#[]⟩ : ByteArray)] 28 (0, 0)) (bd16_ BK305.out)) : gb316 ≠ gb305)); replace BK305 := Aside0.mk (blk_below (g := gb305) (o := .cells #[.int .i64 0, .int .i64 0, .string (⟨#[]⟩ : ByteArray)] 28 (0, 0)) (bd16_ BK305.out) hb); have NB0_316 := Aside0.mk ((by rw [hg]; exact Nat.ne_of_lt (IsS103.lt (show IsS103 w0 _ g s0_0 t310 t311 from by repeat (first | (with_reducible first | exact HI0.out | apply IsS103.alloc | apply IsS103.drewN | apply IsS103.drew | apply IsS103.set_1 | apply IsS103.set_2 | refine IsS103.far ?_ NB0_305.out _) | exact HI0.out))) : g ≠ gb316)); have NB316_0 := Aside0.mk ((by rw [hg]; exact Nat.ne_of_gt (IsS103.lt (show IsS103 w0 _ g s0_0 t310 t311 from by repeat (first | (with_reducible first | exact HI0.out | apply IsS103.alloc | apply IsS103.drewN | apply IsS103.drew | apply IsS103.set_1 | apply IsS103.set_2 | refine IsS103.far ?_ NB0_305.out _) | exact HI0.out))) : gb316 ≠ g)); replace HI0 := Aside0.mk (IsS103.below (by repeat (first | (with_reducible first | exact HI0.out | apply IsS103.alloc | apply IsS103.drewN | apply IsS103.drew | apply IsS103.set_1 | apply IsS103.set_2 | refine IsS103.far ?_ NB0_305.out _) | exact HI0.out)) hb); clear hb hbox hg; have hnb15 := NB316_305.out; have hnc15 := NB305_316.out; have hnb16 := NB316_0.out; have hnc16 := NB0_316.out; obtain ⟨hcz17_0, hcz17_1, hcz17_2, hfz17_0, hfz17_1, hfz17_2⟩ := bc3_16_ BK316.out) | ((with_reducible refine gate_callee (f := 95) rfl ?_); refine goesL_ (some 19) rfl rfl Try.func95 (by kernel_rfl) rfl #[.pointer (some ⟨g, 0, none⟩)] rfl z16_3 ?_; (with_reducible refine (spec_l13Words.calls k g s0_0 t310 t311 t317 t320 t321 w0 _ ?side1 ?side2 A5.out).mono ?_); (case side1 => exact z16_1); (case side2 => exact z16_2); rintro e w18 ⟨v318, rfl, ho0, hi, hb, hk⟩; refine ⟨_, rfl, ?_⟩; replace BK305 := Aside0.mk (KeepBut.blk hk (g' := gb305) (o := .cells #[.int .i64 0, .int .i64 0, .string (⟨#[]⟩ : ByteArray)] 28 (0, 0)) (by (with_reducible repeat (first | refine blk_drewN ?_ _ | refine blk_drew ?_ | refine blk_alloc ?_ _)); refine blk_far ?_ NB305_316.out _; (with_reducible repeat (first | refine blk_drewN ?_ _ | refine blk_drew ?_ | refine blk_alloc ?_ _)); refine blk_far ?_ NB305_316.out _; (with_reducible repeat (first | refine blk_drewN ?_ _ | refine blk_drew ?_ | refine blk_alloc ?_ _)); refine blk_far ?_ NB305_316.out _; (with_reducible repeat (first | refine blk_drewN ?_ _ | refine blk_drew ?_ | refine blk_alloc ?_ _)); exact BK305.out) NB305_0.out (by simp)); have HO319 := Aside0.mk (Kd.R_lower (Kd.R_new' ho0 (Kd.R_lt (by (with_reducible repeat (first | apply Kd.R_alloc | apply Kd.R_drewN | apply Kd.R_drew)); exact (Kd.R_mono (Kd.R_far (p := ⟨gb316, 2, none⟩) (Kd.R_far (p := ⟨gb316, 1, none⟩) (Kd.R_far (p := ⟨gb316, 0, none⟩) (Kd.R_types HO308.out BK316.out (by decide)) (fun _ hk => hk.2) (.int .i64 t312)) (fun _ hk => hk.2) (.int .i64 t313)) (fun _ hk => hk.2) (.string t314)) (fun _ h_ => h_.1))))) (keep_size (w := w) (g := g) (row := none) z16_0)); replace HO308 := Aside0.mk (Kd.R_mono (Kd.R_told (Kd.R_oldK (IsS103.apart (show IsS103 w0 _ g s0_0 t310 t311 from by repeat (first | (with_reducible first | exact HI0.out | apply IsS103.alloc | apply IsS103.drewN | apply IsS103.drew | apply IsS103.set_1 | apply IsS103.set_2 | refine IsS103.far ?_ NB0_305.out _ | refine IsS103.far ?_ NB0_316.out _) | exact HI0.out)) (by (with_reducible repeat (first | apply Kd.R_alloc | apply Kd.R_drewN | apply Kd.R_drew)); exact (Kd.R_mono (Kd.R_far (p := ⟨gb316, 2, none⟩) (Kd.R_far (p := ⟨gb316, 1, none⟩) (Kd.R_far (p := ⟨gb316, 0, none⟩) (Kd.R_types HO308.out BK316.out (by decide)) (fun _ hk => hk.2) (.int .i64 t312)) (fun _ hk => hk.2) (.int .i64 t313)) (fun _ hk => hk.2) (.string t314)) (fun _ h_ => h_.1))) (by decide)) hk) (Kd.R_base ho0)) (fun _ h_ => h_.1)); replace BK316 := Aside0.mk (KeepBut.blk hk (g' := gb316) (o := .cells #[.int .i64 t312, .int .i64 t313, .string t314] 28 (0, 0)) (by (with_reducible repeat (first | refine blk_drewN ?_ _ | refine blk_drew ?_ | refine blk_alloc ?_ _)); refine blk_put (cs := #[.int .i64 t312, .int .i64 t313, .string (⟨#[]⟩ : ByteArray)]) ?_ 2 _ rfl; (with_reducible repeat (first | refine blk_drewN ?_ _ | refine blk_drew ?_ | refine blk_alloc ?_ _)); refine blk_put (cs := #[.int .i64 t312, .int .i64 0, .string (⟨#[]⟩ : ByteArray)]) ?_ 1 _ rfl; (with_reducible repeat (first | refine blk_drewN ?_ _ | refine blk_drew ?_ | refine blk_alloc ?_ _)); refine blk_put (cs := #[.int .i64 0, .int .i64 0, .string (⟨#[]⟩ : ByteArray)]) ?_ 0 _ rfl; (with_reducible repeat (first | refine blk_drewN ?_ _ | refine blk_drew ?_ | refine blk_alloc ?_ _)); exact BK316.out) NB316_0.out (by simp)); replace HK := Aside0.mk (KeepBut.trans z16_0 hk (.inl rfl)); replace HB := Aside0.mk (hb); replace HI0 := Aside0.mk (hi); (try clear hb); (try clear ho0); obtain ⟨hcz19_0, hcz19_1, hcz19_2, hfz19_0, hfz19_1, hfz19_2⟩ := bc3_16_ BK316.out) | ((with_reducible refine gate_callee (f := 96) rfl ?_); refine goesL_ (some 21) rfl rfl Try.func96 (by kernel_rfl) rfl #[.agg #[.int .i64 t312, .int .i64 t313, .string t314]] rfl z16_3 ?_; (with_reducible refine (spec_EmptyFill.calls k t312 t313 t314 t322 _ A6.out).mono ?_); rintro e w20 ⟨rfl, hb⟩; refine ⟨_, rfl, ?_⟩; replace HO308 := Aside0.mk (Kd.R_below (kd16_ HO308.out) hb); replace HO319 := Aside0.mk (Kd.R_below (kd16_ HO319.out) hb); replace BK305 := Aside0.mk (blk_below (g := gb305) (o := .cells #[.int .i64 0, .int .i64 0, .string (⟨#[]⟩ : ByteArray)] 28 (0, 0)) (bd16_ BK305.out) hb); replace BK316 := Aside0.mk (blk_below (g := gb316) (o := .cells #[.int .i64 t312, .int .i64 t313, .string t314] 28 (0, 0)) (bd16_ BK316.out) hb); replace HK := Aside0.mk (KeepBut.trans z16_0 (KeepBut.of_below hb g none) (.inl rfl)); replace HB := Aside0.mk (below_step z16_2 hb); replace HI0 := Aside0.mk (IsS103.below z16_1 hb); (try clear hb); obtain ⟨hcz21_0, hcz21_1, hcz21_2, hfz21_0, hfz21_1, hfz21_2⟩ := bc3_16_ BK316.out) | ((with_reducible refine gate_callee (f := 45) rfl ?_); refine goesL_ (some 23) rfl rfl Try.func45 (by kernel_rfl) rfl #[.agg #[.int .i64 t312, .int .i64 t313, .string t314]] rfl z16_3 ?_; (with_reducible refine (spec_SlotsOf.calls k t312 t313 t314 t323 _ A7.out).mono ?_); rintro e w22 ⟨v324, rfl, ho0, hb⟩; refine ⟨_, rfl, ?_⟩; replace HO308 := Aside0.mk (Kd.R_below (kd16_ HO308.out) hb); replace HO319 := Aside0.mk (Kd.R_below (kd16_ HO319.out) hb); have HO325 := Aside0.mk (Kd.R_lower ho0 (keep_size (w := w) (g := g) (row := none) z16_0)); replace BK305 := Aside0.mk (blk_below (g := gb305) (o := .cells #[.int .i64 0, .int .i64 0, .string (⟨#[]⟩ : ByteArray)] 28 (0, 0)) (bd16_ BK305.out) hb); replace BK316 := Aside0.mk (blk_below (g := gb316) (o := .cells #[.int .i64 t312, .int .i64 t313, .string t314] 28 (0, 0)) (bd16_ BK316.out) hb); replace HK := Aside0.mk (KeepBut.trans z16_0 (KeepBut.of_below hb g none) (.inl rfl)); replace HB := Aside0.mk (below_step z16_2 hb); replace HI0 := Aside0.mk (IsS103.below z16_1 hb); (try clear hb); (try clear ho0); obtain ⟨Ao23, co23, eo23⟩ := Kd.R_slice HO325.out; subst eo23) | ((with_reducible refine gate_callee (f := 97) rfl ?_); refine goesL_ (some 26) rfl rfl Try.func97 (by kernel_rfl) rfl #[.pointer (some ⟨g, 0, none⟩), .int .i64 3] rfl z16_3 ?_; (with_reducible refine (spec_l1Below.calls g s0_0 t320 t321 3 t326 t327 t328 w0 _ ?side1 ?side2 A8.out).mono ?_); (case side1 => exact z16_1); (case side2 => exact z16_2); rintro e w24 ⟨rfl, hi, hb, hk⟩; refine ⟨_, rfl, ?_⟩; replace BK305 := Aside0.mk (KeepBut.blk hk (g' := gb305) (o := .cells #[.int .i64 0, .int .i64 0, .string (⟨#[]⟩ : ByteArray)] 28 (0, 0)) (bd16_ BK305.out) NB305_0.out (by simp)); replace HO308 := Aside0.mk (Kd.R_mono (Kd.R_keep (IsS103.apart (show IsS103 w0 _ g s0_0 t320 t321 from by repeat (first | (with_reducible first | exact HI0.out | apply IsS103.alloc | apply IsS103.drewN | apply IsS103.drew | apply IsS103.set_1 | apply IsS103.set_2 | refine IsS103.far ?_ NB0_305.out _ | refine IsS103.far ?_ NB0_316.out _) | exact HI0.out)) (kd16_ HO308.out) (by decide)) hk (fun _ h => h.2)) (fun _ h => h.1)); replace BK316 := Aside0.mk (KeepBut.blk hk (g' := gb316) (o := .cells #[.int .i64 t312, .int .i64 t313, .string t314] 28 (0, 0)) (bd16_ BK316.out) NB316_0.out (by simp)); replace HO319 := Aside0.mk (Kd.R_mono (Kd.R_keep (IsS103.apart (show IsS103 w0 _ g s0_0 t320 t321 from by repeat (first | (with_reducible first | exact HI0.out | apply IsS103.alloc | apply IsS103.drewN | apply IsS103.drew | apply IsS103.set_1 | apply IsS103.set_2 | refine IsS103.far ?_ NB0_305.out _ | refine IsS103.far ?_ NB0_316.out _) | exact HI0.out)) (kd16_ HO319.out) (by decide)) hk (fun _ h => h.2)) (fun _ h => h.1)); replace HO325 := Aside0.mk (Kd.R_mono (Kd.R_keep (IsS103.apart (show IsS103 w0 _ g s0_0 t320 t321 from by repeat (first | (with_reducible first | exact HI0.out | apply IsS103.alloc | apply IsS103.drewN | apply IsS103.drew | apply IsS103.set_1 | apply IsS103.set_2 | refine IsS103.far ?_ NB0_305.out _ | refine IsS103.far ?_ NB0_316.out _) | exact HI0.out)) (kd16_ HO325.out) (by decide)) hk (fun _ h => h.2)) (fun _ h => h.1)); replace HK := Aside0.mk (KeepBut.trans z16_0 hk (.inl rfl)); replace HB := Aside0.mk (hb); replace HI0 := Aside0.mk (hi); (try clear hb)))
  go_loopg [8, 10] k (fun kq v8 v10 w' => ∃ (x8_1 : ByteArray) (x10_1 : Int) (x1001_1 : Int) (x1002_1 : Int), v8 = .string x8_1 ∧ v10 = .int .i64 x10_1 ∧ Aside0 (spec_l13Draw.l0 kq t317 x8_1 (t323.length : Int) x10_1 s0_0 x1001_1 x1002_1 t312 t313 t314 = some (r1, r2, r3, r4, r5, r6, r7)) ∧ Aside0 (kq ≤ k) ∧ Aside0 (Kd.R Kd.string 9 w' w.heap.size (fun _ => True) v318 t317) ∧ Aside0 (w'.heap[gb305]? = some (.cells #[.int .i64 0, .int .i64 0, .string (⟨#[]⟩ : ByteArray)] 28 (0, 0))) ∧ Aside0 (w'.heap[gb316]? = some (.cells #[.int .i64 t312, .int .i64 t313, .string t314] 28 (0, 0))) ∧ Aside0 (IsS103 w0 w' g s0_0 x1001_1 x1002_1) ∧ Aside0 (KeepBut w w' g none) ∧ Aside0 (Below w0.heap.size w0 w'))
  case atStart => exact ⟨(t322), (t326), (t327), (t328), (by first | rfl | (simp; done) | (simp [*]; done)), (by first | rfl | (simp; done) | (simp [*]; done)), H', ⟨Nat.le_refl _⟩, ⟨by (with_reducible repeat (first | apply Kd.R_alloc | apply Kd.R_drewN | apply Kd.R_drew)); exact Kd.R_mono HO319.out (fun _ hk => trivial)⟩, ⟨z16_9⟩, ⟨z16_10⟩, ⟨z16_1⟩, ⟨z16_0⟩, ⟨z16_2⟩⟩
  case round =>
   clear H'; try clear c1
   try clear p2
   try clear c4
   try clear c5
   try clear c9
   try clear c15
   try clear c16
   try clear hcz17_0
   try clear hcz17_1
   try clear hcz17_2
   try clear hcz19_0
   try clear hcz19_1
   try clear hcz19_2
   try clear hcz21_0
   try clear hcz21_1
   try clear hcz21_2
   try clear hfz17_0
   try clear hfz17_1
   try clear hfz17_2
   try clear hfz19_0
   try clear hfz19_1
   try clear hfz19_2
   try clear hfz21_0
   try clear hfz21_1
   try clear hfz21_2
   obtain ⟨x8_1, x10_1, x1001_1, x1002_1, rfl, rfl, HA, HK1, HO_7, BK305, BK316, HI0, HK, HB⟩ := hrel
   cases gk with
   | zero => exact absurd HA.out (by simp [spec_l13Draw.l0])
   | succ k1 =>
    have H := HA.out; clear HA; simp only [spec_l13Draw.l0] at H; have HC25 := Aside0.mk H; clear H; go_upto_region 6 with (fail)
    go_cut [37] (fun v37 wc => ∃ (kq : Nat) (x37_24 : Bool), v37 = .bool x37_24 ∧ Aside0 (spec_l13Draw.j1 kq t317 x8_1 (t323.length : Int) x10_1 x37_24 s0_0 x1001_1 x1002_1 t312 t313 t314 = some (r1, r2, r3, r4, r5, r6, r7)) ∧ Aside0 (kq ≤ k1) ∧ Aside0 (Kd.R Kd.string 9 wc w.heap.size (fun _ => True) v318 t317) ∧ Aside0 (wc.heap[gb305]? = some (.cells #[.int .i64 0, .int .i64 0, .string (⟨#[]⟩ : ByteArray)] 28 (0, 0))) ∧ Aside0 (wc.heap[gb316]? = some (.cells #[.int .i64 t312, .int .i64 t313, .string t314] 28 (0, 0))) ∧ Aside0 (IsS103 w0 wc g s0_0 x1001_1 x1002_1) ∧ Aside0 (KeepBut w wc g none) ∧ Aside0 (Below w0.heap.size w0 wc))
    case first =>
     have H := HC25.out; clear HC25; by_cases c26 : x10_1 > 0
     ·rw [if_pos c26] at H
      have c26b0 : decide (0 < x10_1) = true := decide_eq_true c26; clear c26; (first | rw [c26b0] | (simp only [i64_w, i32_w]; rw [c26b0]) | skip)
      by_cases c27 : (t323.length : Int) > 0
      ·rw [if_pos c27] at H
       have c27b0 : decide (0 < (t323.length : Int)) = true := decide_eq_true c27; have c27b1 : decide (0 < t323.length) = true := decide_eq_true (by omega); clear c27; have H' := Aside0.mk H
       clear H; obtain ⟨Ao28, co28, eo28⟩ := Kd.R_slice HO_7.out; subst eo28; go_wp2
       go_meet
       case rel => exact ⟨_, (decide ((t317.length : Int) > 0)), (by first | rfl | (simp; done) | (simp [*]; done)), H', ⟨by have := HK1.out; first | omega | exact Nat.le_refl _⟩, ⟨by (with_reducible repeat (first | apply Kd.R_alloc | apply Kd.R_drewN | apply Kd.R_drew)); exact HO_7.out⟩, ⟨z16_9⟩, ⟨z16_10⟩, ⟨z16_1⟩, ⟨z16_0⟩, ⟨z16_2⟩⟩
      ·rw [if_neg c27] at H
       have c27b0 : decide (0 < (t323.length : Int)) = false := decide_eq_false c27; have c27b1 : decide (0 < t323.length) = false := decide_eq_false (by omega); clear c27; have H' := Aside0.mk H
       clear H; go_wp2
       go_meet
       case rel => exact ⟨_, (false), (by first | rfl | (simp; done) | (simp [*]; done)), H', ⟨by have := HK1.out; first | omega | exact Nat.le_refl _⟩, ⟨by (with_reducible repeat (first | apply Kd.R_alloc | apply Kd.R_drewN | apply Kd.R_drew)); exact HO_7.out⟩, ⟨z16_9⟩, ⟨z16_10⟩, ⟨z16_1⟩, ⟨z16_0⟩, ⟨z16_2⟩⟩
     ·rw [if_neg c26] at H
      have c26b0 : decide (0 < x10_1) = false := decide_eq_false c26; clear c26; (first | rw [c26b0] | (simp only [i64_w, i32_w]; rw [c26b0]) | skip)
      have H' := Aside0.mk H
      clear H; go_wp2
      go_meet
      case rel => exact ⟨_, (false), (by first | rfl | (simp; done) | (simp [*]; done)), H', ⟨by have := HK1.out; first | omega | exact Nat.le_refl _⟩, ⟨by (with_reducible repeat (first | apply Kd.R_alloc | apply Kd.R_drewN | apply Kd.R_drew)); exact HO_7.out⟩, ⟨z16_9⟩, ⟨z16_10⟩, ⟨z16_1⟩, ⟨z16_0⟩, ⟨z16_2⟩⟩
    case rest =>
     clear HC25; try clear c1
     try clear c2
     try clear p2
     try clear c4
     try clear c5
     try clear c9
     try clear c15
     try clear c16
     try clear c26
     try clear c26b0
     try clear c27
     try clear c27b0
     try clear c27b1
     try clear hcz17_0
     try clear hcz17_1
     try clear hcz17_2
     try clear hcz19_0
     try clear hcz19_1
     try clear hcz19_2
     try clear hcz21_0
     try clear hcz21_1
     try clear hcz21_2
     try clear hfz17_0
     try clear hfz17_1
     try clear hfz17_2
     try clear hfz19_0
     try clear hfz19_1
     try clear hfz19_2
     try clear hfz21_0
     try clear hfz21_1
     try clear hfz21_2
     try clear p2
     obtain ⟨kq, x37_24, rfl, HA, HJ24, HO_7, BK305, BK316, HI0, HK, HB⟩ := hcut
     cases kq with
     | zero => exact absurd HA.out (by simp [spec_l13Draw.j1])
     | succ kj24 =>
      have H := HA.out; clear HA; simp only [spec_l13Draw.j1] at H; by_cases c29 : x37_24 = true
      ·subst c29; rw [if_pos rfl] at H
       replace H := Option.bind_eq_some_iff.mp H; obtain ⟨⟨t329, t330, t331⟩, A300, H⟩ := H; try dsimp only at H
       have A30 := Aside0.mk A300; clear A300; replace H := Option.bind_eq_some_iff.mp H; obtain ⟨⟨t332, t333, t334⟩, A310, H⟩ := H; try dsimp only at H
       have A31 := Aside0.mk A310; clear A310; by_cases c32 : 0 ≤ t332
       ·rw [if_pos c32] at H
        have c32b0 : decide (0 ≤ t332) = true := decide_eq_true c32; clear c32; by_cases c33 : t332 < (t317.length : Int)
        ·rw [if_pos c33] at H
         have c33b0 : decide (t332 < (t317.length : Int)) = true := decide_eq_true c33; clear c33; replace H := Option.bind_eq_some_iff.mp H; obtain ⟨⟨t336, t337⟩, A340, H⟩ := H; try dsimp only at H
         have A34 := Aside0.mk A340; clear A340; have H' := Aside0.mk H
         clear H; try go_wp2
         replace HO_7 := Aside0.mk (Kd.R_drew HO_7.out); replace BK305 := Aside0.mk (blk_drew BK305.out); replace BK316 := Aside0.mk (blk_drew BK316.out); replace HI0 := Aside0.mk (IsS103.drew HI0.out); replace HK := Aside0.mk (keep_drew HK.out); replace HB := Aside0.mk (below_drew1 HB.out); obtain ⟨Ao36, co36, eo36⟩ := Kd.R_slice HO_7.out; (first | subst eo36 | (injection eo36 with f1_ f2_ f3_; have f4_ := f1_.symm; have f5_ := f3_.symm; clear f1_ f2_ f3_; subst f4_; subst f5_))
         have p335 : 0 ≤ (t332 : Int) := of_decide_eq_true (by first | (with_reducible assumption) | assumption)
         have q335 : t332 < (t317.length : Int) := of_decide_eq_true (by first | (with_reducible assumption) | assumption)
         obtain ⟨ad335, e335, hx335_0⟩ := Kd.at_string (Kd.R_reads' HO_7.out).2.2 t332 p335 q335
         cases e335; replace p335 := eq_true p335; replace q335 := eq_true q335; refine start_ (n := 17) (S := fun w' => w'.cell? ⟨gb316, 0, none⟩ = some (.int .i64 t312) ∧ w'.cell? ⟨gb316, 1, none⟩ = some (.int .i64 t313) ∧ w'.cell? ⟨gb316, 2, none⟩ = some (.string t314) ∧ w'.cell? (ad335.add (t332).toNat) = some (.string (rdOf ByteArray.empty t317 t332))) (ds := []) #[false, false, false, false, false, false, false, false, false, false, false, false, false, false, false, false, false] (by kernel_rfl) rfl rfl ⟨(blk_cell BK316.out 0).trans rfl, (blk_cell BK316.out 1).trans rfl, (blk_cell BK316.out 2).trans rfl, hx335_0⟩ (fun hHeld => ?_); refine with_tabW spec_l13Draw.tab8 spec_l13Draw.bits8 (fun HT_ HW_ => ?_)
         generalize wc.drew = w35 at HO_7 BK305 BK316 HI0 HK HB hx335_0 hHeld ⊢
         refine pure_ (i := 1) (N := some 42) (v := ?_) (a' := ?_) #[false, true, false, false, false, false, false, false, false, false, false, false, false, false, false, false, false] rfl rfl (any_of HT_.out (by kernel_rfl)) (fun _ _ _ h => h) (Or.inl ⟨by rfl, ?_⟩) ?_ ?_
         rotate_left
         ·intro w'
          go_simp; with_reducible rfl
         rotate_left
         ·simp only [Act.put, pt16_, i64_w, i32_w]; rfl
         refine pure_ (i := 2) (N := some 43) (v := ?_) (a' := ?_) #[false, true, true, false, false, false, false, false, false, false, false, false, false, false, false, false, false] rfl rfl (any_of HT_.out (by kernel_rfl)) (fun _ _ _ h => h) (Or.inl ⟨by rfl, ?_⟩) ?_ ?_
         rotate_left
         ·intro w'
          go_simp; with_reducible rfl
         rotate_left
         ·simp only [Act.put, pt16_, i64_w, i32_w]; rfl
         refine pure_ (i := 3) (N := some 44) (v := ?_) (a' := ?_) #[false, true, true, true, false, false, false, false, false, false, false, false, false, false, false, false, false] rfl rfl (any_of HT_.out (by kernel_rfl)) (fun _ _ _ h => h) (Or.inl ⟨by rfl, ?_⟩) ?_ ?_
         rotate_left
         ·intro w'
          go_simp; with_reducible rfl
         rotate_left
         ·simp only [Act.put, pt16_, i64_w, i32_w]; rfl
         refine pure_ (i := 5) (N := some 46) (v := ?_) (a' := ?_) #[false, true, true, true, false, true, false, false, false, false, false, false, false, false, false, false, false] rfl rfl (any_of HT_.out (by kernel_rfl)) (fun _ _ _ h => h) (Or.inl ⟨by rfl, ?_⟩) ?_ ?_
         rotate_left
         ·intro w'
          go_simp; with_reducible rfl
         rotate_left
         ·simp only [Act.put, pt16_, i64_w, i32_w]; rfl
         refine pure_ (i := 6) (N := some 47) (v := ?_) (a' := ?_) #[false, true, true, true, false, true, true, false, false, false, false, false, false, false, false, false, false] rfl rfl (any_of HT_.out (by kernel_rfl)) (fun _ _ _ h => h) (Or.inl ⟨by rfl, ?_⟩) ?_ ?_
         rotate_left
         ·intro w'
          go_simp; with_reducible rfl
         rotate_left
         ·simp only [Act.put, pt16_, i64_w, i32_w]; rfl
         refine pure_ (i := 7) (N := some 48) (v := ?_) (a' := ?_) #[false, true, true, true, false, true, true, true, false, false, false, false, false, false, false, false, false] rfl rfl (any_of HT_.out (by kernel_rfl)) (fun _ _ _ h => h) (Or.inl ⟨by rfl, ?_⟩) ?_ ?_
         rotate_left
         ·intro w'
          go_simp; with_reducible rfl
         rotate_left
         ·simp only [Act.put, pt16_, i64_w, i32_w]; rfl
         refine pure_ (i := 8) (N := some 49) (v := ?_) (a' := ?_) #[false, true, true, true, false, true, true, true, true, false, false, false, false, false, false, false, false] rfl rfl (any_of HT_.out (by kernel_rfl)) (fun _ _ _ h => h) (Or.inl ⟨by rfl, ?_⟩) ?_ ?_
         rotate_left
         ·intro w'
          go_simp; with_reducible rfl
         rotate_left
         ·simp only [Act.put, pt16_, i64_w, i32_w]; rfl
         refine take_ (i := 0) (N := some 41) (v := ?_) (a' := ?_) #[true, true, true, true, false, true, true, true, true, false, false, false, false, false, false, false, false] rfl rfl (take_ofW HT_.out HW_.out (by kernel_rfl)) (fun _ _ _ h => h) (Or.inl ⟨by rfl, ?_⟩) hHeld ?_ ?_
         rotate_left
         ·rintro w' ⟨s0, s1, s2, s3⟩
          go_simp; with_reducible rfl
         rotate_left
         ·simp only [Act.put, pt16_, i64_w, i32_w]; rfl
         refine one_ (i := 4) (N := some 45) #[true, true, true, true, true, true, true, true, true, false, false, false, false, false, false, false, false] rfl rfl (one_of HT_.out (by kernel_rfl)) (by decide) (fun K hK => ?_)
         refine goes_ Try.func97 (by kernel_rfl) rfl #[.pointer (some ⟨g, 0, none⟩), .int .i64 (t323.length : Int)] (by rfl) rfl rfl z16_3 ?_
         with_reducible refine (spec_l1Below.calls g s0_0 x1001_1 x1002_1 (t323.length : Int) t329 t330 t331 w0 _ ?side1 ?side2 A30.out).mono ?_
         (case side1 => exact z16_1)
         (case side2 => exact z16_2)
         rintro e w37 ⟨rfl, hi, hb, hk⟩
         have HS3_ := keep_cell hk (hHeld.2.2.2) (by first | (rw [add_block]; exact Kd.own_blk (IsS103.own_ne HI0.out HO_7.out (by decide))) | (show (Addr.add _ _).block ≠ _; rw [add_block]; exact Kd.own_blk (IsS103.own_ne HI0.out HO_7.out (by decide))) | exact Kd.own_blk (IsS103.own_ne HI0.out HO_7.out (by decide)))
         refine ⟨_, rfl, ?_⟩
         replace HO_7 := Aside0.mk (Kd.R_mono (Kd.R_keep (IsS103.apart (show IsS103 w0 _ g s0_0 x1001_1 x1002_1 from by repeat (first | (with_reducible first | exact HI0.out | apply IsS103.alloc | apply IsS103.drewN | apply IsS103.drew | apply IsS103.set_1 | apply IsS103.set_2 | refine IsS103.far ?_ NB0_305.out _ | refine IsS103.far ?_ NB0_316.out _) | exact HI0.out)) (kd16_ HO_7.out) (by decide)) hk (fun _ h => h.2)) (fun _ h => h.1))
         replace BK305 := Aside0.mk (KeepBut.blk hk (g' := gb305) (o := .cells #[.int .i64 0, .int .i64 0, .string (⟨#[]⟩ : ByteArray)] 28 (0, 0)) (bd16_ BK305.out) NB305_0.out (by simp)); replace BK316 := Aside0.mk (KeepBut.blk hk (g' := gb316) (o := .cells #[.int .i64 t312, .int .i64 t313, .string t314] 28 (0, 0)) (bd16_ BK316.out) NB316_0.out (by simp)); replace HK := Aside0.mk (KeepBut.trans z16_0 hk (.inl rfl)); replace HB := Aside0.mk (hb); replace HI0 := Aside0.mk (hi); (try clear hb)
         (try clear hb2)
         (try clear hk)
         (try clear hi)
         refine hK.out _ _ ⟨(blk_cell BK316.out 0).trans rfl, (blk_cell BK316.out 1).trans rfl, (blk_cell BK316.out 2).trans rfl, HS3_⟩ (fun hHeld => ?_)
         clear hK K; refine norm_ (a' := ?_) ?_ ?_
         rotate_left
         ·show Act.put _ (some 45) _ = _
          simp only [Act.put, pt16_, i64_w, i32_w]; rfl
         refine one_ (i := 9) (N := some 50) #[true, true, true, true, true, true, true, true, true, true, false, false, false, false, false, false, false] rfl rfl (one_of HT_.out (by kernel_rfl)) (by decide) (fun K hK => ?_)
         refine goes_ Try.func97 (by kernel_rfl) rfl #[.pointer (some ⟨g, 0, none⟩), .int .i64 (t317.length : Int)] (by rfl) rfl rfl z16_3 ?_
         with_reducible refine (spec_l1Below.calls g s0_0 t330 t331 (t317.length : Int) t332 t333 t334 w0 _ ?side1 ?side2 A31.out).mono ?_
         (case side1 => exact z16_1)
         (case side2 => exact z16_2)
         rintro e w38 ⟨rfl, hi, hb, hk⟩
         have HS3_ := keep_cell hk (hHeld.2.2.2) (by first | (rw [add_block]; exact Kd.own_blk (IsS103.own_ne HI0.out HO_7.out (by decide))) | (show (Addr.add _ _).block ≠ _; rw [add_block]; exact Kd.own_blk (IsS103.own_ne HI0.out HO_7.out (by decide))) | exact Kd.own_blk (IsS103.own_ne HI0.out HO_7.out (by decide)))
         refine ⟨_, rfl, ?_⟩
         replace HO_7 := Aside0.mk (Kd.R_mono (Kd.R_keep (IsS103.apart (show IsS103 w0 _ g s0_0 t330 t331 from by repeat (first | (with_reducible first | exact HI0.out | apply IsS103.alloc | apply IsS103.drewN | apply IsS103.drew | apply IsS103.set_1 | apply IsS103.set_2 | refine IsS103.far ?_ NB0_305.out _ | refine IsS103.far ?_ NB0_316.out _) | exact HI0.out)) (kd16_ HO_7.out) (by decide)) hk (fun _ h => h.2)) (fun _ h => h.1))
         replace BK305 := Aside0.mk (KeepBut.blk hk (g' := gb305) (o := .cells #[.int .i64 0, .int .i64 0, .string (⟨#[]⟩ : ByteArray)] 28 (0, 0)) (bd16_ BK305.out) NB305_0.out (by simp)); replace BK316 := Aside0.mk (KeepBut.blk hk (g' := gb316) (o := .cells #[.int .i64 t312, .int .i64 t313, .string t314] 28 (0, 0)) (bd16_ BK316.out) NB316_0.out (by simp)); replace HK := Aside0.mk (KeepBut.trans z16_0 hk (.inl rfl)); replace HB := Aside0.mk (hb); replace HI0 := Aside0.mk (hi); (try clear hb)
         (try clear hb2)
         (try clear hk)
         (try clear hi)
         refine hK.out _ _ ⟨(blk_cell BK316.out 0).trans rfl, (blk_cell BK316.out 1).trans rfl, (blk_cell BK316.out 2).trans rfl, HS3_⟩ (fun hHeld => ?_)
         clear hK K; refine norm_ (a' := ?_) ?_ ?_
         rotate_left
         ·show Act.put _ (some 50) _ = _
          simp only [Act.put, pt16_, i64_w, i32_w]; rfl
         refine pure_ (i := 10) (N := some 51) (v := ?_) (a' := ?_) #[true, true, true, true, true, true, true, true, true, true, true, false, false, false, false, false, false] rfl rfl (any_of HT_.out (by kernel_rfl)) (fun _ _ _ h => h) (Or.inl ⟨by rfl, ?_⟩) ?_ ?_
         rotate_left
         ·intro w'
          go_simp; with_reducible rfl
         rotate_left
         ·simp only [Act.put, pt16_, i64_w, i32_w]; rfl
         refine take_ (i := 11) (N := some 52) (v := ?_) (a' := ?_) #[true, true, true, true, true, true, true, true, true, true, true, true, false, false, false, false, false] rfl rfl (take_ofW HT_.out HW_.out (by kernel_rfl)) (fun _ _ _ h => h) (Or.inl ⟨by rfl, ?_⟩) hHeld ?_ ?_
         rotate_left
         ·rintro w' ⟨s0, s1, s2, s3⟩
          go_simp; with_reducible rfl
         rotate_left
         ·simp only [Act.put, pt16_, i64_w, i32_w]; rfl
         refine one_ (i := 12) (N := some 53) #[true, true, true, true, true, true, true, true, true, true, true, true, true, false, false, false, false] rfl rfl (one_of HT_.out (by kernel_rfl)) (by decide) (fun K hK => ?_)
         refine goes_ Try.func98 (by kernel_rfl) rfl #[.agg #[.int .i64 t312, .int .i64 t313, .string t314], .string x8_1, .int .i64 t329, .string (rdOf ByteArray.empty t317 t332)] (by rfl) rfl rfl z16_3 ?_
         with_reducible refine (spec_PutWord.calls kj24 t312 t313 t314 x8_1 t329 (rdOf ByteArray.empty t317 t332) t336 t337 _ A34.out).mono ?_
         rintro e w39 ⟨rfl, hb⟩
         have HS3_ := (hb.cell (World.block_lt_of_cell? _ _ (hHeld.2.2.2))).trans (hHeld.2.2.2); refine ⟨_, rfl, ?_⟩
         replace HO_7 := Aside0.mk (Kd.R_below (kd16_ HO_7.out) hb); replace BK305 := Aside0.mk (blk_below (g := gb305) (o := .cells #[.int .i64 0, .int .i64 0, .string (⟨#[]⟩ : ByteArray)] 28 (0, 0)) (bd16_ BK305.out) hb); replace BK316 := Aside0.mk (blk_below (g := gb316) (o := .cells #[.int .i64 t312, .int .i64 t313, .string t314] 28 (0, 0)) (bd16_ BK316.out) hb); replace HK := Aside0.mk (KeepBut.trans z16_0 (KeepBut.of_below hb g none) (.inl rfl)); replace HB := Aside0.mk (below_step z16_2 hb); replace HI0 := Aside0.mk (IsS103.below z16_1 hb); (try clear hb)
         (try clear hb2)
         (try clear hk)
         (try clear hi)
         refine hK.out _ _ ⟨(blk_cell BK316.out 0).trans rfl, (blk_cell BK316.out 1).trans rfl, (blk_cell BK316.out 2).trans rfl, HS3_⟩ (fun hHeld => ?_)
         clear hK K; refine norm_ (a' := ?_) ?_ ?_
         rotate_left
         ·show Act.put _ (some 53) _ = _
          simp only [Act.put, pt16_, i64_w, i32_w]; rfl
         refine pure_ (i := 13) (N := some 40) (v := ?_) (a' := ?_) #[true, true, true, true, true, true, true, true, true, true, true, true, true, true, false, false, false] rfl rfl (any_of HT_.out (by kernel_rfl)) (fun _ _ _ h => h) (Or.inl ⟨by rfl, ?_⟩) ?_ ?_
         rotate_left
         ·intro w'
          go_simp; with_reducible rfl
         rotate_left
         ·simp only [Act.put, pt16_, i64_w, i32_w]; rfl
         refine pure_ (i := 14) (N := some 54) (v := ?_) (a' := ?_) #[true, true, true, true, true, true, true, true, true, true, true, true, true, true, true, false, false] rfl rfl (any_of HT_.out (by kernel_rfl)) (fun _ _ _ h => h) (Or.inl ⟨by rfl, ?_⟩) ?_ ?_
         rotate_left
         ·intro w'
          go_simp; with_reducible rfl
         rotate_left
         ·simp only [Act.put, pt16_, i64_w, i32_w]; rfl
         refine pure_ (i := 15) (N := some 55) (v := ?_) (a' := ?_) #[true, true, true, true, true, true, true, true, true, true, true, true, true, true, true, true, false] rfl rfl (any_of HT_.out (by kernel_rfl)) (fun _ _ _ h => h) (Or.inl ⟨by rfl, ?_⟩) ?_ ?_
         rotate_left
         ·intro w'
          go_simp; with_reducible rfl
         rotate_left
         ·simp only [Act.put, pt16_, i64_w, i32_w]; rfl
         refine pure_ (i := 16) (N := some 8) (v := ?_) (a' := ?_) #[true, true, true, true, true, true, true, true, true, true, true, true, true, true, true, true, true] rfl rfl (any_of HT_.out (by kernel_rfl)) (fun _ _ _ h => h) (Or.inl ⟨by rfl, ?_⟩) ?_ ?_
         rotate_left
         ·intro w'
          go_simp; with_reducible rfl
         rotate_left
         ·simp only [Act.put, pt16_, i64_w, i32_w]; rfl
         refine done_ (done_of HT_.out (by kernel_rfl)) ?_
         try go_wp2
         go_roundg kj24
         case measure => have := HK1.out; have := HJ24.out; omega
         case rel => exact ⟨(t336), (wrap64 (x10_1 - 1)), (t333), (t334), (by first | rfl | (simp; done) | (simp [*]; done)), (by first | rfl | (simp; done) | (simp [*]; done)), H', ⟨by have := HK1.out; have := HJ24.out; omega⟩, ⟨by (with_reducible repeat (first | apply Kd.R_alloc | apply Kd.R_drewN | apply Kd.R_drew)); exact HO_7.out⟩, ⟨z16_9⟩, ⟨z16_10⟩, ⟨z16_1⟩, ⟨z16_0⟩, ⟨z16_2⟩⟩
        ·rw [if_neg c33] at H
         exact absurd H (by simp)
       ·rw [if_neg c32] at H
        exact absurd H (by simp)
      ·replace c29 := Bool.eq_false_iff.mpr c29; subst c29; rw [if_neg (show ¬ (false = true) by decide)] at H
       replace H := Option.bind_eq_some_iff.mp H; obtain ⟨⟨t338, t339, t340⟩, A400, H⟩ := H; try dsimp only at H
       have A40 := Aside0.mk A400; clear A400; by_cases c41 : t338 = true
       ·subst c41; rw [if_pos rfl] at H
        by_cases c42 : x8_1.size + 1 ≤ 9223372036854775807
        ·rw [if_pos c42] at H
         have c42b0 := eq_true c42; have c42b1 : decide (x8_1.size + 1 ≤ 9223372036854775807) = true := decide_eq_true c42; try have c42b2 : (9223372036854775807 < x8_1.size + 1) = False := eq_false (Nat.not_lt.2 c42)
         simp only [Option.some.injEq, Prod.mk.injEq] at H; obtain ⟨rfl, rfl, rfl, rfl, rfl, rfl, rfl⟩ := H; go_wp2_with (first | ((with_reducible refine gate_callee (f := 74) rfl ?_); refine goesL_ (some 57) rfl rfl Try.func74 (by kernel_rfl) rfl #[.pointer (some ⟨g, 0, none⟩), .int .i64 9] rfl z16_3 ?_; (with_reducible refine (spec_l1Once.calls g s0_0 x1001_1 x1002_1 9 true t339 t340 w0 _ ?side1 ?side2 A40.out).mono ?_); (case side1 => exact z16_1); (case side2 => exact z16_2); rintro e w43 ⟨rfl, hi, hb, hk⟩; refine ⟨_, rfl, ?_⟩; replace HO_7 := Aside0.mk (Kd.R_mono (Kd.R_keep (IsS103.apart (show IsS103 w0 _ g s0_0 x1001_1 x1002_1 from by repeat (first | (with_reducible first | exact HI0.out | apply IsS103.alloc | apply IsS103.drewN | apply IsS103.drew | apply IsS103.set_1 | apply IsS103.set_2 | refine IsS103.far ?_ NB0_305.out _ | refine IsS103.far ?_ NB0_316.out _) | exact HI0.out)) (kd16_ HO_7.out) (by decide)) hk (fun _ h => h.2)) (fun _ h => h.1)); replace BK305 := Aside0.mk (KeepBut.blk hk (g' := gb305) (o := .cells #[.int .i64 0, .int .i64 0, .string (⟨#[]⟩ : ByteArray)] 28 (0, 0)) (bd16_ BK305.out) NB305_0.out (by simp)); replace BK316 := Aside0.mk (KeepBut.blk hk (g' := gb316) (o := .cells #[.int .i64 t312, .int .i64 t313, .string t314] 28 (0, 0)) (bd16_ BK316.out) NB316_0.out (by simp)); replace HK := Aside0.mk (KeepBut.trans z16_0 hk (.inl rfl)); replace HB := Aside0.mk (hb); replace HI0 := Aside0.mk (hi); (try clear hb); have hnb44 := NB316_305.out; have hnc44 := NB305_316.out; have hnb45 := NB316_0.out; have hnc45 := NB0_316.out; obtain ⟨hcz46_0, hcz46_1, hcz46_2, hfz46_0, hfz46_1, hfz46_2⟩ := bc3_16_ BK316.out; have hnb47 := NB305_0.out; have hnc47 := NB0_305.out; obtain ⟨hcz48_0, hcz48_1, hcz48_2, hfz48_0, hfz48_1, hfz48_2⟩ := bc3_16_ BK305.out))
         refine bodyPost_ret (results_ctt rfl _ _ gb305 28 #[.int .i64 t312, .int .i64 t313, .string t314] (0, 0) _ rfl z16_6 Try.underlying28 rfl (by kernel_rfl)) rfl ?_
         exact ⟨_, by first | rfl | (simp [errW_none, errW_some] <;> rfl) | (simp [*, errW_none, errW_some] <;> rfl), by (with_reducible repeat (first | apply Kd.R_alloc | apply Kd.R_drewN | apply Kd.R_drew)); exact Kd.R_mono (Kd.R_far (p := ⟨gb305, 2, none⟩) (Kd.R_far (p := ⟨gb305, 1, none⟩) (Kd.R_far (p := ⟨gb305, 0, none⟩) (Kd.R_types HO_7.out BK305.out (by decide)) (fun _ hk => hk.2) (.int .i64 t312)) (fun _ hk => hk.2) (.int .i64 t313)) (fun _ hk => hk.2) (.string t314)) (fun _ hk => trivial), z16_1, z16_2, z16_0⟩
        ·rw [if_neg c42] at H
         exact absurd H (by simp)
       ·replace c41 := Bool.eq_false_iff.mpr c41; subst c41; rw [if_neg (show ¬ (false = true) by decide)] at H
        simp only [Option.some.injEq, Prod.mk.injEq] at H; obtain ⟨rfl, rfl, rfl, rfl, rfl, rfl, rfl⟩ := H; go_wp2_with (first | ((with_reducible refine gate_callee (f := 74) rfl ?_); refine goesL_ (some 57) rfl rfl Try.func74 (by kernel_rfl) rfl #[.pointer (some ⟨g, 0, none⟩), .int .i64 9] rfl z16_3 ?_; (with_reducible refine (spec_l1Once.calls g s0_0 x1001_1 x1002_1 9 false t339 t340 w0 _ ?side1 ?side2 A40.out).mono ?_); (case side1 => exact z16_1); (case side2 => exact z16_2); rintro e w49 ⟨rfl, hi, hb, hk⟩; refine ⟨_, rfl, ?_⟩; replace HO_7 := Aside0.mk (Kd.R_mono (Kd.R_keep (IsS103.apart (show IsS103 w0 _ g s0_0 x1001_1 x1002_1 from by repeat (first | (with_reducible first | exact HI0.out | apply IsS103.alloc | apply IsS103.drewN | apply IsS103.drew | apply IsS103.set_1 | apply IsS103.set_2 | refine IsS103.far ?_ NB0_305.out _ | refine IsS103.far ?_ NB0_316.out _) | exact HI0.out)) (kd16_ HO_7.out) (by decide)) hk (fun _ h => h.2)) (fun _ h => h.1)); replace BK305 := Aside0.mk (KeepBut.blk hk (g' := gb305) (o := .cells #[.int .i64 0, .int .i64 0, .string (⟨#[]⟩ : ByteArray)] 28 (0, 0)) (bd16_ BK305.out) NB305_0.out (by simp)); replace BK316 := Aside0.mk (KeepBut.blk hk (g' := gb316) (o := .cells #[.int .i64 t312, .int .i64 t313, .string t314] 28 (0, 0)) (bd16_ BK316.out) NB316_0.out (by simp)); replace HK := Aside0.mk (KeepBut.trans z16_0 hk (.inl rfl)); replace HB := Aside0.mk (hb); replace HI0 := Aside0.mk (hi); (try clear hb); have hnb50 := NB316_305.out; have hnc50 := NB305_316.out; have hnb51 := NB316_0.out; have hnc51 := NB0_316.out; obtain ⟨hcz52_0, hcz52_1, hcz52_2, hfz52_0, hfz52_1, hfz52_2⟩ := bc3_16_ BK316.out; have hnb53 := NB305_0.out; have hnc53 := NB0_305.out; obtain ⟨hcz54_0, hcz54_1, hcz54_2, hfz54_0, hfz54_1, hfz54_2⟩ := bc3_16_ BK305.out))
        refine bodyPost_ret (results_ctt rfl _ _ gb305 28 #[.int .i64 t312, .int .i64 t313, .string t314] (0, 0) _ rfl z16_6 Try.underlying28 rfl (by kernel_rfl)) rfl ?_
        exact ⟨_, by first | rfl | (simp [errW_none, errW_some] <;> rfl) | (simp [*, errW_none, errW_some] <;> rfl), by (with_reducible repeat (first | apply Kd.R_alloc | apply Kd.R_drewN | apply Kd.R_drew)); exact Kd.R_mono (Kd.R_far (p := ⟨gb305, 2, none⟩) (Kd.R_far (p := ⟨gb305, 1, none⟩) (Kd.R_far (p := ⟨gb305, 0, none⟩) (Kd.R_types HO_7.out BK305.out (by decide)) (fun _ hk => hk.2) (.int .i64 t312)) (fun _ hk => hk.2) (.int .i64 t313)) (fun _ hk => hk.2) (.string t314)) (fun _ hk => trivial), z16_1, z16_2, z16_0⟩

/-! ### spec_l1Int: function 56 -/
def spec_l1Int.f (s0_0 : List Int) (s0_1 : Int) (s0_2 : Int) (l1 : List Int) : Option (Int × Int × Int) := (spec_l1Below.f s0_0 s0_1 s0_2 (l1.length : Int)).bind fun bt341 => (if 0 ≤ bt341.1 then (if bt341.1 < (l1.length : Int) then (some (rd l1 bt341.1, bt341.2.1, bt341.2.2)) else (none)) else (none))
set_option maxHeartbeats 8000000 in
set_option maxRecDepth 100000 in
theorem spec_l1Int.calls (g : Nat) (s0_0 : List Int) (s0_1 : Int) (s0_2 : Int) (A1 : Option Addr) (c1 : Nat) (l1 : List Int) (r1 : Int) (r2 : Int) (r3 : Int) (w0 w : World) (hI : IsS103 w0 w g s0_0 s0_1 s0_2) (hB : Below w0.heap.size w0 w) (hr1 : Kd.C (Kd.int .i64) w A1 l1.length l1) (hc1 : l1.length ≤ c1) (hf1 : ∀ ad, A1 = some ad → 0 < l1.length → ad.block ≠ g) (h : spec_l1Int.f s0_0 s0_1 s0_2 l1 = some (r1, r2, r3)) :
   Calls Try.prog 56 #[.pointer (some ⟨g, 0, none⟩), .slice A1 l1.length c1] w fun e w' => e = .returned (.int .i64 r1) ∧ IsS103 w0 w' g s0_0 r2 r3 ∧ Below w0.heap.size w0 w' ∧ KeepBut w w' g none := by
  have HR1 := Aside0.mk hr1; have HC1 := Aside0.mk hc1; clear hr1 hc1; have HI0 := Aside0.mk hI; have HK := Aside0.mk (KeepBut.refl w g none); have HL := Aside0.mk hB.size; clear hI; have HW0 := Aside0.mk hB.size; have HB := Aside0.mk hB; clear hB; have H : ((spec_l1Below.f s0_0 s0_1 s0_2 (l1.length : Int)).bind fun bt341 => (if 0 ≤ bt341.1 then (if bt341.1 < (l1.length : Int) then (some (rd l1 bt341.1, bt341.2.1, bt341.2.2)) else (none)) else (none))) = some (r1, r2, r3) := h; clear h; replace H := Option.bind_eq_some_iff.mp H; obtain ⟨⟨t341, t342, t343⟩, A30, H⟩ := H; try dsimp only at H
  have A3 := Aside0.mk A30; clear A30; by_cases c4 : 0 ≤ t341
  ·rw [if_pos c4] at H
   have c4b0 : decide (0 ≤ t341) = true := decide_eq_true c4; clear c4; by_cases c5 : t341 < (l1.length : Int)
   ·rw [if_pos c5] at H
    have c5b0 : decide (t341 < (l1.length : Int)) = true := decide_eq_true c5; clear c5; simp only [Option.some.injEq, Prod.mk.injEq] at H; obtain ⟨rfl, rfl, rfl⟩ := H; go_enter Try.func56, Try.ntmps56
    go_wp2_with (first | ((with_reducible refine gate_callee (f := 97) rfl ?_); refine goesL_ (some 9) rfl rfl Try.func97 (by kernel_rfl) rfl #[.pointer (some ⟨g, 0, none⟩), .int .i64 (l1.length : Int)] rfl z16_3 ?_; (with_reducible refine (spec_l1Below.calls g s0_0 s0_1 s0_2 (l1.length : Int) t341 t342 t343 w0 _ ?side1 ?side2 A3.out).mono ?_); (case side1 => repeat (first | (with_reducible first | exact HI0.out | apply IsS103.alloc | apply IsS103.drewN | apply IsS103.drew | apply IsS103.set_1 | apply IsS103.set_2) | exact HI0.out)); (case side2 => repeat (first | (with_reducible first | exact HB.out | apply below_alloc | apply pw_below_drewN | apply below_drew1 | refine below_set ?_ (IsS103.ge HI0.out)) | exact HB.out)); rintro e w6 ⟨rfl, hi, hb, hk⟩; refine ⟨_, rfl, ?_⟩; replace HK := Aside0.mk (KeepBut.trans z16_8 hk (.inl rfl)); replace HB := Aside0.mk (hb); replace HI0 := Aside0.mk (hi); (try clear hb); have p344 : 0 ≤ (t341 : Int) := of_decide_eq_true (by first | (with_reducible assumption) | assumption); have q344 : t341 < (l1.length : Int) := of_decide_eq_true (by first | (with_reducible assumption) | assumption); obtain ⟨ad344, e344, hx344_0⟩ := Kd.at_int HR1.out t341 p344 q344; cases e344; replace hx344_0 := keep_cell HK.out hx344_0 (by first | (rw [add_block]; exact hf1 _ rfl (by omega)) | exact hf1 _ rfl (by omega) | exact hf1 ad344 rfl (by omega)); replace p344 := eq_true p344; replace q344 := eq_true q344))
    go_ret
    exact ⟨by first | rfl | (simp [errW_none, errW_some] <;> rfl) | (simp [*, errW_none, errW_some] <;> rfl), by repeat (first | (with_reducible first | exact HI0.out | apply IsS103.alloc | apply IsS103.drewN | apply IsS103.drew | apply IsS103.set_1 | apply IsS103.set_2) | exact HI0.out), by repeat (first | (with_reducible first | exact HB.out | apply below_alloc | apply pw_below_drewN | apply below_drew1 | refine below_set ?_ (IsS103.ge HI0.out)) | exact HB.out), z16_8⟩
   ·rw [if_neg c5] at H
    exact absurd H (by simp)
  ·rw [if_neg c4] at H
   exact absurd H (by simp)

/-! ### spec_DrawFillsOf: function 22 -/
def spec_DrawFillsOf.f (k : Nat) (l0 : List Int) : Option (Int × Int × ByteArray × ByteArray × List ByteArray × Int) := (spec_l1New.f k l0).bind fun bt346 => ((spec_l13Draw.f k bt346.1 bt346.2.1 bt346.2.2).bind fun bt350 => ((spec_l1Int.f bt346.1 bt350.2.2.2.2.2.1 bt350.2.2.2.2.2.2 (([1, 2, 5, 30, 31, 0, (-1)] : List Int))).bind fun bt363 => (some (bt350.1, bt350.2.1, bt350.2.2.1, bt350.2.2.2.1, bt350.2.2.2.2.1, bt363.1))))
theorem spec_DrawFillsOf.mono : ∀ a0 k, LeO (spec_DrawFillsOf.f k a0) (spec_DrawFillsOf.f (k + 1) a0) := by
  intro a0 k
  unfold spec_DrawFillsOf.f
  with_reducible repeat' first
  | exact spec_l13Draw.mono _ _ _ _
  | exact spec_l1New.mono _ _
  | exact LeO.refl _
  | exact LeO.none _
  | refine LeO.ite ?_ ?_
  | refine LeO.bind ?_ (fun _ => ?_)
def spec_DrawFillsOf.T3 : Bool × List (List Nat × List Nat) := (true, [([], []), ([], []), ([], []), ([], []), ([], []), ([3, 4], [3, 4]), ([0, 5, 0], [0]), ([1, 6, 0, 1, 6], [1]), ([2, 7, 0, 1, 2, 6, 7], [2]), ([5, 8, 0, 1, 2, 3, 4, 5, 6, 7, 8], [5])])
def spec_DrawFillsOf.B3 : List Nat := [0, 0, 0, 0, 0, 24, 57, 123, 255, 511]
theorem spec_DrawFillsOf.tab3 : rtab .any (opsOf Try.f22 3) = spec_DrawFillsOf.T3 := by kernel_rfl
theorem spec_DrawFillsOf.bits3 : waitsOk spec_DrawFillsOf.T3.2 spec_DrawFillsOf.B3 = true := by kernel_rfl
set_option maxHeartbeats 8000000 in
set_option maxRecDepth 100000 in
theorem spec_DrawFillsOf.calls (k : Nat) (A0 : Option Addr) (c0 : Nat) (l0 : List Int) (r1 : Int) (r2 : Int) (r3 : ByteArray) (r4 : ByteArray) (r5 : List ByteArray) (r6 : Int) (w : World) (hr0 : Kd.C (Kd.int .u8) w A0 l0.length l0) (hc0 : l0.length ≤ c0) (h : spec_DrawFillsOf.f k l0 = some (r1, r2, r3, r4, r5, r6)) :
   Calls Try.prog 22 #[.slice A0 l0.length c0] w fun e w' => ∃ v4_ : Value, e = .returned (.tuple #[.agg #[.int .i64 r1, .int .i64 r2, .string r3], .string r4, v4_, .int .i64 r6]) ∧ Kd.R Kd.string 9 w' w.heap.size (fun _ => True) v4_ r5 ∧ Below w.heap.size w w' := by
  have hu28 := Try.underlying28; have HR0 := Aside0.mk hr0; have HC0 := Aside0.mk hc0; clear hr0 hc0; have HB := Aside0.mk (Below.refl w.heap.size w); have H : ((spec_l1New.f k l0).bind fun bt346 => ((spec_l13Draw.f k bt346.1 bt346.2.1 bt346.2.2).bind fun bt350 => ((spec_l1Int.f bt346.1 bt350.2.2.2.2.2.1 bt350.2.2.2.2.2.2 (([1, 2, 5, 30, 31, 0, (-1)] : List Int))).bind fun bt363 => (some (bt350.1, bt350.2.1, bt350.2.2.1, bt350.2.2.2.1, bt350.2.2.2.2.1, bt363.1))))) = some (r1, r2, r3, r4, r5, r6) := h; clear h; replace H := Option.bind_eq_some_iff.mp H; obtain ⟨⟨t346, t347, t348⟩, A20, H⟩ := H; try dsimp only at H
  have A2 := Aside0.mk A20; clear A20; replace H := Option.bind_eq_some_iff.mp H; obtain ⟨⟨t350, t351, t352, t353, t354, t357, t358⟩, A30, H⟩ := H; try dsimp only at H
  have A3 := Aside0.mk A30; clear A30; obtain ⟨y360, hy360⟩ : ∃ y_ : List Int, y_ = (([1, 2, 5, 30, 31, 0, (-1)] : List Int)) := ⟨_, rfl⟩; replace H : ((spec_l1Int.f t346 t357 t358 y360).bind fun bt363 => (some (t350, t351, t352, t353, t354, bt363.1))) = some (r1, r2, r3, r4, r5, r6) := by first | (rw [hy360]; with_reducible exact H) | (have H2_ := (Option.bind_some _ _).symm.trans H; rw [hy360]; with_reducible exact H2_) | (have H2_ := (Option.bind_some _ _).symm.trans H; with_reducible exact H2_) | with_reducible exact H | (rw [hy360]; exact H) | exact H
  have Ny360 := Aside0.mk hy360; clear hy360; replace H := Option.bind_eq_some_iff.mp H; obtain ⟨⟨t363, t364, t365⟩, A40, H⟩ := H; try dsimp only at H
  have A4 := Aside0.mk A40; clear A40; simp only [Option.some.injEq, Prod.mk.injEq] at H; obtain ⟨rfl, rfl, rfl, rfl, rfl, rfl⟩ := H; go_enter Try.func22, Try.ntmps22
  try go_wp2_with (first | ((with_reducible refine gate_dst (N := 2) rfl ?_); refine box_event ?hg (N := 2) ?hd (cs := #[.int .i64 0, .int .i64 0, .string (⟨#[]⟩ : ByteArray)]) (t := 28) ?hr ?_; (case hd => rfl); (case hg => rfl); (case hr => first | (go_simp; done) | (go_simp; rfl)); intro gb345 hg w5 hbox hb; have BK345 := Aside0.mk (hbox); have GW345 := Aside0.mk ((by rw [hg]; exact (below_size (by repeat (first | (with_reducible first | exact HB.out | apply below_alloc | apply pw_below_drewN | apply below_drew1) | exact HB.out))) : w.heap.size ≤ gb345)); have GE345 := Aside0.mk ((by rw [hg]; exact (below_size (by repeat (first | (with_reducible first | exact HB.out | apply below_alloc | apply pw_below_drewN | apply below_drew1) | exact HB.out))) : w.heap.size ≤ gb345)); replace HB := Aside0.mk (below_step (by repeat (first | (with_reducible first | exact HB.out | apply below_alloc | apply pw_below_drewN | apply below_drew1) | exact HB.out)) hb); clear hb hbox hg) | ((with_reducible refine gate_callee (f := 54) rfl ?_); refine goesL_ (some 11) rfl rfl Try.func54 (by kernel_rfl) rfl #[.slice A0 l0.length c0] rfl z16_3 ?_; (with_reducible refine (spec_l1New.calls k _ _ l0 t346 t347 t348 w _ ?side1 ?side2 ?side3 A2.out).mono ?_); (case side1 => repeat (first | (with_reducible first | exact HB.out | apply below_alloc | apply pw_below_drewN | apply below_drew1 | refine below_set ?_ GE345.out) | exact HB.out)); (case side2 => exact HR0.out); (case side3 => exact HC0.out); rintro e w6 ⟨g349, rfl, hi, hb, hb2⟩; refine ⟨_, rfl, ?_⟩; replace HB := Aside0.mk (hb); have HI349 := Aside0.mk (hi); have NB349_345 := Aside0.mk (IsS103.ne_blk hi (blk_below (g := gb345) (o := .cells #[.int .i64 0, .int .i64 0, .string (⟨#[]⟩ : ByteArray)] 28 (0, 0)) (bd16_ BK345.out) hb2) (by decide)); have NB345_349 := Aside0.mk (Ne.symm (IsS103.ne_blk hi (blk_below (g := gb345) (o := .cells #[.int .i64 0, .int .i64 0, .string (⟨#[]⟩ : ByteArray)] 28 (0, 0)) (bd16_ BK345.out) hb2) (by decide))); replace BK345 := Aside0.mk (blk_below (g := gb345) (o := .cells #[.int .i64 0, .int .i64 0, .string (⟨#[]⟩ : ByteArray)] 28 (0, 0)) (bd16_ BK345.out) hb2); (try clear hb)) | ((with_reducible refine gate_callee (f := 55) rfl ?_); refine goesL_ (some 14) rfl rfl Try.func55 (by kernel_rfl) rfl #[.pointer (some ⟨g349, 0, none⟩)] rfl z16_3 ?_; (with_reducible refine (spec_l13Draw.calls k g349 t346 t347 t348 t350 t351 t352 t353 t354 t357 t358 w _ ?side1 ?side2 A3.out).mono ?_); (case side1 => repeat (first | (with_reducible first | exact HI349.out | apply IsS103.alloc | apply IsS103.drewN | apply IsS103.drew | apply IsS103.set_1 | apply IsS103.set_2 | refine IsS103.far ?_ NB349_345.out _) | exact HI349.out)); (case side2 => exact z16_7); rintro e w7 ⟨v355, rfl, ho0, hi, hb, hk⟩; refine ⟨_, rfl, ?_⟩; replace BK345 := Aside0.mk (KeepBut.blk hk (g' := gb345) (o := .cells #[.int .i64 0, .int .i64 0, .string (⟨#[]⟩ : ByteArray)] 28 (0, 0)) (bd16_ BK345.out) NB345_349.out (by simp)); have HO356 := Aside0.mk (Kd.R_lower ho0 (below_size z16_7)); replace HB := Aside0.mk (hb); replace HI349 := Aside0.mk (hi); (try clear hb); (try clear ho0)) | ((with_reducible refine gate_dst (N := 7) rfl ?_); refine box_event ?hg (N := 7) ?hd (cs := #[.int .i64 0, .int .i64 0, .string (⟨#[]⟩ : ByteArray)]) (t := 28) ?hr ?_; (case hd => rfl); (case hg => rfl); (case hr => first | (go_simp; done) | (go_simp; rfl)); intro gb359 hg w8 hbox hb; replace HO356 := Aside0.mk (Kd.R_below (kd16_ HO356.out) hb); have BK359 := Aside0.mk (hbox); have GW359 := Aside0.mk ((by rw [hg]; exact (below_size z16_7) : w.heap.size ≤ gb359)); have GE359 := Aside0.mk ((by rw [hg]; exact (below_size z16_7) : w.heap.size ≤ gb359)); replace HB := Aside0.mk (below_step z16_7 hb); have NB345_359 := Aside0.mk ((by rw [hg]; exact Nat.ne_of_lt (blk_lt (g := gb345) (o := .cells #[.int .i64 0, .int .i64 0, .string (⟨#[]⟩ : ByteArray)] 28 (0, 0)) (bd16_ BK345.out)) : gb345 ≠ gb359)); have NB359_345 := Aside0.mk ((by rw [hg]; exact Nat.ne_of_gt (blk_lt (g := gb345) (o := .cells #[.int .i64 0, .int .i64 0, .string (⟨#[]⟩ : ByteArray)] 28 (0, 0)) (bd16_ BK345.out)) : gb359 ≠ gb345)); replace BK345 := Aside0.mk (blk_below (g := gb345) (o := .cells #[.int .i64 0, .int .i64 0, .string (⟨#[]⟩ : ByteArray)] 28 (0, 0)) (bd16_ BK345.out) hb); have NB349_359 := Aside0.mk ((by rw [hg]; exact Nat.ne_of_lt (IsS103.lt (show IsS103 w _ g349 t346 t357 t358 from by repeat (first | (with_reducible first | exact HI349.out | apply IsS103.alloc | apply IsS103.drewN | apply IsS103.drew | apply IsS103.set_1 | apply IsS103.set_2 | refine IsS103.far ?_ NB349_345.out _) | exact HI349.out))) : g349 ≠ gb359)); have NB359_349 := Aside0.mk ((by rw [hg]; exact Nat.ne_of_gt (IsS103.lt (show IsS103 w _ g349 t346 t357 t358 from by repeat (first | (with_reducible first | exact HI349.out | apply IsS103.alloc | apply IsS103.drewN | apply IsS103.drew | apply IsS103.set_1 | apply IsS103.set_2 | refine IsS103.far ?_ NB349_345.out _) | exact HI349.out))) : gb359 ≠ g349)); replace HI349 := Aside0.mk (IsS103.below (by repeat (first | (with_reducible first | exact HI349.out | apply IsS103.alloc | apply IsS103.drewN | apply IsS103.drew | apply IsS103.set_1 | apply IsS103.set_2 | refine IsS103.far ?_ NB349_345.out _) | exact HI349.out)) hb); clear hb hbox hg; have hnb9 := NB359_345.out; have hnc9 := NB345_359.out; have hnb10 := NB359_349.out; have hnc10 := NB349_359.out; obtain ⟨hcz11_0, hcz11_1, hcz11_2, hfz11_0, hfz11_1, hfz11_2⟩ := bc3_16_ BK359.out))
  have n0_ : Aside0 (Kd.R Kd.string 9 (((w8.setCell ⟨gb359, 0, none⟩ (.int .i64 t350)).setCell ⟨gb359, 1, none⟩ (.int .i64 t351)).setCell ⟨gb359, 2, none⟩ (.string t352)) w.heap.size (fun _ => True) v355 t354) := ⟨by (with_reducible repeat (first | apply Kd.R_alloc | apply Kd.R_drewN | apply Kd.R_drew)); exact Kd.R_mono (Kd.R_far (p := ⟨gb359, 2, none⟩) (Kd.R_far (p := ⟨gb359, 1, none⟩) (Kd.R_far (p := ⟨gb359, 0, none⟩) (Kd.R_types HO356.out BK359.out (by decide)) (fun _ hk => hk.2) (.int .i64 t350)) (fun _ hk => hk.2) (.int .i64 t351)) (fun _ hk => hk.2) (.string t352)) (fun _ hk => trivial)⟩
  have n1_ : Aside0 ((((w8.setCell ⟨gb359, 0, none⟩ (.int .i64 t350)).setCell ⟨gb359, 1, none⟩ (.int .i64 t351)).setCell ⟨gb359, 2, none⟩ (.string t352)).heap[gb345]? = some (.cells #[.int .i64 0, .int .i64 0, .string (⟨#[]⟩ : ByteArray)] 28 (0, 0))) := ⟨by (with_reducible repeat (first | refine blk_drewN ?_ _ | refine blk_drew ?_ | refine blk_alloc ?_ _)); refine blk_far ?_ NB345_359.out _; (with_reducible repeat (first | refine blk_drewN ?_ _ | refine blk_drew ?_ | refine blk_alloc ?_ _)); refine blk_far ?_ NB345_359.out _; (with_reducible repeat (first | refine blk_drewN ?_ _ | refine blk_drew ?_ | refine blk_alloc ?_ _)); refine blk_far ?_ NB345_359.out _; (with_reducible repeat (first | refine blk_drewN ?_ _ | refine blk_drew ?_ | refine blk_alloc ?_ _)); exact BK345.out⟩
  have n2_ : Aside0 ((((w8.setCell ⟨gb359, 0, none⟩ (.int .i64 t350)).setCell ⟨gb359, 1, none⟩ (.int .i64 t351)).setCell ⟨gb359, 2, none⟩ (.string t352)).heap[gb359]? = some (.cells #[.int .i64 t350, .int .i64 t351, .string t352] 28 (0, 0))) := ⟨by (with_reducible repeat (first | refine blk_drewN ?_ _ | refine blk_drew ?_ | refine blk_alloc ?_ _)); refine blk_put (cs := #[.int .i64 t350, .int .i64 t351, .string (⟨#[]⟩ : ByteArray)]) ?_ 2 _ rfl; (with_reducible repeat (first | refine blk_drewN ?_ _ | refine blk_drew ?_ | refine blk_alloc ?_ _)); refine blk_put (cs := #[.int .i64 t350, .int .i64 0, .string (⟨#[]⟩ : ByteArray)]) ?_ 1 _ rfl; (with_reducible repeat (first | refine blk_drewN ?_ _ | refine blk_drew ?_ | refine blk_alloc ?_ _)); refine blk_put (cs := #[.int .i64 0, .int .i64 0, .string (⟨#[]⟩ : ByteArray)]) ?_ 0 _ rfl; (with_reducible repeat (first | refine blk_drewN ?_ _ | refine blk_drew ?_ | refine blk_alloc ?_ _)); exact BK359.out⟩
  have n3_ : Aside0 (IsS103 w (((w8.setCell ⟨gb359, 0, none⟩ (.int .i64 t350)).setCell ⟨gb359, 1, none⟩ (.int .i64 t351)).setCell ⟨gb359, 2, none⟩ (.string t352)) g349 t346 t357 t358) := ⟨by repeat (first | (with_reducible first | exact HI349.out | apply IsS103.alloc | apply IsS103.drewN | apply IsS103.drew | apply IsS103.set_1 | apply IsS103.set_2 | refine IsS103.far ?_ NB349_345.out _ | refine IsS103.far ?_ NB349_359.out _) | exact HI349.out)⟩
  have n4_ : Aside0 (Below w.heap.size w (((w8.setCell ⟨gb359, 0, none⟩ (.int .i64 t350)).setCell ⟨gb359, 1, none⟩ (.int .i64 t351)).setCell ⟨gb359, 2, none⟩ (.string t352))) := ⟨z16_5⟩; (try clear HO356)
  (try clear BK345)
  (try clear BK359)
  (try clear HI349)
  (try clear HB)
  generalize (((w8.setCell ⟨gb359, 0, none⟩ (.int .i64 t350)).setCell ⟨gb359, 1, none⟩ (.int .i64 t351)).setCell ⟨gb359, 2, none⟩ (.string t352)) = w12 at n0_ n1_ n2_ n3_ n4_ ⊢
  have HO356 := n0_; have BK345 := n1_; have BK359 := n2_; have HI349 := n3_; have HB := n4_; clear n0_ n1_ n2_ n3_ n4_; replace HO356 := Aside0.mk (Kd.R_drew HO356.out); replace BK345 := Aside0.mk (blk_drew BK345.out); replace BK359 := Aside0.mk (blk_drew BK359.out); replace HI349 := Aside0.mk (IsS103.drew HI349.out); replace HB := Aside0.mk (below_drew1 HB.out); refine start_ (n := 10) (S := fun w' => w'.cell? ⟨gb359, 0, none⟩ = some (.int .i64 t350) ∧ w'.cell? ⟨gb359, 1, none⟩ = some (.int .i64 t351) ∧ w'.cell? ⟨gb359, 2, none⟩ = some (.string t352)) (ds := []) #[false, false, false, false, false, false, false, false, false, false] (by kernel_rfl) rfl rfl ⟨(blk_cell BK359.out 0).trans rfl, (blk_cell BK359.out 1).trans rfl, (blk_cell BK359.out 2).trans rfl⟩ (fun hHeld => ?_); refine with_tabW spec_DrawFillsOf.tab3 spec_DrawFillsOf.bits3 (fun HT_ HW_ => ?_)
  generalize w12.drew = w13 at HO356 BK345 BK359 HI349 HB hHeld ⊢
  refine pure_ (i := 1) (N := some 19) (v := ?_) (a' := ?_) #[false, true, false, false, false, false, false, false, false, false] rfl rfl (any_of HT_.out (by kernel_rfl)) (fun _ _ _ h => h) (Or.inl ⟨by rfl, ?_⟩) ?_ ?_
  rotate_left
  ·intro w'
   go_simp; with_reducible rfl
  rotate_left
  ·simp only [Act.put, pt16_, i64_w, i32_w]; rfl
  refine pure_ (i := 2) (N := some 20) (v := ?_) (a' := ?_) #[false, true, true, false, false, false, false, false, false, false] rfl rfl (any_of HT_.out (by kernel_rfl)) (fun _ _ _ h => h) (Or.inl ⟨by rfl, ?_⟩) ?_ ?_
  rotate_left
  ·intro w'
   go_simp; with_reducible rfl
  rotate_left
  ·simp only [Act.put, pt16_, i64_w, i32_w]; rfl
  refine pure_ (i := 3) (N := some 21) (v := ?_) (a' := ?_) #[false, true, true, true, false, false, false, false, false, false] rfl rfl (any_of HT_.out (by kernel_rfl)) (fun _ _ _ h => h) (Or.inl ⟨by rfl, ?_⟩) ?_ ?_
  rotate_left
  ·intro w'
   go_simp; with_reducible rfl
  rotate_left
  ·simp only [Act.put, pt16_, i64_w, i32_w]; rfl
  refine take_ (i := 0) (N := some 18) (v := ?_) (a' := ?_) #[true, true, true, true, false, false, false, false, false, false] rfl rfl (take_ofW HT_.out HW_.out (by kernel_rfl)) (fun _ _ _ h => h) (Or.inl ⟨by rfl, ?_⟩) hHeld ?_ ?_
  rotate_left
  ·rintro w' ⟨s0, s1, s2⟩
   go_simp; with_reducible rfl
  rotate_left
  ·simp only [Act.put, pt16_, i64_w, i32_w]; rfl
  refine one_ (i := 4) (N := some 22) #[true, true, true, true, true, false, false, false, false, false] rfl rfl (one_of HT_.out (by kernel_rfl)) (by decide) (fun K hK => ?_)
  refine Kd.R_lit_step (Kd.int .i64) _ 3 ?hg (N := 22) ?hd (xs := ([1, 2, 5, 30, 31, 0, (-1)] : List Int)) (inner := [.int .i64 1, .int .i64 2, .int .i64 5, .int .i64 30, .int .i64 31, .int .i64 0, .int .i64 (-1)]) (ok := fun _ => True) (okp := fun _ => True) ?hr ?hp (fun _ hk => hk) trivial (Below.refl _ _) (Nat.le_refl _) (by simp) ?_; (case hd => rfl); (case hg => rfl); (case hr => first | (go_simp; done) | (go_simp; rfl)); (case hp => exact (Reps.one (show Kd.M (Kd.int .i64) _ _ _ 1 [.int .i64 1] from rfl) (Reps.one (show Kd.M (Kd.int .i64) _ _ _ 2 [.int .i64 2] from rfl) (Reps.one (show Kd.M (Kd.int .i64) _ _ _ 5 [.int .i64 5] from rfl) (Reps.one (show Kd.M (Kd.int .i64) _ _ _ 30 [.int .i64 30] from rfl) (Reps.one (show Kd.M (Kd.int .i64) _ _ _ 31 [.int .i64 31] from rfl) (Reps.one (show Kd.M (Kd.int .i64) _ _ _ 0 [.int .i64 0] from rfl) (Reps.one (show Kd.M (Kd.int .i64) _ _ _ (-1) [.int .i64 (-1)] from rfl) (Reps.none _ _)))))))))
  intro v361 w14 ho15 hb hg_ hnew_
  clear hg_ hnew_; (first | rw [← Ny360.out] at ho15 | (simp only [Int.reduceToNat] at ho15; rw [← Ny360.out] at ho15))
  replace HO356 := Aside0.mk (Kd.R_below (kd16_ HO356.out) hb); have HO362 := Aside0.mk (Kd.R_lower ho15 (below_size z16_5)); replace BK345 := Aside0.mk (blk_below (g := gb345) (o := .cells #[.int .i64 0, .int .i64 0, .string (⟨#[]⟩ : ByteArray)] 28 (0, 0)) (bd16_ BK345.out) hb); replace BK359 := Aside0.mk (blk_below (g := gb359) (o := .cells #[.int .i64 t350, .int .i64 t351, .string t352] 28 (0, 0)) (bd16_ BK359.out) hb); replace HB := Aside0.mk (below_step z16_5 hb); replace HI349 := Aside0.mk (IsS103.below (by repeat (first | (with_reducible first | exact HI349.out | apply IsS103.alloc | apply IsS103.drewN | apply IsS103.drew | apply IsS103.set_1 | apply IsS103.set_2 | refine IsS103.far ?_ NB349_345.out _ | refine IsS103.far ?_ NB349_359.out _) | exact HI349.out)) hb)
  clear hb ho15; obtain ⟨Ao16, co16, eo16⟩ := Kd.R_slice HO362.out; (first | subst eo16 | (injection eo16 with f1_ f2_ f3_; have f4_ := f1_.symm; have f5_ := f3_.symm; clear f1_ f2_ f3_; subst f4_; subst f5_))
  refine hK.out _ _ ⟨(blk_cell BK359.out 0).trans rfl, (blk_cell BK359.out 1).trans rfl, (blk_cell BK359.out 2).trans rfl⟩ (fun hHeld => ?_)
  clear hK K; refine norm_ (a' := ?_) ?_ ?_
  rotate_left
  ·show Act.put _ (some 22) _ = _
   simp only [Act.put, pt16_, i64_w, i32_w]; rfl
  refine one_ (i := 5) (N := some 23) #[true, true, true, true, true, true, false, false, false, false] rfl rfl (one_of HT_.out (by kernel_rfl)) (by decide) (fun K hK => ?_)
  refine goes_ Try.func56 (by kernel_rfl) rfl #[.pointer (some ⟨g349, 0, none⟩), .slice Ao16 y360.length co16] (by rfl) rfl rfl z16_3 ?_
  with_reducible refine (spec_l1Int.calls g349 t346 t357 t358 _ _ y360 t363 t364 t365 w _ ?side1 ?side2 ?side3 ?side4 ?side5 A4.out).mono ?_
  (case side1 => repeat (first | (with_reducible first | exact HI349.out | apply IsS103.alloc | apply IsS103.drewN | apply IsS103.drew | apply IsS103.set_1 | apply IsS103.set_2 | refine IsS103.far ?_ NB349_345.out _ | refine IsS103.far ?_ NB349_359.out _) | exact HI349.out))
  (case side2 => exact z16_5)
  (case side3 => repeat (first | exact (Kd.R_reads' HO362.out).2.2 | (with_reducible refine Kd.C_alloc ?_ _) | (with_reducible refine Kd.C_drewN ?_ _) | (with_reducible refine Kd.C_drew ?_)))
  (case side4 => exact (Kd.R_reads' HO362.out).2.1)
  (case side5 => exact far_slice (IsS103.own_ne HI349.out HO362.out (by decide)))
  rintro e w17 ⟨rfl, hi, hb, hk⟩
  refine ⟨_, rfl, ?_⟩
  replace BK345 := Aside0.mk (KeepBut.blk hk (g' := gb345) (o := .cells #[.int .i64 0, .int .i64 0, .string (⟨#[]⟩ : ByteArray)] 28 (0, 0)) (bd16_ BK345.out) NB345_349.out (by simp)); replace HO356 := Aside0.mk (Kd.R_mono (Kd.R_keep (IsS103.apart (show IsS103 w _ g349 t346 t357 t358 from by repeat (first | (with_reducible first | exact HI349.out | apply IsS103.alloc | apply IsS103.drewN | apply IsS103.drew | apply IsS103.set_1 | apply IsS103.set_2 | refine IsS103.far ?_ NB349_345.out _ | refine IsS103.far ?_ NB349_359.out _) | exact HI349.out)) (kd16_ HO356.out) (by decide)) hk (fun _ h => h.2)) (fun _ h => h.1))
  replace BK359 := Aside0.mk (KeepBut.blk hk (g' := gb359) (o := .cells #[.int .i64 t350, .int .i64 t351, .string t352] 28 (0, 0)) (bd16_ BK359.out) NB359_349.out (by simp)); replace HO362 := Aside0.mk (Kd.R_mono (Kd.R_keep (IsS103.apart (show IsS103 w _ g349 t346 t357 t358 from by repeat (first | (with_reducible first | exact HI349.out | apply IsS103.alloc | apply IsS103.drewN | apply IsS103.drew | apply IsS103.set_1 | apply IsS103.set_2 | refine IsS103.far ?_ NB349_345.out _ | refine IsS103.far ?_ NB349_359.out _) | exact HI349.out)) (kd16_ HO362.out) (by decide)) hk (fun _ h => h.2)) (fun _ h => h.1))
  replace HB := Aside0.mk (hb); replace HI349 := Aside0.mk (hi); (try clear hb)
  (try clear hb2)
  (try clear hk)
  (try clear hi)
  refine hK.out _ _ ⟨(blk_cell BK359.out 0).trans rfl, (blk_cell BK359.out 1).trans rfl, (blk_cell BK359.out 2).trans rfl⟩ (fun hHeld => ?_)
  clear hK K; refine norm_ (a' := ?_) ?_ ?_
  rotate_left
  ·show Act.put _ (some 23) _ = _
   simp only [Act.put, pt16_, i64_w, i32_w]; rfl
  refine one_ (i := 6) (N := none) #[true, true, true, true, true, true, true, false, false, false] rfl rfl (one_of HT_.out (by kernel_rfl)) (by decide) (fun K hK => ?_)
  have hs18 : w17.cell? ⟨gb345, 0, none⟩ = some (.int .i64 0) := (blk_cell BK345.out 0).trans rfl; have hfs18 := blk_frozen BK345.out 0; have hns18_1 := NB359_345.out; have hms18_1 := NB345_359.out; have hs19 : w17.cell? ⟨gb345, 1, none⟩ = some (.int .i64 0) := (blk_cell BK345.out 1).trans rfl; have hfs19 := blk_frozen BK345.out 1; have hns19_1 := NB359_345.out; have hms19_1 := NB345_359.out; have hs20 : w17.cell? ⟨gb345, 2, none⟩ = some (.string (⟨#[]⟩ : ByteArray)) := (blk_cell BK345.out 2).trans rfl; have hfs20 := blk_frozen BK345.out 2; have hns20_1 := NB359_345.out; have hms20_1 := NB345_359.out; refine skip_ (w1 := ?_) (by rfl) rfl ?_ ?_
  rotate_left
  ·go_simp; rfl
  refine hK.out _ _ ⟨((cell_far (p := ⟨gb345, _, none⟩) NB359_345.out _).trans (((cell_far (p := ⟨gb345, _, none⟩) NB359_345.out _).trans (((cell_far (p := ⟨gb345, _, none⟩) NB359_345.out _).trans (hHeld.1)))))), ((cell_far (p := ⟨gb345, _, none⟩) NB359_345.out _).trans (((cell_far (p := ⟨gb345, _, none⟩) NB359_345.out _).trans (((cell_far (p := ⟨gb345, _, none⟩) NB359_345.out _).trans (hHeld.2.1)))))), ((cell_far (p := ⟨gb345, _, none⟩) NB359_345.out _).trans (((cell_far (p := ⟨gb345, _, none⟩) NB359_345.out _).trans (((cell_far (p := ⟨gb345, _, none⟩) NB359_345.out _).trans (hHeld.2.2))))))⟩ (fun hHeld => ?_)
  clear hK K; refine pure_ (i := 7) (N := some 3) (v := ?_) (a' := ?_) #[true, true, true, true, true, true, true, true, false, false] rfl rfl (any_of HT_.out (by kernel_rfl)) (fun _ _ _ h => h) (Or.inl ⟨by rfl, ?_⟩) ?_ ?_
  rotate_left
  ·intro w'
   go_simp; with_reducible rfl
  rotate_left
  ·simp only [Act.put, pt16_, i64_w, i32_w]; rfl
  refine pure_ (i := 8) (N := some 4) (v := ?_) (a' := ?_) #[true, true, true, true, true, true, true, true, true, false] rfl rfl (any_of HT_.out (by kernel_rfl)) (fun _ _ _ h => h) (Or.inl ⟨by rfl, ?_⟩) ?_ ?_
  rotate_left
  ·intro w'
   go_simp; with_reducible rfl
  rotate_left
  ·simp only [Act.put, pt16_, i64_w, i32_w]; rfl
  refine pure_ (i := 9) (N := some 5) (v := ?_) (a' := ?_) #[true, true, true, true, true, true, true, true, true, true] rfl rfl (any_of HT_.out (by kernel_rfl)) (fun _ _ _ h => h) (Or.inl ⟨by rfl, ?_⟩) ?_ ?_
  rotate_left
  ·intro w'
   go_simp; with_reducible rfl
  rotate_left
  ·simp only [Act.put, pt16_, i64_w, i32_w]; rfl
  refine done_ (done_of HT_.out (by kernel_rfl)) ?_
  try go_wp2
  refine bodyPost_ret (results_list (rs := [.cell 2 28, .tmp 3, .tmp 4, .tmp 5]) rfl (by simp) (.cell gb345 28 #[.int .i64 t350, .int .i64 t351, .string t352] (0, 0) _ rfl (by (with_reducible repeat (first | refine blk_drewN ?_ _ | refine blk_drew ?_ | refine blk_alloc ?_ _)); refine blk_put (cs := #[.int .i64 t350, .int .i64 t351, .string (⟨#[]⟩ : ByteArray)]) ?_ 2 _ rfl; (with_reducible repeat (first | refine blk_drewN ?_ _ | refine blk_drew ?_ | refine blk_alloc ?_ _)); refine blk_put (cs := #[.int .i64 t350, .int .i64 0, .string (⟨#[]⟩ : ByteArray)]) ?_ 1 _ rfl; (with_reducible repeat (first | refine blk_drewN ?_ _ | refine blk_drew ?_ | refine blk_alloc ?_ _)); refine blk_put (cs := #[.int .i64 0, .int .i64 0, .string (⟨#[]⟩ : ByteArray)]) ?_ 0 _ rfl; (with_reducible repeat (first | refine blk_drewN ?_ _ | refine blk_drew ?_ | refine blk_alloc ?_ _)); exact BK345.out) Try.underlying28 rfl (by kernel_rfl) (.tmp (.tmp (.tmp .nil))))) rfl ?_
  exact ⟨_, by first | rfl | (simp [errW_none, errW_some] <;> rfl) | (simp [*, errW_none, errW_some] <;> rfl), by (with_reducible repeat (first | apply Kd.R_alloc | apply Kd.R_drewN | apply Kd.R_drew)); exact Kd.R_mono (Kd.R_far (p := ⟨gb345, 2, none⟩) (Kd.R_far (p := ⟨gb345, 1, none⟩) (Kd.R_far (p := ⟨gb345, 0, none⟩) (Kd.R_types HO356.out BK345.out (by decide)) (fun _ hk => hk.2) (.int .i64 t350)) (fun _ hk => hk.2) (.int .i64 t351)) (fun _ hk => hk.2) (.string t352)) (fun _ hk => trivial), z16_5⟩

-- NOT PRINTED: function 57 (impl_those)

end Go.Proofs.Ytodcckiphdnjeaa.QFnFilled
