-- Written by a changed copy of the kit's printer (wip/mp.py of this repo), for this claim; Lean checks it.
import Derived.Test.YtodcckiphdnjeaaQFnFilledx0
import Derived.Test.YtodcckiphdnjeaaQFnFilledx2
import Derived.Test.YtodcckiphdnjeaaQFnFilledx3
namespace Go.Proofs.Ytodcckiphdnjeaa.QFnFilled
open Go.RowKit Go.Proofs.YtodcckiphdnjeaaW.PrintWords Go.Proofs.YtodcckiphdnjeaaW.PrintLast Go.Proofs.YtodcckiphdnjeaaW.PrintMore
attribute [local go_sem] max2_int min2_int max_two min_two max_three min_three max_four min_four   -- for this text's walks alone
set_option linter.unusedVariables false
set_option linter.unusedSimpArgs false

theorem bc3_4_ {W : World} {g : Nat} {v0 v1 v2 : Value} {t : TypeId} (h : W.heap[g]? = some (.cells #[v0, v1, v2] t (0, 0))) : W.cell? ⟨g, 0, none⟩ = some v0 ∧ W.cell? ⟨g, 1, none⟩ = some v1 ∧ W.cell? ⟨g, 2, none⟩ = some v2 ∧ W.frozen? ⟨g, 0, none⟩ = false ∧ W.frozen? ⟨g, 1, none⟩ = false ∧ W.frozen? ⟨g, 2, none⟩ = false := ⟨(blk_cell h 0).trans rfl, (blk_cell h 1).trans rfl, (blk_cell h 2).trans rfl, blk_frozen h 0, blk_frozen h 1, blk_frozen h 2⟩
theorem bc4_4_ {W : World} {g : Nat} {v0 v1 v2 v3 : Value} {t : TypeId} (h : W.heap[g]? = some (.cells #[v0, v1, v2, v3] t (0, 0))) : W.cell? ⟨g, 0, none⟩ = some v0 ∧ W.cell? ⟨g, 1, none⟩ = some v1 ∧ W.cell? ⟨g, 2, none⟩ = some v2 ∧ W.cell? ⟨g, 3, none⟩ = some v3 ∧ W.frozen? ⟨g, 0, none⟩ = false ∧ W.frozen? ⟨g, 1, none⟩ = false ∧ W.frozen? ⟨g, 2, none⟩ = false ∧ W.frozen? ⟨g, 3, none⟩ = false := ⟨(blk_cell h 0).trans rfl, (blk_cell h 1).trans rfl, (blk_cell h 2).trans rfl, (blk_cell h 3).trans rfl, blk_frozen h 0, blk_frozen h 1, blk_frozen h 2, blk_frozen h 3⟩
theorem bd4_ {p q : Prop} (h0 : q) (h : q → p := by intro h_; (with_reducible repeat (first | refine blk_drewN ?_ _ | refine blk_drew ?_ | refine blk_alloc ?_ _)); exact h_) : p := h h0
theorem kd4_ {p q : Prop} (h0 : q) (h : q → p := by intro h_; (with_reducible repeat (first | apply Kd.R_alloc | apply Kd.R_drewN | apply Kd.R_drew)); exact h_) : p := h h0
theorem z4_0 {p : Prop} (h : p := by repeat (first | (with_reducible first | exact HB.out | apply below_alloc | apply pw_below_drewN | apply below_drew1 | refine below_set ?_ GE108.out) | exact HB.out)) : p := h
theorem z4_1 {p : Prop} (h : p := by repeat (first | (with_reducible first | exact HB.out | apply below_alloc | apply pw_below_drewN | apply below_drew1) | exact HB.out)) : p := h
theorem z4_2 {p : Prop} (h : p := by repeat (first | (with_reducible first | exact HB.out | apply below_alloc | apply pw_below_drewN | apply below_drew1 | refine below_set ?_ GE121.out | refine below_set ?_ GE122.out) | exact HB.out)) : p := h
theorem z4_3 {p : Prop} (h : p := by repeat (first | (with_reducible first | exact HB.out | apply below_alloc | apply pw_below_drewN | apply below_drew1 | refine below_set ?_ GE126.out) | exact HB.out)) : p := h
theorem z4_4 {p : Prop} (h : p := by (with_reducible repeat (first | refine blk_drewN ?_ _ | refine blk_drew ?_ | refine blk_alloc ?_ _)); exact BK108.out) : p := h
theorem z4_5 {p : Prop} (h : p := by first | rfl | (simp; done) | (simp [*]; done)) : p := h
theorem z4_6 {p : Prop} (h : p := by repeat (first | (with_reducible first | exact HB.out | apply below_alloc | apply pw_below_drewN | apply below_drew1 | refine below_set ?_ GE126.out | refine below_set ?_ GE131.out) | exact HB.out)) : p := h
theorem z4_7 {p : Prop} (h : p := by (try simp only [List.map_toArray, List.map_cons, List.map_nil]); first | done | rfl | (simp only [List.length_drop, List.length_take]; rfl)) : p := h
theorem z4_8 {p : Prop} (h : p := by (with_reducible repeat (first | apply Kd.R_alloc | apply Kd.R_drewN | apply Kd.R_drew)); exact HO_3.out) : p := h
theorem pt4_ : (∀ (l : List Value) (i : Nat) (x : Value), l.toArray.setIfInBounds i x = (l.set i x).toArray) ∧ (∀ (a : Value) (l : List Value) (x : Value), (a :: l).set 0 x = x :: l) ∧ (∀ (a : Value) (l : List Value) (i : Nat) (x : Value), (a :: l).set (i + 1) x = a :: l.set i x) := ⟨fun _ _ _ => List.setIfInBounds_toArray .., fun _ _ _ => rfl, fun _ _ _ _ => rfl⟩
/-! ### impl_SlotsOf: function 26 -/
mutual
def impl_SlotsOf.l0 : Nat → List (S65) → Int → Int → Int → Int → Int → ByteArray → Option ((List (S65)))
  | 0, _, _, _, _, _, _, _ => none
  | k + 1, x3, x4, x13, x14, x109000, x109001, x109002 => if x14 < x13 then ((impl_run.f k x109000 x109001 x109002 x14 false).bind fun t110 => ((impl_run.f k x109000 x109001 x109002 x14 true).bind fun t111 => (if t110 ≥ 2 then (impl_SlotsOf.j1 k x3 x4 x14 t110 t111 x13 x14 true x109000 x109001 x109002) else (impl_SlotsOf.j1 k x3 x4 x14 t110 t111 x13 x14 (decide (t111 ≥ 2)) x109000 x109001 x109002)))) else (some x3)
def impl_SlotsOf.j1 : Nat → List (S65) → Int → Int → Int → Int → Int → Int → Bool → Int → Int → ByteArray → Option ((List (S65)))
  | 0, _, _, _, _, _, _, _, _, _, _, _ => none
  | k + 1, x3, x4, x5, x6, x7, x13, x14, x28, x109000, x109001, x109002 => if x28 = true then (impl_SlotsOf.j2 k x3 (wrap64 (x4 + 1)) x5 x6 x7 x13 x14 x109000 x109001 x109002) else (impl_SlotsOf.j2 k x3 x4 x5 x6 x7 x13 x14 x109000 x109001 x109002)
def impl_SlotsOf.j2 : Nat → List (S65) → Int → Int → Int → Int → Int → Int → Int → Int → ByteArray → Option ((List (S65)))
  | 0, _, _, _, _, _, _, _, _, _, _ => none
  | k + 1, x3, x4, x5, x6, x7, x13, x14, x109000, x109001, x109002 => if x6 ≥ 2 then (if x3.length < 4398046511104 then ((some (x3 ++ [(⟨x4, false, x5, x6⟩ : S65)] : List (S65))).bind fun y112 => (if x7 ≥ 2 then (if y112.length < 4398046511104 then (impl_SlotsOf.l0 k (y112 ++ [(⟨x4, true, x5, x7⟩ : S65)]) x4 x13 (wrap64 (x14 + 1)) x109000 x109001 x109002) else (none)) else (impl_SlotsOf.l0 k y112 x4 x13 (wrap64 (x14 + 1)) x109000 x109001 x109002))) else (none)) else (if x7 ≥ 2 then (if x3.length < 4398046511104 then (impl_SlotsOf.l0 k (x3 ++ [(⟨x4, true, x5, x7⟩ : S65)]) x4 x13 (wrap64 (x14 + 1)) x109000 x109001 x109002) else (none)) else (impl_SlotsOf.l0 k x3 x4 x13 (wrap64 (x14 + 1)) x109000 x109001 x109002))
end
def impl_SlotsOf.f (k : Nat) (a0_0 : Int) (a0_1 : Int) (a0_2 : ByteArray) : Option ((List (S65))) := (impl_IsGrid.f k a0_0 a0_1 a0_2).bind fun t109 => (if t109 = true then (impl_SlotsOf.l0 k ([] : List (S65)) 0 (a0_2.size : Int) 0 a0_0 a0_1 a0_2) else (some ([] : List (S65))))
theorem impl_SlotsOf.mono_l : ∀ k, (∀ y0 y1 y2 y3 y4 y5 y6, LeO (impl_SlotsOf.l0 k y0 y1 y2 y3 y4 y5 y6) (impl_SlotsOf.l0 (k + 1) y0 y1 y2 y3 y4 y5 y6)) ∧ (∀ y0 y1 y2 y3 y4 y5 y6 y7 y8 y9 y10, LeO (impl_SlotsOf.j1 k y0 y1 y2 y3 y4 y5 y6 y7 y8 y9 y10) (impl_SlotsOf.j1 (k + 1) y0 y1 y2 y3 y4 y5 y6 y7 y8 y9 y10)) ∧ (∀ y0 y1 y2 y3 y4 y5 y6 y7 y8 y9, LeO (impl_SlotsOf.j2 k y0 y1 y2 y3 y4 y5 y6 y7 y8 y9) (impl_SlotsOf.j2 (k + 1) y0 y1 y2 y3 y4 y5 y6 y7 y8 y9))
  | 0 => ⟨fun _ _ _ _ _ _ _ r h => by simp [impl_SlotsOf.l0] at h, fun _ _ _ _ _ _ _ _ _ _ _ r h => by simp [impl_SlotsOf.j1] at h, fun _ _ _ _ _ _ _ _ _ _ r h => by simp [impl_SlotsOf.j2] at h⟩
  | k + 1 => by
   obtain ⟨ih0, ih1, ih2⟩ := impl_SlotsOf.mono_l k; refine ⟨?_, ?_, ?_⟩
   ·intro y0 y1 y2 y3 y4 y5 y6
    unfold impl_SlotsOf.l0
    with_reducible repeat' first
    | exact ih0 _ _ _ _ _ _ _
    | exact ih1 _ _ _ _ _ _ _ _ _ _ _
    | exact ih2 _ _ _ _ _ _ _ _ _ _
    | exact impl_IsGrid.mono _ _ _ _
    | exact impl_run.mono _ _ _ _ _ _
    | exact LeO.refl _
    | exact LeO.none _
    | refine LeO.ite ?_ ?_
    | refine LeO.bind ?_ (fun _ => ?_)
   ·intro y0 y1 y2 y3 y4 y5 y6 y7 y8 y9 y10
    unfold impl_SlotsOf.j1
    with_reducible repeat' first
    | exact ih0 _ _ _ _ _ _ _
    | exact ih1 _ _ _ _ _ _ _ _ _ _ _
    | exact ih2 _ _ _ _ _ _ _ _ _ _
    | exact impl_IsGrid.mono _ _ _ _
    | exact impl_run.mono _ _ _ _ _ _
    | exact LeO.refl _
    | exact LeO.none _
    | refine LeO.ite ?_ ?_
    | refine LeO.bind ?_ (fun _ => ?_)
   ·intro y0 y1 y2 y3 y4 y5 y6 y7 y8 y9
    unfold impl_SlotsOf.j2
    with_reducible repeat' first
    | exact ih0 _ _ _ _ _ _ _
    | exact ih1 _ _ _ _ _ _ _ _ _ _ _
    | exact ih2 _ _ _ _ _ _ _ _ _ _
    | exact impl_IsGrid.mono _ _ _ _
    | exact impl_run.mono _ _ _ _ _ _
    | exact LeO.refl _
    | exact LeO.none _
    | refine LeO.ite ?_ ?_
    | refine LeO.bind ?_ (fun _ => ?_)
theorem impl_SlotsOf.mono : ∀ a0 a1 a2 k, LeO (impl_SlotsOf.f k a0 a1 a2) (impl_SlotsOf.f (k + 1) a0 a1 a2) := by
  intro a0 a1 a2 k
  obtain ⟨ih0, ih1, ih2⟩ := impl_SlotsOf.mono_l k; unfold impl_SlotsOf.f
  with_reducible repeat' first
  | exact ih0 _ _ _ _ _ _ _
  | exact ih1 _ _ _ _ _ _ _ _ _ _ _
  | exact ih2 _ _ _ _ _ _ _ _ _ _
  | exact impl_IsGrid.mono _ _ _ _
  | exact impl_run.mono _ _ _ _ _ _
  | exact LeO.refl _
  | exact LeO.none _
  | refine LeO.ite ?_ ?_
  | refine LeO.bind ?_ (fun _ => ?_)
def impl_SlotsOf.T8 : Bool × List (List Nat × List Nat) := (true, [([], []), ([], []), ([0, 1], [0, 1]), ([], []), ([], []), ([3, 4, 2], [3, 4]), ([2, 5, 0, 1, 2], [2]), ([5, 6, 0, 1, 2, 3, 4, 5, 6], [5])])
def impl_SlotsOf.B8 : List Nat := [0, 0, 3, 0, 0, 31, 63, 127]
theorem impl_SlotsOf.tab8 : rtab .any (opsOf Try.f26 8) = impl_SlotsOf.T8 := by kernel_rfl
theorem impl_SlotsOf.bits8 : waitsOk impl_SlotsOf.T8.2 impl_SlotsOf.B8 = true := by kernel_rfl
set_option maxHeartbeats 8000000 in
set_option maxRecDepth 100000 in
theorem impl_SlotsOf.calls (k : Nat) (a0_0 : Int) (a0_1 : Int) (a0_2 : ByteArray) (r : List (S65)) (w : World) (h : impl_SlotsOf.f k a0_0 a0_1 a0_2 = some r) :
   Calls Try.prog 26 #[.agg #[.int .i64 a0_0, .int .i64 a0_1, .string a0_2]] w fun e w' => ∃ v0_ : Value, e = .returned (v0_) ∧ Kd.R k65 65 w' w.heap.size (fun _ => True) v0_ r ∧ Below w.heap.size w w' := by
  have hu28 := Try.underlying28; have hu65 := Try.underlying65; have HB := Aside0.mk (Below.refl w.heap.size w); have H : ((impl_IsGrid.f k a0_0 a0_1 a0_2).bind fun t109 => (if t109 = true then (impl_SlotsOf.l0 k ([] : List (S65)) 0 (a0_2.size : Int) 0 a0_0 a0_1 a0_2) else (some ([] : List (S65))))) = some r := h; clear h; replace H := Option.bind_eq_some_iff.mp H; obtain ⟨t109, A20, H⟩ := H; try dsimp only at H
  have A2 := Aside0.mk A20; clear A20; by_cases c3 : t109 = true
  ·subst c3; rw [if_pos rfl] at H
   have H' := Aside0.mk H
   clear H; go_enter Try.func26, Try.ntmps26
   go_wp2_with (first | ((with_reducible refine gate_dst (N := 1) rfl ?_); refine box_event ?hg (N := 1) ?hd (cs := #[.int .i64 a0_0, .int .i64 a0_1, .string a0_2]) (t := 28) ?hr ?_; (case hd => rfl); (case hg => rfl); (case hr => first | (go_simp; done) | (go_simp; rfl)); intro gb108 hg w4 hbox hb; have BK108 := Aside0.mk (hbox); have GW108 := Aside0.mk ((by rw [hg]; exact (below_size z4_1) : w.heap.size ≤ gb108)); have GE108 := Aside0.mk ((by rw [hg]; exact (below_size z4_1) : w.heap.size ≤ gb108)); replace HB := Aside0.mk (below_step z4_1 hb); clear hb hbox hg; obtain ⟨hcz5_0, hcz5_1, hcz5_2, hfz5_0, hfz5_1, hfz5_2⟩ := bc3_4_ BK108.out) | ((with_reducible refine gate_callee (f := 61) rfl ?_); refine goesL_ (some 9) rfl rfl Try.func61 (by kernel_rfl) rfl #[.agg #[.int .i64 a0_0, .int .i64 a0_1, .string a0_2]] rfl z4_7 ?_; (with_reducible refine (impl_IsGrid.calls k a0_0 a0_1 a0_2 true _ A2.out).mono ?_); rintro e w6 ⟨rfl, hb⟩; refine ⟨_, rfl, ?_⟩; replace BK108 := Aside0.mk (blk_below (g := gb108) (o := .cells #[.int .i64 a0_0, .int .i64 a0_1, .string a0_2] 28 (0, 0)) (bd4_ BK108.out) hb); replace HB := Aside0.mk (below_step z4_0 hb); (try clear hb); obtain ⟨hcz7_0, hcz7_1, hcz7_2, hfz7_0, hfz7_1, hfz7_2⟩ := bc3_4_ BK108.out))
   go_loopg [3, 4, 14] k (fun kq v3 v4 v14 w' => ∃ (x3_1 : List (S65)) (x4_1 : Int) (x14_1 : Int), v4 = .int .i64 x4_1 ∧ v14 = .int .i64 x14_1 ∧ Aside0 (impl_SlotsOf.l0 kq x3_1 x4_1 (a0_2.size : Int) x14_1 a0_0 a0_1 a0_2 = some r) ∧ Aside0 (kq ≤ k) ∧ Aside0 (Kd.R k65 65 w' w.heap.size (fun _ => True) v3 x3_1) ∧ Aside0 (w'.heap[gb108]? = some (.cells #[.int .i64 a0_0, .int .i64 a0_1, .string a0_2] 28 (0, 0))) ∧ Aside0 (Below w.heap.size w w'))
   case atStart => exact ⟨(([] : List (S65))), (0), (0), z4_5, z4_5, H', ⟨Nat.le_refl _⟩, ⟨by first | exact Kd.R_nil _ _ _ _ _ | exact Kd.N_nil _ _ _ _ _ | exact Kd.V_nil _ _ _ _ _ | exact Kd.Q_nil _ _ _ _ _ | exact Kd.S_nil _ _ _ _ _⟩, ⟨z4_4⟩, ⟨z4_0⟩⟩
   case round =>
    clear H'; try clear c2
    try clear p2
    try clear c3
    try clear c6
    try clear hcz5_0
    try clear hcz5_1
    try clear hcz5_2
    try clear hcz7_0
    try clear hcz7_1
    try clear hcz7_2
    try clear hfz5_0
    try clear hfz5_1
    try clear hfz5_2
    try clear hfz7_0
    try clear hfz7_1
    try clear hfz7_2
    obtain ⟨x3_1, x4_1, x14_1, rfl, rfl, HA, HK1, HO_3, BK108, HB⟩ := hrel
    cases gk with
    | zero => exact absurd HA.out (by simp [impl_SlotsOf.l0])
    | succ k1 =>
     have H := HA.out; clear HA; simp only [impl_SlotsOf.l0] at H; by_cases c8 : x14_1 < (a0_2.size : Int)
     ·rw [if_pos c8] at H
      have c8b0 : decide (x14_1 < (a0_2.size : Int)) = true := decide_eq_true c8; clear c8; replace H := Option.bind_eq_some_iff.mp H; obtain ⟨t110, A90, H⟩ := H; try dsimp only at H
      have A9 := Aside0.mk A90; clear A90; replace H := Option.bind_eq_some_iff.mp H; obtain ⟨t111, A100, H⟩ := H; try dsimp only at H
      have A10 := Aside0.mk A100; clear A100; have HC11 := Aside0.mk H; clear H; try go_wp2
      replace HO_3 := Aside0.mk (Kd.R_drew HO_3.out); replace BK108 := Aside0.mk (blk_drew BK108.out); replace HB := Aside0.mk (below_drew1 HB.out); refine start_ (n := 8) (S := fun w' => w'.cell? ⟨gb108, 0, none⟩ = some (.int .i64 a0_0) ∧ w'.cell? ⟨gb108, 1, none⟩ = some (.int .i64 a0_1) ∧ w'.cell? ⟨gb108, 2, none⟩ = some (.string a0_2)) (ds := []) #[false, false, false, false, false, false, false, false] (by kernel_rfl) rfl rfl ⟨(blk_cell BK108.out 0).trans rfl, (blk_cell BK108.out 1).trans rfl, (blk_cell BK108.out 2).trans rfl⟩ (fun hHeld => ?_); refine with_tabW impl_SlotsOf.tab8 impl_SlotsOf.bits8 (fun HT_ HW_ => ?_)
      generalize wr.drew = w12 at HO_3 BK108 HB hHeld ⊢
      refine pure_ (i := 1) (N := some 18) (v := ?_) (a' := ?_) #[false, true, false, false, false, false, false, false] rfl rfl (any_of HT_.out (by kernel_rfl)) (fun _ _ _ h => h) (Or.inl ⟨by rfl, ?_⟩) ?_ ?_
      rotate_left
      ·intro w'
       go_simp; with_reducible rfl
      rotate_left
      ·simp only [Act.put, pt4_, i64_w, i32_w]; rfl
      refine pure_ (i := 4) (N := some 21) (v := ?_) (a' := ?_) #[false, true, false, false, true, false, false, false] rfl rfl (any_of HT_.out (by kernel_rfl)) (fun _ _ _ h => h) (Or.inl ⟨by rfl, ?_⟩) ?_ ?_
      rotate_left
      ·intro w'
       go_simp; with_reducible rfl
      rotate_left
      ·simp only [Act.put, pt4_, i64_w, i32_w]; rfl
      refine take_ (i := 0) (N := some 17) (v := ?_) (a' := ?_) #[true, true, false, false, true, false, false, false] rfl rfl (take_ofW HT_.out HW_.out (by kernel_rfl)) (fun _ _ _ h => h) (Or.inl ⟨by rfl, ?_⟩) hHeld ?_ ?_
      rotate_left
      ·rintro w' ⟨s0, s1, s2⟩
       go_simp; with_reducible rfl
      rotate_left
      ·simp only [Act.put, pt4_, i64_w, i32_w]; rfl
      refine take_ (i := 3) (N := some 20) (v := ?_) (a' := ?_) #[true, true, false, true, true, false, false, false] rfl rfl (take_ofW HT_.out HW_.out (by kernel_rfl)) (fun _ _ _ h => h) (Or.inl ⟨by rfl, ?_⟩) hHeld ?_ ?_
      rotate_left
      ·rintro w' ⟨s0, s1, s2⟩
       go_simp; with_reducible rfl
      rotate_left
      ·simp only [Act.put, pt4_, i64_w, i32_w]; rfl
      refine one_ (i := 2) (N := some 19) #[true, true, true, true, true, false, false, false] rfl rfl (one_of HT_.out (by kernel_rfl)) (by decide) (fun K hK => ?_)
      refine goes_ Try.func62 (by kernel_rfl) rfl #[.agg #[.int .i64 a0_0, .int .i64 a0_1, .string a0_2], .int .i64 x14_1, .bool false] (by rfl) rfl rfl z4_7 ?_
      with_reducible refine (impl_run.calls k1 a0_0 a0_1 a0_2 x14_1 false t110 _ A9.out).mono ?_
      rintro e w13 ⟨rfl, hb⟩
      refine ⟨_, rfl, ?_⟩
      replace HO_3 := Aside0.mk (Kd.R_below (kd4_ HO_3.out) hb); replace BK108 := Aside0.mk (blk_below (g := gb108) (o := .cells #[.int .i64 a0_0, .int .i64 a0_1, .string a0_2] 28 (0, 0)) (bd4_ BK108.out) hb); replace HB := Aside0.mk (below_step z4_0 hb); (try clear hb)
      (try clear hb2)
      (try clear hk)
      (try clear hi)
      refine hK.out _ _ ⟨(blk_cell BK108.out 0).trans rfl, (blk_cell BK108.out 1).trans rfl, (blk_cell BK108.out 2).trans rfl⟩ (fun hHeld => ?_)
      clear hK K; refine norm_ (a' := ?_) ?_ ?_
      rotate_left
      ·show Act.put _ (some 19) _ = _
       simp only [Act.put, pt4_, i64_w, i32_w]; rfl
      refine one_ (i := 5) (N := some 22) #[true, true, true, true, true, true, false, false] rfl rfl (one_of HT_.out (by kernel_rfl)) (by decide) (fun K hK => ?_)
      refine goes_ Try.func62 (by kernel_rfl) rfl #[.agg #[.int .i64 a0_0, .int .i64 a0_1, .string a0_2], .int .i64 x14_1, .bool true] (by rfl) rfl rfl z4_7 ?_
      with_reducible refine (impl_run.calls k1 a0_0 a0_1 a0_2 x14_1 true t111 _ A10.out).mono ?_
      rintro e w14 ⟨rfl, hb⟩
      refine ⟨_, rfl, ?_⟩
      replace HO_3 := Aside0.mk (Kd.R_below (kd4_ HO_3.out) hb); replace BK108 := Aside0.mk (blk_below (g := gb108) (o := .cells #[.int .i64 a0_0, .int .i64 a0_1, .string a0_2] 28 (0, 0)) (bd4_ BK108.out) hb); replace HB := Aside0.mk (below_step z4_0 hb); (try clear hb)
      (try clear hb2)
      (try clear hk)
      (try clear hi)
      refine hK.out _ _ ⟨(blk_cell BK108.out 0).trans rfl, (blk_cell BK108.out 1).trans rfl, (blk_cell BK108.out 2).trans rfl⟩ (fun hHeld => ?_)
      clear hK K; refine norm_ (a' := ?_) ?_ ?_
      rotate_left
      ·show Act.put _ (some 22) _ = _
       simp only [Act.put, pt4_, i64_w, i32_w]; rfl
      refine pure_ (i := 6) (N := some 6) (v := ?_) (a' := ?_) #[true, true, true, true, true, true, true, false] rfl rfl (any_of HT_.out (by kernel_rfl)) (fun _ _ _ h => h) (Or.inl ⟨by rfl, ?_⟩) ?_ ?_
      rotate_left
      ·intro w'
       go_simp; with_reducible rfl
      rotate_left
      ·simp only [Act.put, pt4_, i64_w, i32_w]; rfl
      refine pure_ (i := 7) (N := some 7) (v := ?_) (a' := ?_) #[true, true, true, true, true, true, true, true] rfl rfl (any_of HT_.out (by kernel_rfl)) (fun _ _ _ h => h) (Or.inl ⟨by rfl, ?_⟩) ?_ ?_
      rotate_left
      ·intro w'
       go_simp; with_reducible rfl
      rotate_left
      ·simp only [Act.put, pt4_, i64_w, i32_w]; rfl
      refine done_ (done_of HT_.out (by kernel_rfl)) ?_
      go_upto_region 9 with (fail)
      go_cut [28] (fun v28 wc => ∃ (kq : Nat) (x28_10 : Bool), v28 = .bool x28_10 ∧ Aside0 (impl_SlotsOf.j1 kq x3_1 x4_1 x14_1 t110 t111 (a0_2.size : Int) x14_1 x28_10 a0_0 a0_1 a0_2 = some r) ∧ Aside0 (kq ≤ k1) ∧ Aside0 (Kd.R k65 65 wc w.heap.size (fun _ => True) u3 x3_1) ∧ Aside0 (wc.heap[gb108]? = some (.cells #[.int .i64 a0_0, .int .i64 a0_1, .string a0_2] 28 (0, 0))) ∧ Aside0 (Below w.heap.size w wc))
      case first =>
       have H := HC11.out; clear HC11; by_cases c15 : t110 ≥ 2
       ·rw [if_pos c15] at H
        have c15b0 : decide (2 ≤ t110) = true := decide_eq_true c15; clear c15; (first | rw [c15b0] | (simp only [i64_w, i32_w]; rw [c15b0]) | skip)
        have H' := Aside0.mk H
        clear H; go_wp2
        go_meet
        case rel => exact ⟨_, (true), z4_5, H', ⟨by have := HK1.out; first | omega | exact Nat.le_refl _⟩, ⟨z4_8⟩, ⟨z4_4⟩, ⟨z4_0⟩⟩
       ·rw [if_neg c15] at H
        have c15b0 : decide (2 ≤ t110) = false := decide_eq_false c15; clear c15; (first | rw [c15b0] | (simp only [i64_w, i32_w]; rw [c15b0]) | skip)
        have H' := Aside0.mk H
        clear H; go_wp2
        go_meet
        case rel => exact ⟨_, (decide (t111 ≥ 2)), z4_5, H', ⟨by have := HK1.out; first | omega | exact Nat.le_refl _⟩, ⟨z4_8⟩, ⟨z4_4⟩, ⟨z4_0⟩⟩
      case rest =>
       clear HC11; try clear c1
       try clear c2
       try clear p2
       try clear c3
       try clear c6
       try clear c8
       try clear c8b0
       try clear c15
       try clear c15b0
       try clear hcz5_0
       try clear hcz5_1
       try clear hcz5_2
       try clear hcz7_0
       try clear hcz7_1
       try clear hcz7_2
       try clear hfz5_0
       try clear hfz5_1
       try clear hfz5_2
       try clear hfz7_0
       try clear hfz7_1
       try clear hfz7_2
       try clear p2
       obtain ⟨kq, x28_10, rfl, HA, HJ10, HO_3, BK108, HB⟩ := hcut
       cases kq with
       | zero => exact absurd HA.out (by simp [impl_SlotsOf.j1])
       | succ kj10 =>
        have H := HA.out; clear HA; simp only [impl_SlotsOf.j1] at H; have HC16 := Aside0.mk H; clear H; go_upto_if 28 with (fail)
        go_cut [4] (fun v4 wc => ∃ (kq : Nat) (x4_15 : Int), v4 = .int .i64 x4_15 ∧ Aside0 (impl_SlotsOf.j2 kq x3_1 x4_15 x14_1 t110 t111 (a0_2.size : Int) x14_1 a0_0 a0_1 a0_2 = some r) ∧ Aside0 (kq ≤ kj10) ∧ Aside0 (Kd.R k65 65 wc w.heap.size (fun _ => True) u3 x3_1) ∧ Aside0 (wc.heap[gb108]? = some (.cells #[.int .i64 a0_0, .int .i64 a0_1, .string a0_2] 28 (0, 0))) ∧ Aside0 (Below w.heap.size w wc))
        case first =>
         have H := HC16.out; clear HC16; by_cases c17 : x28_10 = true
         ·subst c17; rw [if_pos rfl] at H
          have H' := Aside0.mk H
          clear H; go_wp2
          go_meet
          case rel => exact ⟨_, (wrap64 (x4_1 + 1)), z4_5, H', ⟨by have := HK1.out; have := HJ10.out; first | omega | exact Nat.le_refl _⟩, ⟨z4_8⟩, ⟨z4_4⟩, ⟨z4_0⟩⟩
         ·replace c17 := Bool.eq_false_iff.mpr c17; subst c17; rw [if_neg (show ¬ (false = true) by decide)] at H
          have H' := Aside0.mk H
          clear H; go_wp2
          go_meet
          case rel => exact ⟨_, (x4_1), z4_5, H', ⟨by have := HK1.out; have := HJ10.out; first | omega | exact Nat.le_refl _⟩, ⟨z4_8⟩, ⟨z4_4⟩, ⟨z4_0⟩⟩
        case rest =>
         clear HC16; try clear c1
         try clear c2
         try clear p2
         try clear c3
         try clear c6
         try clear p6
         try clear c8
         try clear c8b0
         try clear c15
         try clear c15b0
         try clear c17
         try clear hcz5_0
         try clear hcz5_1
         try clear hcz5_2
         try clear hcz7_0
         try clear hcz7_1
         try clear hcz7_2
         try clear hfz5_0
         try clear hfz5_1
         try clear hfz5_2
         try clear hfz7_0
         try clear hfz7_1
         try clear hfz7_2
         try clear p2
         obtain ⟨kq, x4_15, rfl, HA, HJ15, HO_3, BK108, HB⟩ := hcut
         cases kq with
         | zero => exact absurd HA.out (by simp [impl_SlotsOf.j2])
         | succ kj15 =>
          have H := HA.out; clear HA; simp only [impl_SlotsOf.j2] at H; by_cases c18 : t110 ≥ 2
          ·rw [if_pos c18] at H
           have c18b0 : decide (2 ≤ t110) = true := decide_eq_true c18; clear c18; by_cases c19 : x3_1.length < 4398046511104
           ·rw [if_pos c19] at H
            have LMc19 := Aside0.mk c19; clear c19; obtain ⟨y112, hy112⟩ : ∃ y_ : List (S65), y_ = (x3_1 ++ [(⟨x4_15, false, x14_1, t110⟩ : S65)]) := ⟨_, rfl⟩; replace H : (if t111 ≥ 2 then (if y112.length < 4398046511104 then (impl_SlotsOf.l0 kj15 (y112 ++ [(⟨x4_15, true, x14_1, t111⟩ : S65)]) x4_15 (a0_2.size : Int) (wrap64 (x14_1 + 1)) a0_0 a0_1 a0_2) else (none)) else (impl_SlotsOf.l0 kj15 y112 x4_15 (a0_2.size : Int) (wrap64 (x14_1 + 1)) a0_0 a0_1 a0_2)) = some r := by first | (rw [hy112]; with_reducible exact H) | (have H2_ := (Option.bind_some _ _).symm.trans H; rw [hy112]; with_reducible exact H2_) | (have H2_ := (Option.bind_some _ _).symm.trans H; with_reducible exact H2_) | with_reducible exact H | (rw [hy112]; exact H) | exact H
            have Ny112 := Aside0.mk hy112; clear hy112; by_cases c20 : t111 ≥ 2
            ·rw [if_pos c20] at H
             have c20b0 : decide (2 ≤ t111) = true := decide_eq_true c20; clear c20; by_cases c21 : y112.length < 4398046511104
             ·rw [if_pos c21] at H
              have LMc21 := Aside0.mk c21; clear c21; obtain ⟨y115, hy115⟩ : ∃ y_ : List (S65), y_ = (y112 ++ [(⟨x4_15, true, x14_1, t111⟩ : S65)]) := ⟨_, rfl⟩; replace H : (impl_SlotsOf.l0 kj15 y115 x4_15 (a0_2.size : Int) (wrap64 (x14_1 + 1)) a0_0 a0_1 a0_2) = some r := by first | (rw [hy115]; with_reducible exact H) | (have H2_ := (Option.bind_some _ _).symm.trans H; rw [hy115]; with_reducible exact H2_) | (have H2_ := (Option.bind_some _ _).symm.trans H; with_reducible exact H2_) | with_reducible exact H | (rw [hy115]; exact H) | exact H
              have Ny115 := Aside0.mk hy115; clear hy115; have H' := Aside0.mk H
              clear H; go_wp2_with (first | ((with_reducible refine gate_builtin (b := .append) (xs := #[.tmp 33, .tmp 38]) rfl ?_); at_builtin; refine Kd.R_append k65 (w0 := w) w.heap.size rfl (.tmp 33) (.tmp 38) 44 65 (.agg #[(.int .i64 0), (.bool false), (.int .i64 0), (.int .i64 0)]) 32 rfl Try.underlying44 info65 rfl (by decide) (by omega) u3 x3_1 (⟨x4_15, false, x14_1, t110⟩ : S65) [.int .i64 x4_15, .bool false, .int .i64 x14_1, .int .i64 t110] (fun _ => True) (fun _ => False) rfl rfl ?aP (fun _ hk => hk.elim) ?aF ?aO ?aB ?aS ?aL ?_; (case aP => exact k65_mkM _ _ _ (⟨x4_15, false, x14_1, t110⟩ : S65)); (case aB => exact z4_0); (case aF => exact (fun _ _ => trivial)); (case aO => exact (kd4_ HO_3.out)); (case aS => exact (below_size z4_0)); (case aL => have := LMc19.out; omega); intro v113 w22 ho hb hg hat; rw [← Ny112.out] at ho; have n0_ := Aside0.mk (blk_grown (g := gb108) (o := .cells #[.int .i64 a0_0, .int .i64 a0_1, .string a0_2] 28 (0, 0)) (bd4_ BK108.out) hg (Kd.R_ne HO_3.out BK108.out (by decide))); have n1_ := Aside0.mk (hb); have n2_ := Aside0.mk (ho); clear BK108; clear HB; clear HO_3; have BK108 := n0_; have HB := n1_; have HO114 := n2_; clear n0_ n1_ n2_; clear ho hb hg hat) | ((with_reducible refine gate_builtin (b := .append) (xs := #[.tmp 42, .tmp 47]) rfl ?_); at_builtin; refine Kd.R_append k65 (w0 := w) w.heap.size rfl (.tmp 42) (.tmp 47) 44 65 (.agg #[(.int .i64 0), (.bool false), (.int .i64 0), (.int .i64 0)]) 32 rfl Try.underlying44 info65 rfl (by decide) (by omega) v113 y112 (⟨x4_15, true, x14_1, t111⟩ : S65) [.int .i64 x4_15, .bool true, .int .i64 x14_1, .int .i64 t111] (fun _ => True) (fun _ => False) rfl rfl ?aP (fun _ hk => hk.elim) ?aF ?aO ?aB ?aS ?aL ?_; (case aP => exact k65_mkM _ _ _ (⟨x4_15, true, x14_1, t111⟩ : S65)); (case aB => exact z4_0); (case aF => exact (fun _ _ => trivial)); (case aO => exact (kd4_ HO114.out)); (case aS => exact (below_size z4_0)); (case aL => have := LMc21.out; omega); intro v116 w23 ho hb hg hat; rw [← Ny115.out] at ho; have n0_ := Aside0.mk (blk_grown (g := gb108) (o := .cells #[.int .i64 a0_0, .int .i64 a0_1, .string a0_2] 28 (0, 0)) (bd4_ BK108.out) hg (Kd.R_ne HO114.out BK108.out (by decide))); have n1_ := Aside0.mk (hb); have n2_ := Aside0.mk (ho); clear BK108; clear HB; clear HO114; have BK108 := n0_; have HB := n1_; have HO117 := n2_; clear n0_ n1_ n2_; clear ho hb hg hat))
              go_roundg kj15
              case measure => have := HK1.out; have := HJ10.out; have := HJ15.out; omega
              case rel => exact ⟨(y115), (x4_15), (wrap64 (x14_1 + 1)), z4_5, z4_5, H', ⟨by have := HK1.out; have := HJ10.out; have := HJ15.out; omega⟩, ⟨by (with_reducible repeat (first | apply Kd.R_alloc | apply Kd.R_drewN | apply Kd.R_drew)); exact HO117.out⟩, ⟨z4_4⟩, ⟨z4_0⟩⟩
             ·rw [if_neg c21] at H
              exact absurd H (by simp)
            ·rw [if_neg c20] at H
             have c20b0 : decide (2 ≤ t111) = false := decide_eq_false c20; clear c20; have H' := Aside0.mk H
             clear H; go_wp2_with (first | ((with_reducible refine gate_builtin (b := .append) (xs := #[.tmp 33, .tmp 38]) rfl ?_); at_builtin; refine Kd.R_append k65 (w0 := w) w.heap.size rfl (.tmp 33) (.tmp 38) 44 65 (.agg #[(.int .i64 0), (.bool false), (.int .i64 0), (.int .i64 0)]) 32 rfl Try.underlying44 info65 rfl (by decide) (by omega) u3 x3_1 (⟨x4_15, false, x14_1, t110⟩ : S65) [.int .i64 x4_15, .bool false, .int .i64 x14_1, .int .i64 t110] (fun _ => True) (fun _ => False) rfl rfl ?aP (fun _ hk => hk.elim) ?aF ?aO ?aB ?aS ?aL ?_; (case aP => exact k65_mkM _ _ _ (⟨x4_15, false, x14_1, t110⟩ : S65)); (case aB => exact z4_0); (case aF => exact (fun _ _ => trivial)); (case aO => exact (kd4_ HO_3.out)); (case aS => exact (below_size z4_0)); (case aL => have := LMc19.out; omega); intro v113 w24 ho hb hg hat; rw [← Ny112.out] at ho; have n0_ := Aside0.mk (blk_grown (g := gb108) (o := .cells #[.int .i64 a0_0, .int .i64 a0_1, .string a0_2] 28 (0, 0)) (bd4_ BK108.out) hg (Kd.R_ne HO_3.out BK108.out (by decide))); have n1_ := Aside0.mk (hb); have n2_ := Aside0.mk (ho); clear BK108; clear HB; clear HO_3; have BK108 := n0_; have HB := n1_; have HO114 := n2_; clear n0_ n1_ n2_; clear ho hb hg hat))
             go_roundg kj15
             case measure => have := HK1.out; have := HJ10.out; have := HJ15.out; omega
             case rel => exact ⟨(y112), (x4_15), (wrap64 (x14_1 + 1)), z4_5, z4_5, H', ⟨by have := HK1.out; have := HJ10.out; have := HJ15.out; omega⟩, ⟨by (with_reducible repeat (first | apply Kd.R_alloc | apply Kd.R_drewN | apply Kd.R_drew)); exact HO114.out⟩, ⟨z4_4⟩, ⟨z4_0⟩⟩
           ·rw [if_neg c19] at H
            exact absurd H (by simp)
          ·rw [if_neg c18] at H
           have c18b0 : decide (2 ≤ t110) = false := decide_eq_false c18; clear c18; by_cases c25 : t111 ≥ 2
           ·rw [if_pos c25] at H
            have c25b0 : decide (2 ≤ t111) = true := decide_eq_true c25; clear c25; by_cases c26 : x3_1.length < 4398046511104
            ·rw [if_pos c26] at H
             have LMc26 := Aside0.mk c26; clear c26; obtain ⟨y118, hy118⟩ : ∃ y_ : List (S65), y_ = (x3_1 ++ [(⟨x4_15, true, x14_1, t111⟩ : S65)]) := ⟨_, rfl⟩; replace H : (impl_SlotsOf.l0 kj15 y118 x4_15 (a0_2.size : Int) (wrap64 (x14_1 + 1)) a0_0 a0_1 a0_2) = some r := by first | (rw [hy118]; with_reducible exact H) | (have H2_ := (Option.bind_some _ _).symm.trans H; rw [hy118]; with_reducible exact H2_) | (have H2_ := (Option.bind_some _ _).symm.trans H; with_reducible exact H2_) | with_reducible exact H | (rw [hy118]; exact H) | exact H
             have Ny118 := Aside0.mk hy118; clear hy118; have H' := Aside0.mk H
             clear H; go_wp2_with (first | ((with_reducible refine gate_builtin (b := .append) (xs := #[.tmp 42, .tmp 47]) rfl ?_); at_builtin; refine Kd.R_append k65 (w0 := w) w.heap.size rfl (.tmp 42) (.tmp 47) 44 65 (.agg #[(.int .i64 0), (.bool false), (.int .i64 0), (.int .i64 0)]) 32 rfl Try.underlying44 info65 rfl (by decide) (by omega) u3 x3_1 (⟨x4_15, true, x14_1, t111⟩ : S65) [.int .i64 x4_15, .bool true, .int .i64 x14_1, .int .i64 t111] (fun _ => True) (fun _ => False) rfl rfl ?aP (fun _ hk => hk.elim) ?aF ?aO ?aB ?aS ?aL ?_; (case aP => exact k65_mkM _ _ _ (⟨x4_15, true, x14_1, t111⟩ : S65)); (case aB => exact z4_0); (case aF => exact (fun _ _ => trivial)); (case aO => exact (kd4_ HO_3.out)); (case aS => exact (below_size z4_0)); (case aL => have := LMc26.out; omega); intro v119 w27 ho hb hg hat; rw [← Ny118.out] at ho; have n0_ := Aside0.mk (blk_grown (g := gb108) (o := .cells #[.int .i64 a0_0, .int .i64 a0_1, .string a0_2] 28 (0, 0)) (bd4_ BK108.out) hg (Kd.R_ne HO_3.out BK108.out (by decide))); have n1_ := Aside0.mk (hb); have n2_ := Aside0.mk (ho); clear BK108; clear HB; clear HO_3; have BK108 := n0_; have HB := n1_; have HO120 := n2_; clear n0_ n1_ n2_; clear ho hb hg hat))
             go_roundg kj15
             case measure => have := HK1.out; have := HJ10.out; have := HJ15.out; omega
             case rel => exact ⟨(y118), (x4_15), (wrap64 (x14_1 + 1)), z4_5, z4_5, H', ⟨by have := HK1.out; have := HJ10.out; have := HJ15.out; omega⟩, ⟨by (with_reducible repeat (first | apply Kd.R_alloc | apply Kd.R_drewN | apply Kd.R_drew)); exact HO120.out⟩, ⟨z4_4⟩, ⟨z4_0⟩⟩
            ·rw [if_neg c26] at H
             exact absurd H (by simp)
           ·rw [if_neg c25] at H
            have c25b0 : decide (2 ≤ t111) = false := decide_eq_false c25; clear c25; have H' := Aside0.mk H
            clear H; go_wp2
            go_roundg kj15
            case measure => have := HK1.out; have := HJ10.out; have := HJ15.out; omega
            case rel => exact ⟨(x3_1), (x4_15), (wrap64 (x14_1 + 1)), z4_5, z4_5, H', ⟨by have := HK1.out; have := HJ10.out; have := HJ15.out; omega⟩, ⟨z4_8⟩, ⟨z4_4⟩, ⟨z4_0⟩⟩
     ·rw [if_neg c8] at H
      have c8b0 : decide (x14_1 < (a0_2.size : Int)) = false := decide_eq_false c8; clear c8; obtain rfl := Option.some.inj H; go_wp2
      go_ret
      exact ⟨_, by first | rfl | (simp [errW_none, errW_some] <;> rfl) | (simp [*, errW_none, errW_some] <;> rfl), z4_8, z4_0⟩
  ·replace c3 := Bool.eq_false_iff.mpr c3; subst c3; rw [if_neg (show ¬ (false = true) by decide)] at H
   obtain rfl := Option.some.inj H; go_enter Try.func26, Try.ntmps26
   go_wp2_with (first | ((with_reducible refine gate_dst (N := 1) rfl ?_); refine box_event ?hg (N := 1) ?hd (cs := #[.int .i64 a0_0, .int .i64 a0_1, .string a0_2]) (t := 28) ?hr ?_; (case hd => rfl); (case hg => rfl); (case hr => first | (go_simp; done) | (go_simp; rfl)); intro gb108 hg w28 hbox hb; have BK108 := Aside0.mk (hbox); have GW108 := Aside0.mk ((by rw [hg]; exact (below_size z4_1) : w.heap.size ≤ gb108)); have GE108 := Aside0.mk ((by rw [hg]; exact (below_size z4_1) : w.heap.size ≤ gb108)); replace HB := Aside0.mk (below_step z4_1 hb); clear hb hbox hg; obtain ⟨hcz29_0, hcz29_1, hcz29_2, hfz29_0, hfz29_1, hfz29_2⟩ := bc3_4_ BK108.out) | ((with_reducible refine gate_callee (f := 61) rfl ?_); refine goesL_ (some 9) rfl rfl Try.func61 (by kernel_rfl) rfl #[.agg #[.int .i64 a0_0, .int .i64 a0_1, .string a0_2]] rfl z4_7 ?_; (with_reducible refine (impl_IsGrid.calls k a0_0 a0_1 a0_2 false _ A2.out).mono ?_); rintro e w30 ⟨rfl, hb⟩; refine ⟨_, rfl, ?_⟩; replace BK108 := Aside0.mk (blk_below (g := gb108) (o := .cells #[.int .i64 a0_0, .int .i64 a0_1, .string a0_2] 28 (0, 0)) (bd4_ BK108.out) hb); replace HB := Aside0.mk (below_step z4_0 hb); (try clear hb)))
   go_ret
   exact ⟨_, by first | rfl | (simp [errW_none, errW_some] <;> rfl) | (simp [*, errW_none, errW_some] <;> rfl), by first | exact Kd.R_nil _ _ _ _ _ | exact Kd.N_nil _ _ _ _ _ | exact Kd.V_nil _ _ _ _ _ | exact Kd.Q_nil _ _ _ _ _ | exact Kd.S_nil _ _ _ _ _, z4_0⟩

/-! ### impl_cells: function 86 -/
mutual
def impl_cells.j0 : Nat → Int → Int → Bool → Int → Int → Option (List Int)
  | 0, _, _, _, _, _ => none
  | k + 1, x5, x123000, x123001, x123002, x123003 => impl_cells.l0 k x5 ([] : List Int) x123003 0 x123000 x123001 x123002 x123003
def impl_cells.l0 : Nat → Int → List Int → Int → Int → Int → Bool → Int → Int → Option (List Int)
  | 0, _, _, _, _, _, _, _, _ => none
  | k + 1, x5, x6, x13, x14, x123000, x123001, x123002, x123003 => if x14 < x13 then (if x6.length < 17592186044416 then (impl_cells.l0 k x5 (x6 ++ [wrap64 (x123002 + (wrap64 (x14 * x5)))]) x13 (wrap64 (x14 + 1)) x123000 x123001 x123002 x123003) else (none)) else (some x6)
end
def impl_cells.f (k : Nat) (a0_0 : Int) (a0_1 : Int) (a0_2 : ByteArray) (a1_0 : Int) (a1_1 : Bool) (a1_2 : Int) (a1_3 : Int) : Option (List Int) := if a1_1 = true then (impl_cells.j0 k a0_1 a1_0 a1_1 a1_2 a1_3) else (impl_cells.j0 k 1 a1_0 a1_1 a1_2 a1_3)
theorem impl_cells.mono_l : ∀ k, (∀ y0 y1 y2 y3 y4, LeO (impl_cells.j0 k y0 y1 y2 y3 y4) (impl_cells.j0 (k + 1) y0 y1 y2 y3 y4)) ∧ (∀ y0 y1 y2 y3 y4 y5 y6 y7, LeO (impl_cells.l0 k y0 y1 y2 y3 y4 y5 y6 y7) (impl_cells.l0 (k + 1) y0 y1 y2 y3 y4 y5 y6 y7))
  | 0 => ⟨fun _ _ _ _ _ r h => by simp [impl_cells.j0] at h, fun _ _ _ _ _ _ _ _ r h => by simp [impl_cells.l0] at h⟩
  | k + 1 => by
   obtain ⟨ih0, ih1⟩ := impl_cells.mono_l k; refine ⟨?_, ?_⟩
   ·intro y0 y1 y2 y3 y4
    unfold impl_cells.j0
    with_reducible repeat' first
    | exact ih0 _ _ _ _ _
    | exact ih1 _ _ _ _ _ _ _ _
    | exact LeO.refl _
    | exact LeO.none _
    | refine LeO.ite ?_ ?_
    | refine LeO.bind ?_ (fun _ => ?_)
   ·intro y0 y1 y2 y3 y4 y5 y6 y7
    unfold impl_cells.l0
    with_reducible repeat' first
    | exact ih0 _ _ _ _ _
    | exact ih1 _ _ _ _ _ _ _ _
    | exact LeO.refl _
    | exact LeO.none _
    | refine LeO.ite ?_ ?_
    | refine LeO.bind ?_ (fun _ => ?_)
theorem impl_cells.mono : ∀ a0 a1 a2 a3 a4 a5 a6 k, LeO (impl_cells.f k a0 a1 a2 a3 a4 a5 a6) (impl_cells.f (k + 1) a0 a1 a2 a3 a4 a5 a6) := by
  intro a0 a1 a2 a3 a4 a5 a6 k
  obtain ⟨ih0, ih1⟩ := impl_cells.mono_l k; unfold impl_cells.f
  with_reducible repeat' first
  | exact ih0 _ _ _ _ _
  | exact ih1 _ _ _ _ _ _ _ _
  | exact LeO.refl _
  | exact LeO.none _
  | refine LeO.ite ?_ ?_
  | refine LeO.bind ?_ (fun _ => ?_)
set_option maxHeartbeats 8000000 in
set_option maxRecDepth 100000 in
theorem impl_cells.calls (k : Nat) (a0_0 : Int) (a0_1 : Int) (a0_2 : ByteArray) (a1_0 : Int) (a1_1 : Bool) (a1_2 : Int) (a1_3 : Int) (r : List Int) (w : World) (h : impl_cells.f k a0_0 a0_1 a0_2 a1_0 a1_1 a1_2 a1_3 = some r) :
   Calls Try.prog 86 #[.agg #[.int .i64 a0_0, .int .i64 a0_1, .string a0_2], .agg #[.int .i64 a1_0, .bool a1_1, .int .i64 a1_2, .int .i64 a1_3]] w fun e w' => ∃ v0_ : Value, e = .returned (v0_) ∧ Kd.R (Kd.int .i64) 3 w' w.heap.size (fun _ => True) v0_ r ∧ Below w.heap.size w w' := by
  have hu28 := Try.underlying28; have hu65 := Try.underlying65; have HB := Aside0.mk (Below.refl w.heap.size w); have H : (if a1_1 = true then (impl_cells.j0 k a0_1 a1_0 a1_1 a1_2 a1_3) else (impl_cells.j0 k 1 a1_0 a1_1 a1_2 a1_3)) = some r := h; clear h; have HC3 := Aside0.mk H; clear H; go_enter Try.func86, Try.ntmps86
  go_upto_if 9 with (first | ((with_reducible refine gate_dst (N := 2) rfl ?_); refine box_event ?hg (N := 2) ?hd (cs := #[.int .i64 a0_0, .int .i64 a0_1, .string a0_2]) (t := 28) ?hr ?_; (case hd => rfl); (case hg => rfl); (case hr => first | (go_simp; done) | (go_simp; rfl)); intro gb121 hg w4 hbox hb; have BK121 := Aside0.mk (hbox); have GW121 := Aside0.mk ((by rw [hg]; exact (below_size z4_1) : w.heap.size ≤ gb121)); have GE121 := Aside0.mk ((by rw [hg]; exact (below_size z4_1) : w.heap.size ≤ gb121)); replace HB := Aside0.mk (below_step z4_1 hb); clear hb hbox hg) | ((with_reducible refine gate_dst (N := 3) rfl ?_); refine box_event ?hg (N := 3) ?hd (cs := #[.int .i64 a1_0, .bool a1_1, .int .i64 a1_2, .int .i64 a1_3]) (t := 65) ?hr ?_; (case hd => rfl); (case hg => rfl); (case hr => first | (go_simp; done) | (go_simp; rfl)); intro gb122 hg w5 hbox hb; have BK122 := Aside0.mk (hbox); have GW122 := Aside0.mk ((by rw [hg]; exact (below_size (by repeat (first | (with_reducible first | exact HB.out | apply below_alloc | apply pw_below_drewN | apply below_drew1 | refine below_set ?_ GE121.out) | exact HB.out))) : w.heap.size ≤ gb122)); have GE122 := Aside0.mk ((by rw [hg]; exact (below_size (by repeat (first | (with_reducible first | exact HB.out | apply below_alloc | apply pw_below_drewN | apply below_drew1 | refine below_set ?_ GE121.out) | exact HB.out))) : w.heap.size ≤ gb122)); replace HB := Aside0.mk (below_step (by repeat (first | (with_reducible first | exact HB.out | apply below_alloc | apply pw_below_drewN | apply below_drew1 | refine below_set ?_ GE121.out) | exact HB.out)) hb); have NB121_122 := Aside0.mk ((by rw [hg]; exact Nat.ne_of_lt (blk_lt (g := gb121) (o := .cells #[.int .i64 a0_0, .int .i64 a0_1, .string a0_2] 28 (0, 0)) (bd4_ BK121.out)) : gb121 ≠ gb122)); have NB122_121 := Aside0.mk ((by rw [hg]; exact Nat.ne_of_gt (blk_lt (g := gb121) (o := .cells #[.int .i64 a0_0, .int .i64 a0_1, .string a0_2] 28 (0, 0)) (bd4_ BK121.out)) : gb122 ≠ gb121)); replace BK121 := Aside0.mk (blk_below (g := gb121) (o := .cells #[.int .i64 a0_0, .int .i64 a0_1, .string a0_2] 28 (0, 0)) (bd4_ BK121.out) hb); clear hb hbox hg; have hnb6 := NB122_121.out; have hnc6 := NB121_122.out; obtain ⟨hcz7_0, hcz7_1, hcz7_2, hcz7_3, hfz7_0, hfz7_1, hfz7_2, hfz7_3⟩ := bc4_4_ BK122.out))
  (try simp only [Act.put, List.setIfInBounds_toArray, List.set_cons_zero, List.set_cons_succ])
  go_cut [5] (fun v5 wc => ∃ (kq : Nat) (x5_2 : Int), v5 = .int .i64 x5_2 ∧ Aside0 (impl_cells.j0 kq x5_2 a1_0 a1_1 a1_2 a1_3 = some r) ∧ Aside0 (kq ≤ k) ∧ Aside0 (wc.heap[gb121]? = some (.cells #[.int .i64 a0_0, .int .i64 a0_1, .string a0_2] 28 (0, 0))) ∧ Aside0 (wc.heap[gb122]? = some (.cells #[.int .i64 a1_0, .bool a1_1, .int .i64 a1_2, .int .i64 a1_3] 65 (0, 0))) ∧ Aside0 (Below w.heap.size w wc))
  case first =>
   have H := HC3.out; clear HC3; by_cases c8 : a1_1 = true
   ·subst c8; rw [if_pos rfl] at H
    have H' := Aside0.mk H
    clear H; have hnb9 := NB121_122.out; have hnc9 := NB122_121.out; obtain ⟨hcz10_0, hcz10_1, hcz10_2, hfz10_0, hfz10_1, hfz10_2⟩ := bc3_4_ BK121.out; go_wp2
    go_meet
    case rel => exact ⟨_, (a0_1), z4_5, H', ⟨by first | omega | exact Nat.le_refl _⟩, ⟨by (with_reducible repeat (first | refine blk_drewN ?_ _ | refine blk_drew ?_ | refine blk_alloc ?_ _)); exact BK121.out⟩, ⟨by (with_reducible repeat (first | refine blk_drewN ?_ _ | refine blk_drew ?_ | refine blk_alloc ?_ _)); exact BK122.out⟩, ⟨z4_2⟩⟩
   ·replace c8 := Bool.eq_false_iff.mpr c8; subst c8; rw [if_neg (show ¬ (false = true) by decide)] at H
    have H' := Aside0.mk H
    clear H; go_wp2
    go_meet
    case rel => exact ⟨_, (1), z4_5, H', ⟨by first | omega | exact Nat.le_refl _⟩, ⟨by (with_reducible repeat (first | refine blk_drewN ?_ _ | refine blk_drew ?_ | refine blk_alloc ?_ _)); exact BK121.out⟩, ⟨by (with_reducible repeat (first | refine blk_drewN ?_ _ | refine blk_drew ?_ | refine blk_alloc ?_ _)); exact BK122.out⟩, ⟨z4_2⟩⟩
  case rest =>
   clear HC3; try clear p2
   try clear c6
   try clear c8
   try clear c9
   try clear hcz10_0
   try clear hcz10_1
   try clear hcz10_2
   try clear hcz7_0
   try clear hcz7_1
   try clear hcz7_2
   try clear hcz7_3
   try clear hfz10_0
   try clear hfz10_1
   try clear hfz10_2
   try clear hfz7_0
   try clear hfz7_1
   try clear hfz7_2
   try clear hfz7_3
   obtain ⟨kq, x5_2, rfl, HA, HJ2, BK121, BK122, HB⟩ := hcut
   cases kq with
   | zero => exact absurd HA.out (by simp [impl_cells.j0])
   | succ kj2 =>
    have H := HA.out; clear HA; simp only [impl_cells.j0] at H; have H' := Aside0.mk H
    clear H; have hnb11 := NB122_121.out; have hnc11 := NB121_122.out; obtain ⟨hcz12_0, hcz12_1, hcz12_2, hcz12_3, hfz12_0, hfz12_1, hfz12_2, hfz12_3⟩ := bc4_4_ BK122.out; go_wp2
    go_loopg [6, 14] kj2 (fun kq v6 v14 w' => ∃ (x6_2 : List Int) (x14_2 : Int), v14 = .int .i64 x14_2 ∧ Aside0 (impl_cells.l0 kq x5_2 x6_2 a1_3 x14_2 a1_0 a1_1 a1_2 a1_3 = some r) ∧ Aside0 (kq ≤ kj2) ∧ Aside0 (Kd.R (Kd.int .i64) 3 w' w.heap.size (fun _ => True) v6 x6_2) ∧ Aside0 (w'.heap[gb121]? = some (.cells #[.int .i64 a0_0, .int .i64 a0_1, .string a0_2] 28 (0, 0))) ∧ Aside0 (w'.heap[gb122]? = some (.cells #[.int .i64 a1_0, .bool a1_1, .int .i64 a1_2, .int .i64 a1_3] 65 (0, 0))) ∧ Aside0 (Below w.heap.size w w'))
    case atStart => exact ⟨(([] : List Int)), (0), z4_5, H', ⟨Nat.le_refl _⟩, ⟨by first | exact Kd.R_nil _ _ _ _ _ | exact Kd.N_nil _ _ _ _ _ | exact Kd.V_nil _ _ _ _ _ | exact Kd.Q_nil _ _ _ _ _ | exact Kd.S_nil _ _ _ _ _⟩, ⟨by (with_reducible repeat (first | refine blk_drewN ?_ _ | refine blk_drew ?_ | refine blk_alloc ?_ _)); exact BK121.out⟩, ⟨by (with_reducible repeat (first | refine blk_drewN ?_ _ | refine blk_drew ?_ | refine blk_alloc ?_ _)); exact BK122.out⟩, ⟨z4_2⟩⟩
    case round =>
     clear H'; try clear c1
     try clear p2
     try clear c6
     try clear c8
     try clear c9
     try clear c11
     try clear hcz10_0
     try clear hcz10_1
     try clear hcz10_2
     try clear hcz12_0
     try clear hcz12_1
     try clear hcz12_2
     try clear hcz12_3
     try clear hcz7_0
     try clear hcz7_1
     try clear hcz7_2
     try clear hcz7_3
     try clear hfz10_0
     try clear hfz10_1
     try clear hfz10_2
     try clear hfz12_0
     try clear hfz12_1
     try clear hfz12_2
     try clear hfz12_3
     try clear hfz7_0
     try clear hfz7_1
     try clear hfz7_2
     try clear hfz7_3
     try clear p2
     obtain ⟨x6_2, x14_2, rfl, HA, HK2, HO_6, BK121, BK122, HB⟩ := hrel
     cases gk with
     | zero => exact absurd HA.out (by simp [impl_cells.l0])
     | succ k2 =>
      have H := HA.out; clear HA; simp only [impl_cells.l0] at H; by_cases c13 : x14_2 < a1_3
      ·rw [if_pos c13] at H
       have c13b0 : decide (x14_2 < a1_3) = true := decide_eq_true c13; clear c13; by_cases c14 : x6_2.length < 17592186044416
       ·rw [if_pos c14] at H
        have LMc14 := Aside0.mk c14; clear c14; obtain ⟨y123, hy123⟩ : ∃ y_ : List Int, y_ = (x6_2 ++ [wrap64 (a1_2 + (wrap64 (x14_2 * x5_2)))]) := ⟨_, rfl⟩; replace H : (impl_cells.l0 k2 x5_2 y123 a1_3 (wrap64 (x14_2 + 1)) a1_0 a1_1 a1_2 a1_3) = some r := by first | (rw [hy123]; with_reducible exact H) | (have H2_ := (Option.bind_some _ _).symm.trans H; rw [hy123]; with_reducible exact H2_) | (have H2_ := (Option.bind_some _ _).symm.trans H; with_reducible exact H2_) | with_reducible exact H | (rw [hy123]; exact H) | exact H
        have Ny123 := Aside0.mk hy123; clear hy123; have H' := Aside0.mk H
        clear H; have hnb15 := NB122_121.out; have hnc15 := NB121_122.out; obtain ⟨hcz16_0, hcz16_1, hcz16_2, hcz16_3, hfz16_0, hfz16_1, hfz16_2, hfz16_3⟩ := bc4_4_ BK122.out; go_wp2_with (first | ((with_reducible refine gate_builtin (b := .append) (xs := #[.tmp 17, .tmp 24]) rfl ?_); at_builtin; refine Kd.R_append (Kd.int .i64) (w0 := w) w.heap.size rfl (.tmp 17) (.tmp 24) 62 3 (.int .i64 0) 8 rfl Try.underlying62 info3 rfl (by decide) (by omega) u6 x6_2 (wrap64 (a1_2 + (wrap64 (x14_2 * x5_2)))) [.int .i64 (wrap64 (a1_2 + (wrap64 (x14_2 * x5_2))))] (fun _ => True) (fun _ => False) rfl rfl ?aP (fun _ hk => hk.elim) ?aF ?aO ?aB ?aS ?aL ?_; (case aP => exact rfl); (case aB => exact z4_2); (case aF => exact (fun _ _ => trivial)); (case aO => exact (kd4_ HO_6.out)); (case aS => exact (below_size z4_2)); (case aL => have := LMc14.out; omega); intro v124 w17 ho hb hg hat; rw [← Ny123.out] at ho; have n0_ := Aside0.mk (blk_grown (g := gb121) (o := .cells #[.int .i64 a0_0, .int .i64 a0_1, .string a0_2] 28 (0, 0)) (bd4_ BK121.out) hg (Kd.R_ne HO_6.out BK121.out (by decide))); have n1_ := Aside0.mk (blk_grown (g := gb122) (o := .cells #[.int .i64 a1_0, .bool a1_1, .int .i64 a1_2, .int .i64 a1_3] 65 (0, 0)) (bd4_ BK122.out) hg (Kd.R_ne HO_6.out BK122.out (by decide))); have n2_ := Aside0.mk (hb); have n3_ := Aside0.mk (ho); clear BK121; clear BK122; clear HB; clear HO_6; have BK121 := n0_; have BK122 := n1_; have HB := n2_; have HO125 := n3_; clear n0_ n1_ n2_ n3_; clear ho hb hg hat))
        go_roundg k2
        case measure => have := HJ2.out; have := HK2.out; omega
        case rel => exact ⟨(y123), (wrap64 (x14_2 + 1)), z4_5, H', ⟨by have := HJ2.out; have := HK2.out; omega⟩, ⟨by (with_reducible repeat (first | apply Kd.R_alloc | apply Kd.R_drewN | apply Kd.R_drew)); exact HO125.out⟩, ⟨by (with_reducible repeat (first | refine blk_drewN ?_ _ | refine blk_drew ?_ | refine blk_alloc ?_ _)); exact BK121.out⟩, ⟨by (with_reducible repeat (first | refine blk_drewN ?_ _ | refine blk_drew ?_ | refine blk_alloc ?_ _)); exact BK122.out⟩, ⟨z4_2⟩⟩
       ·rw [if_neg c14] at H
        exact absurd H (by simp)
      ·rw [if_neg c13] at H
       have c13b0 : decide (x14_2 < a1_3) = false := decide_eq_false c13; clear c13; obtain rfl := Option.some.inj H; go_wp2
       go_ret
       exact ⟨_, by first | rfl | (simp [errW_none, errW_some] <;> rfl) | (simp [*, errW_none, errW_some] <;> rfl), by (with_reducible repeat (first | apply Kd.R_alloc | apply Kd.R_drewN | apply Kd.R_drew)); exact HO_6.out, z4_2⟩

/-! ### impl_layout: function 50 -/
def impl_layout.l0 : Nat → List (List Int) → List (S65) → Int → Int → Int → Int → ByteArray → Option ((List (List Int)))
  | 0, _, _, _, _, _, _, _ => none
  | k + 1, x3, x7, x8, x9, x127000, x127001, x127002 => if x9 < x8 then (if 0 ≤ x9 then (if x9 < (x7.length : Int) then ((impl_cells.f k x127000 x127001 x127002 ((rd_T65 x7 x9).f0) ((rd_T65 x7 x9).f1) ((rd_T65 x7 x9).f2) ((rd_T65 x7 x9).f3)).bind fun t132 => (if x3.length < 5864062014805 then (impl_layout.l0 k (x3 ++ [t132]) x7 x8 (wrap64 (x9 + 1)) x127000 x127001 x127002) else (none))) else (none)) else (none)) else (some x3)
def impl_layout.f (k : Nat) (a0_0 : Int) (a0_1 : Int) (a0_2 : ByteArray) : Option ((List (List Int))) := (impl_SlotsOf.f k a0_0 a0_1 a0_2).bind fun t127 => (impl_layout.l0 k ([] : List (List Int)) t127 (t127.length : Int) 0 a0_0 a0_1 a0_2)
theorem impl_layout.mono_l : ∀ k, (∀ y0 y1 y2 y3 y4 y5 y6, LeO (impl_layout.l0 k y0 y1 y2 y3 y4 y5 y6) (impl_layout.l0 (k + 1) y0 y1 y2 y3 y4 y5 y6))
  | 0 => fun _ _ _ _ _ _ _ r h => by simp [impl_layout.l0] at h
  | k + 1 => by
   have ih0 := impl_layout.mono_l k
   ·intro y0 y1 y2 y3 y4 y5 y6
    unfold impl_layout.l0
    with_reducible repeat' first
    | exact ih0 _ _ _ _ _ _ _
    | exact impl_SlotsOf.mono _ _ _ _
    | exact impl_cells.mono _ _ _ _ _ _ _ _
    | exact LeO.refl _
    | exact LeO.none _
    | refine LeO.ite ?_ ?_
    | refine LeO.bind ?_ (fun _ => ?_)
theorem impl_layout.mono : ∀ a0 a1 a2 k, LeO (impl_layout.f k a0 a1 a2) (impl_layout.f (k + 1) a0 a1 a2) := by
  intro a0 a1 a2 k
  have ih0 := impl_layout.mono_l k; unfold impl_layout.f
  with_reducible repeat' first
  | exact ih0 _ _ _ _ _ _ _
  | exact impl_SlotsOf.mono _ _ _ _
  | exact impl_cells.mono _ _ _ _ _ _ _ _
  | exact LeO.refl _
  | exact LeO.none _
  | refine LeO.ite ?_ ?_
  | refine LeO.bind ?_ (fun _ => ?_)
set_option maxHeartbeats 8000000 in
set_option maxRecDepth 100000 in
theorem impl_layout.calls (k : Nat) (a0_0 : Int) (a0_1 : Int) (a0_2 : ByteArray) (r : List (List Int)) (w : World) (h : impl_layout.f k a0_0 a0_1 a0_2 = some r) :
   Calls Try.prog 50 #[.agg #[.int .i64 a0_0, .int .i64 a0_1, .string a0_2]] w fun e w' => ∃ v0_ : Value, e = .returned (v0_) ∧ Kd.S (Kd.slice 3 (Kd.int .i64)) 62 w' w.heap.size (fun _ => True) v0_ r ∧ Below w.heap.size w w' := by
  have hu28 := Try.underlying28; have hu65 := Try.underlying65; have HB := Aside0.mk (Below.refl w.heap.size w); have H : ((impl_SlotsOf.f k a0_0 a0_1 a0_2).bind fun t127 => (impl_layout.l0 k ([] : List (List Int)) t127 (t127.length : Int) 0 a0_0 a0_1 a0_2)) = some r := h; clear h; replace H := Option.bind_eq_some_iff.mp H; obtain ⟨t127, A20, H⟩ := H; try dsimp only at H
  have A2 := Aside0.mk A20; clear A20; have H' := Aside0.mk H
  clear H; go_enter Try.func50, Try.ntmps50
  go_wp2_with (first | ((with_reducible refine gate_dst (N := 1) rfl ?_); refine box_event ?hg (N := 1) ?hd (cs := #[.int .i64 a0_0, .int .i64 a0_1, .string a0_2]) (t := 28) ?hr ?_; (case hd => rfl); (case hg => rfl); (case hr => first | (go_simp; done) | (go_simp; rfl)); intro gb126 hg w3 hbox hb; have BK126 := Aside0.mk (hbox); have GW126 := Aside0.mk ((by rw [hg]; exact (below_size z4_1) : w.heap.size ≤ gb126)); have GE126 := Aside0.mk ((by rw [hg]; exact (below_size z4_1) : w.heap.size ≤ gb126)); replace HB := Aside0.mk (below_step z4_1 hb); clear hb hbox hg; obtain ⟨hcz4_0, hcz4_1, hcz4_2, hfz4_0, hfz4_1, hfz4_2⟩ := bc3_4_ BK126.out) | ((with_reducible refine gate_callee (f := 26) rfl ?_); refine goesL_ (some 7) rfl rfl Try.func26 (by kernel_rfl) rfl #[.agg #[.int .i64 a0_0, .int .i64 a0_1, .string a0_2]] rfl z4_7 ?_; (with_reducible refine (impl_SlotsOf.calls k a0_0 a0_1 a0_2 t127 _ A2.out).mono ?_); rintro e w5 ⟨v128, rfl, ho0, hb⟩; refine ⟨_, rfl, ?_⟩; have HO129 := Aside0.mk (Kd.R_lower ho0 (below_size z4_3)); replace BK126 := Aside0.mk (blk_below (g := gb126) (o := .cells #[.int .i64 a0_0, .int .i64 a0_1, .string a0_2] 28 (0, 0)) (bd4_ BK126.out) hb); replace HB := Aside0.mk (below_step z4_3 hb); (try clear hb); (try clear ho0); obtain ⟨Ao6, co6, eo6⟩ := Kd.R_slice HO129.out; subst eo6))
  go_loopg [3, 9] k (fun kq v3 v9 w' => ∃ (x3_1 : List (List Int)) (x9_1 : Int), v9 = .int .i64 x9_1 ∧ Aside0 (impl_layout.l0 kq x3_1 t127 (t127.length : Int) x9_1 a0_0 a0_1 a0_2 = some r) ∧ Aside0 (kq ≤ k) ∧ Aside0 (Kd.S (Kd.slice 3 (Kd.int .i64)) 62 w' w.heap.size (fun _ => True) v3 x3_1) ∧ Aside0 (Kd.R k65 65 w' w.heap.size (fun _ => True) (.slice Ao6 t127.length co6) t127) ∧ Aside0 (w'.heap[gb126]? = some (.cells #[.int .i64 a0_0, .int .i64 a0_1, .string a0_2] 28 (0, 0))) ∧ Aside0 (Below w.heap.size w w'))
  case atStart => exact ⟨(([] : List (List Int))), (0), z4_5, H', ⟨Nat.le_refl _⟩, ⟨by first | exact Kd.S_nil _ _ _ _ _ | exact Kd.N_nil _ _ _ _ _ | exact Kd.V_nil _ _ _ _ _ | exact Kd.Q_nil _ _ _ _ _ | exact Kd.R_nil _ _ _ _ _⟩, ⟨by (with_reducible repeat (first | apply Kd.R_alloc | apply Kd.R_drewN | apply Kd.R_drew)); exact HO129.out⟩, ⟨by (with_reducible repeat (first | refine blk_drewN ?_ _ | refine blk_drew ?_ | refine blk_alloc ?_ _)); exact BK126.out⟩, ⟨z4_3⟩⟩
  case round =>
   clear H'; try clear c2
   try clear p2
   try clear c5
   try clear hcz4_0
   try clear hcz4_1
   try clear hcz4_2
   try clear hfz4_0
   try clear hfz4_1
   try clear hfz4_2
   obtain ⟨x3_1, x9_1, rfl, HA, HK1, HO_3, HO_7, BK126, HB⟩ := hrel
   cases gk with
   | zero => exact absurd HA.out (by simp [impl_layout.l0])
   | succ k1 =>
    have H := HA.out; clear HA; simp only [impl_layout.l0] at H; by_cases c7 : x9_1 < (t127.length : Int)
    ·rw [if_pos c7] at H
     have c7b0 : decide (x9_1 < (t127.length : Int)) = true := decide_eq_true c7; clear c7; by_cases c8 : 0 ≤ x9_1
     ·rw [if_pos c8] at H
      have c8b0 : decide (0 ≤ x9_1) = true := decide_eq_true c8; clear c8; by_cases c9 : x9_1 < (t127.length : Int)
      ·rw [if_pos c9] at H
       have c9b0 : decide (x9_1 < (t127.length : Int)) = true := decide_eq_true c9; clear c9; replace H := Option.bind_eq_some_iff.mp H; obtain ⟨t132, A100, H⟩ := H; try dsimp only at H
       have A10 := Aside0.mk A100; clear A100; by_cases c11 : x3_1.length < 5864062014805
       ·rw [if_pos c11] at H
        have LMc11 := Aside0.mk c11; clear c11; obtain ⟨y135, hy135⟩ : ∃ y_ : List (List Int), y_ = (x3_1 ++ [t132]) := ⟨_, rfl⟩; replace H : (impl_layout.l0 k1 y135 t127 (t127.length : Int) (wrap64 (x9_1 + 1)) a0_0 a0_1 a0_2) = some r := by first | (rw [hy135]; with_reducible exact H) | (have H2_ := (Option.bind_some _ _).symm.trans H; rw [hy135]; with_reducible exact H2_) | (have H2_ := (Option.bind_some _ _).symm.trans H; with_reducible exact H2_) | with_reducible exact H | (rw [hy135]; exact H) | exact H
        have Ny135 := Aside0.mk hy135; clear hy135; have H' := Aside0.mk H
        clear H; have p130 : 0 ≤ (x9_1 : Int) := of_decide_eq_true (by first | (with_reducible assumption) | assumption)
        have q130 : x9_1 < (t127.length : Int) := of_decide_eq_true (by first | (with_reducible assumption) | assumption)
        obtain ⟨ad130, e130, hx130_0, hx130_1, hx130_2, hx130_3⟩ := at_T65 (Kd.R_reads' HO_7.out).2.2 x9_1 p130 q130
        cases e130; replace p130 := eq_true p130; replace q130 := eq_true q130; go_wp2_with (first | ((with_reducible refine gate_dst (N := 5) rfl ?_); refine box_event ?hg (N := 5) ?hd (cs := #[.int .i64 0, .bool false, .int .i64 0, .int .i64 0]) (t := 65) ?hr ?_; (case hd => rfl); (case hg => rfl); (case hr => first | (go_simp; done) | (go_simp; rfl)); intro gb131 hg w12 hbox hb; replace HO_3 := Aside0.mk (Kd.S_below (by (with_reducible repeat (first | apply Kd.S_alloc | apply Kd.S_drewN | apply Kd.S_drew)); exact HO_3.out) hb); replace HO_7 := Aside0.mk (Kd.R_below (Kd.R_elderB (kd4_ HO_7.out) gb131 (Nat.le_of_eq hg.symm)) hb); have BK131 := Aside0.mk (hbox); have GW131 := Aside0.mk ((by rw [hg]; exact (below_size z4_3) : w.heap.size ≤ gb131)); have GE131 := Aside0.mk ((by rw [hg]; exact (below_size z4_3) : w.heap.size ≤ gb131)); replace HB := Aside0.mk (below_step z4_3 hb); have NB126_131 := Aside0.mk ((by rw [hg]; exact Nat.ne_of_lt (blk_lt (g := gb126) (o := .cells #[.int .i64 a0_0, .int .i64 a0_1, .string a0_2] 28 (0, 0)) (bd4_ BK126.out)) : gb126 ≠ gb131)); have NB131_126 := Aside0.mk ((by rw [hg]; exact Nat.ne_of_gt (blk_lt (g := gb126) (o := .cells #[.int .i64 a0_0, .int .i64 a0_1, .string a0_2] 28 (0, 0)) (bd4_ BK126.out)) : gb131 ≠ gb126)); replace BK126 := Aside0.mk (blk_below (g := gb126) (o := .cells #[.int .i64 a0_0, .int .i64 a0_1, .string a0_2] 28 (0, 0)) (bd4_ BK126.out) hb); clear hb hbox hg; have hnb13 := NB131_126.out; have hnc13 := NB126_131.out; obtain ⟨hcz14_0, hcz14_1, hcz14_2, hcz14_3, hfz14_0, hfz14_1, hfz14_2, hfz14_3⟩ := bc4_4_ BK131.out; obtain ⟨hcz15_0, hcz15_1, hcz15_2, hfz15_0, hfz15_1, hfz15_2⟩ := bc3_4_ BK126.out) | ((with_reducible refine gate_callee (f := 86) rfl ?_); refine goesL_ (some 16) rfl rfl Try.func86 (by kernel_rfl) rfl #[.agg #[.int .i64 a0_0, .int .i64 a0_1, .string a0_2], .agg #[.int .i64 ((rd_T65 t127 x9_1).f0), .bool ((rd_T65 t127 x9_1).f1), .int .i64 ((rd_T65 t127 x9_1).f2), .int .i64 ((rd_T65 t127 x9_1).f3)]] rfl z4_7 ?_; (with_reducible refine (impl_cells.calls k1 a0_0 a0_1 a0_2 ((rd_T65 t127 x9_1).f0) ((rd_T65 t127 x9_1).f1) ((rd_T65 t127 x9_1).f2) ((rd_T65 t127 x9_1).f3) t132 _ A10.out).mono ?_); rintro e w16 ⟨v133, rfl, ho0, hb⟩; refine ⟨_, rfl, ?_⟩; replace HO_3 := Aside0.mk (Kd.S_elder' (by (with_reducible repeat (first | apply Kd.S_alloc | apply Kd.S_drewN | apply Kd.S_drew)); exact (Kd.S_mono (Kd.S_far (p := ⟨gb131, 3, none⟩) (Kd.S_far (p := ⟨gb131, 2, none⟩) (Kd.S_far (p := ⟨gb131, 1, none⟩) (Kd.S_far (p := ⟨gb131, 0, none⟩) (Kd.S_types HO_3.out BK131.out (by decide)) (fun _ hk => hk.2) (.int .i64 ((rd_T65 t127 x9_1).f0))) (fun _ hk => hk.2) (.bool ((rd_T65 t127 x9_1).f1))) (fun _ hk => hk.2) (.int .i64 ((rd_T65 t127 x9_1).f2))) (fun _ hk => hk.2) (.int .i64 ((rd_T65 t127 x9_1).f3))) (fun _ h_ => h_.1))) (Kd.R_base ho0) hb); replace HO_7 := Aside0.mk (Kd.R_below (by (with_reducible repeat (first | apply Kd.R_alloc | apply Kd.R_drewN | apply Kd.R_drew)); exact (Kd.R_mono (Kd.R_far (p := ⟨gb131, 3, none⟩) (Kd.R_far (p := ⟨gb131, 2, none⟩) (Kd.R_far (p := ⟨gb131, 1, none⟩) (Kd.R_far (p := ⟨gb131, 0, none⟩) (Kd.R_mono HO_7.out (fun k_ hk => (⟨hk, hk.2⟩ : _ ∧ k_ ≠ gb131))) (fun _ hk => hk.2) (.int .i64 ((rd_T65 t127 x9_1).f0))) (fun _ hk => hk.2) (.bool ((rd_T65 t127 x9_1).f1))) (fun _ hk => hk.2) (.int .i64 ((rd_T65 t127 x9_1).f2))) (fun _ hk => hk.2) (.int .i64 ((rd_T65 t127 x9_1).f3))) (fun _ h_ => h_.1))) hb); have HO134 := Aside0.mk (Kd.R_lower ho0 (below_size z4_6)); replace BK126 := Aside0.mk (blk_below (g := gb126) (o := .cells #[.int .i64 a0_0, .int .i64 a0_1, .string a0_2] 28 (0, 0)) (by (with_reducible repeat (first | refine blk_drewN ?_ _ | refine blk_drew ?_ | refine blk_alloc ?_ _)); refine blk_far ?_ NB126_131.out _; (with_reducible repeat (first | refine blk_drewN ?_ _ | refine blk_drew ?_ | refine blk_alloc ?_ _)); refine blk_far ?_ NB126_131.out _; (with_reducible repeat (first | refine blk_drewN ?_ _ | refine blk_drew ?_ | refine blk_alloc ?_ _)); refine blk_far ?_ NB126_131.out _; (with_reducible repeat (first | refine blk_drewN ?_ _ | refine blk_drew ?_ | refine blk_alloc ?_ _)); refine blk_far ?_ NB126_131.out _; (with_reducible repeat (first | refine blk_drewN ?_ _ | refine blk_drew ?_ | refine blk_alloc ?_ _)); exact BK126.out) hb); replace BK131 := Aside0.mk (blk_below (g := gb131) (o := .cells #[.int .i64 ((rd_T65 t127 x9_1).f0), .bool ((rd_T65 t127 x9_1).f1), .int .i64 ((rd_T65 t127 x9_1).f2), .int .i64 ((rd_T65 t127 x9_1).f3)] 65 (0, 0)) (by (with_reducible repeat (first | refine blk_drewN ?_ _ | refine blk_drew ?_ | refine blk_alloc ?_ _)); refine blk_put (cs := #[.int .i64 ((rd_T65 t127 x9_1).f0), .bool ((rd_T65 t127 x9_1).f1), .int .i64 ((rd_T65 t127 x9_1).f2), .int .i64 0]) ?_ 3 _ rfl; (with_reducible repeat (first | refine blk_drewN ?_ _ | refine blk_drew ?_ | refine blk_alloc ?_ _)); refine blk_put (cs := #[.int .i64 ((rd_T65 t127 x9_1).f0), .bool ((rd_T65 t127 x9_1).f1), .int .i64 0, .int .i64 0]) ?_ 2 _ rfl; (with_reducible repeat (first | refine blk_drewN ?_ _ | refine blk_drew ?_ | refine blk_alloc ?_ _)); refine blk_put (cs := #[.int .i64 ((rd_T65 t127 x9_1).f0), .bool false, .int .i64 0, .int .i64 0]) ?_ 1 _ rfl; (with_reducible repeat (first | refine blk_drewN ?_ _ | refine blk_drew ?_ | refine blk_alloc ?_ _)); refine blk_put (cs := #[.int .i64 0, .bool false, .int .i64 0, .int .i64 0]) ?_ 0 _ rfl; (with_reducible repeat (first | refine blk_drewN ?_ _ | refine blk_drew ?_ | refine blk_alloc ?_ _)); exact BK131.out) hb); replace HB := Aside0.mk (below_step z4_6 hb); (try clear hb); (try clear ho0); obtain ⟨Ao18, co18, eo18⟩ := Kd.R_slice HO134.out; subst eo18) | ((with_reducible refine gate_builtin (b := .append) (xs := #[.tmp 13, .tmp 17]) rfl ?_); at_builtin; refine Kd.S_append (Kd.slice 3 (Kd.int .i64)) (w0 := w) w.heap.size rfl (.tmp 13) (.tmp 17) 61 62 (.slice none 0 0) 24 rfl Try.underlying61 info62 rfl (by decide) (by omega) u3 x3_1 t132 [.slice Ao18 t132.length co18] (fun _ => True) (fun k_ => some k_ = (.slice Ao18 t132.length co18 : Value).ownBlock) rfl rfl ?aP (fun k_ hk_ => ((Kd.R_mono (ok' := fun k_ => ((fun _ => True)) k_ ∧ some k_ ≠ (u3 : Value).ownBlock) (Kd.R_apart' (HO134.out) (Kd.S_typed HO_3.out) (by decide)) (fun k_ hk => ⟨trivial, hk.2⟩))).1 k_ hk_.symm) ?aF ?aO ?aB ?aS ?aL ?_; (case aP => exact Kd.M_row (Kd.R_mono (Kd.R_tight rfl (Kd.R_mono (ok' := fun k_ => ((fun _ => True)) k_ ∧ some k_ ≠ (u3 : Value).ownBlock) (Kd.R_apart' (HO134.out) (Kd.S_typed HO_3.out) (by decide)) (fun k_ hk => ⟨trivial, hk.2⟩))) (fun _ h_ => h_))); (case aB => exact z4_6); (case aF => exact (fun _ _ => trivial)); (case aO => exact (by (with_reducible repeat (first | apply Kd.S_alloc | apply Kd.S_drewN | apply Kd.S_drew)); exact Kd.S_mono HO_3.out (fun k_ hk => ⟨trivial, fun e_ => hk.2 e_⟩))); (case aS => exact (below_size z4_6)); (case aL => have := LMc11.out; omega); intro v136 w17 ho hb hg hat; rw [← Ny135.out] at ho; have n0_ := Aside0.mk (Kd.R_over' (kd4_ HO_7.out) (Kd.S_typed (by (with_reducible repeat (first | apply Kd.S_alloc | apply Kd.S_drewN | apply Kd.S_drew)); exact HO_3.out)) (by decide) hg); have n1_ := Aside0.mk (blk_grown (g := gb126) (o := .cells #[.int .i64 a0_0, .int .i64 a0_1, .string a0_2] 28 (0, 0)) (bd4_ BK126.out) hg (Kd.S_ne HO_3.out BK126.out (by decide))); have n2_ := Aside0.mk (blk_grown (g := gb131) (o := .cells #[.int .i64 ((rd_T65 t127 x9_1).f0), .bool ((rd_T65 t127 x9_1).f1), .int .i64 ((rd_T65 t127 x9_1).f2), .int .i64 ((rd_T65 t127 x9_1).f3)] 65 (0, 0)) (bd4_ BK131.out) hg (Kd.S_ne HO_3.out BK131.out (by decide))); have n3_ := Aside0.mk (hb); have n4_ := Aside0.mk (ho); clear HO_7; clear BK126; clear BK131; clear HB; clear HO_3; clear HO134; have HO_7 := n0_; have BK126 := n1_; have BK131 := n2_; have HB := n3_; have HO137 := n4_; clear n0_ n1_ n2_ n3_ n4_; clear ho hb hg hat))
        go_roundg k1
        case measure => have := HK1.out; omega
        case rel => exact ⟨(y135), (wrap64 (x9_1 + 1)), z4_5, H', ⟨by have := HK1.out; omega⟩, ⟨by (with_reducible repeat (first | apply Kd.S_alloc | apply Kd.S_drewN | apply Kd.S_drew)); exact HO137.out⟩, ⟨by (with_reducible repeat (first | apply Kd.R_alloc | apply Kd.R_drewN | apply Kd.R_drew)); exact Kd.R_mono HO_7.out (fun _ hk => trivial)⟩, ⟨by (with_reducible repeat (first | refine blk_drewN ?_ _ | refine blk_drew ?_ | refine blk_alloc ?_ _)); exact BK126.out⟩, ⟨z4_6⟩⟩
       ·rw [if_neg c11] at H
        exact absurd H (by simp)
      ·rw [if_neg c9] at H
       exact absurd H (by simp)
     ·rw [if_neg c8] at H
      exact absurd H (by simp)
    ·rw [if_neg c7] at H
     have c7b0 : decide (x9_1 < (t127.length : Int)) = false := decide_eq_false c7; clear c7; obtain rfl := Option.some.inj H; go_wp2
     go_ret
     exact ⟨_, by first | rfl | (simp [errW_none, errW_some] <;> rfl) | (simp [*, errW_none, errW_some] <;> rfl), by (with_reducible repeat (first | apply Kd.S_alloc | apply Kd.S_drewN | apply Kd.S_drew)); exact HO_3.out, z4_3⟩

end Go.Proofs.Ytodcckiphdnjeaa.QFnFilled
