-- The shelf's strings.ReplaceAll laid at this dump (plain words by the shelf's lay-plain), impl.EmptyFill and the law's own walk, by hand.
import Derived.Test.YtgmhjinlpikpjaeDoorQFnExactEmptyFillx2
import Derived.Shelf.Strings.SplitShaped
namespace Go.Proofs.YtgmhjinlpikpjaeDoor.QFnExactEmptyFill
open Go.RowKit Go.Proofs.YtgmhjinlpikpjaeDoorW.PrintWords Go.Proofs.YtgmhjinlpikpjaeDoorW.PrintLast Go.Proofs.YtgmhjinlpikpjaeDoorW.PrintMore
def replRen : Go.Shelf.Ren := ⟨fun | 155 => 19 | 154 => 27 | 138 => 31 | 165 => 32 | 143 => 33 | 166 => 34 | 197 => 35 | 169 => 36 | 195 => 38 | 218 => 39 | 240 => 40 | 241 => 41 | 219 => 42 | 260 => 43 | 276 => 48 | 277 => 49 | 217 => 50 | 225 => 51 | 224 => 52 | 267 => 53 | 266 => 59 | 314 => 60 | n => n, fun | 9 => 9 | 3 => 3 | 4 => 4 | 72 => 51 | 0 => 0 | 76 => 55 | 105 => 57 | 21 => 21 | 5 => 5 | 70 => 49 | 20 => 20 | 37 => 44 | 75 => 54 | 127 => 63 | 164 => 70 | 46 => 74 | 119 => 75 | 139 => 78 | 138 => 77 | 146 => 85 | 51 => 81 | 80 => 59 | n => n, fun | 1 => 0 | 3 => 1 | 4 => 2 | n => n⟩
theorem replLays : LaysM.n155 Tryd.prog replRen := {
  mixed := by kernel_rfl
  f138 := Tryd.func31.trans (congrArg some (by kernel_rfl))
  f143 := Tryd.func33.trans (congrArg some (by kernel_rfl))
  f154 := Tryd.func27.trans (congrArg some (by kernel_rfl))
  f155 := Tryd.func19.trans (congrArg some (by kernel_rfl))
  f165 := Tryd.func32.trans (congrArg some (by kernel_rfl))
  f166 := Tryd.func34.trans (congrArg some (by kernel_rfl))
  f169 := Tryd.func36.trans (congrArg some (by kernel_rfl))
  f195 := Tryd.func38.trans (congrArg some (by kernel_rfl))
  f197 := Tryd.func35.trans (congrArg some (by kernel_rfl))
  f217 := Tryd.func50.trans (congrArg some (by kernel_rfl))
  f218 := Tryd.func39.trans (congrArg some (by kernel_rfl))
  f219 := Tryd.func42.trans (congrArg some (by kernel_rfl))
  f224 := Tryd.func52.trans (congrArg some (by kernel_rfl))
  f225 := Tryd.func51.trans (congrArg some (by kernel_rfl))
  f240 := Tryd.func40.trans (congrArg some (by kernel_rfl))
  f241 := Tryd.func41.trans (congrArg some (by kernel_rfl))
  f260 := Tryd.func43.trans (congrArg some (by kernel_rfl))
  f266 := Tryd.func59.trans (congrArg some (by kernel_rfl))
  f267 := Tryd.func53.trans (congrArg some (by kernel_rfl))
  f276 := Tryd.func48.trans (congrArg some (by kernel_rfl))
  f277 := Tryd.func49.trans (congrArg some (by kernel_rfl))
  f314 := Tryd.func60.trans (congrArg some (by kernel_rfl))
  t0 := Tryd.underlying0
  a0 := Tryd.isAgg0
  z0 := Tryd.sizeOf0
  v0 := Tryd.zeroValue0
  t3 := Tryd.underlying3
  a3 := Tryd.isAgg3
  z3 := Tryd.sizeOf3
  v3 := Tryd.zeroValue3
  t4 := Tryd.underlying4
  a4 := Tryd.isAgg4
  z4 := Tryd.sizeOf4
  v4 := Tryd.zeroValue4
  t5 := Tryd.underlying5
  a5 := Tryd.isAgg5
  z5 := Tryd.sizeOf5
  v5 := Tryd.zeroValue5
  t9 := Tryd.underlying9
  a9 := Tryd.isAgg9
  z9 := Tryd.sizeOf9
  v9 := Tryd.zeroValue9
  t20 := Tryd.underlying20
  a20 := Tryd.isAgg20
  z20 := Tryd.sizeOf20
  v20 := Tryd.zeroValue20
  t21 := Tryd.underlying21
  a21 := Tryd.isAgg21
  z21 := Tryd.sizeOf21
  v21 := Tryd.zeroValue21
  t37 := Tryd.underlying44
  a37 := Tryd.isAgg44
  z37 := Tryd.sizeOf44
  v37 := Tryd.zeroValue44
  t46 := Tryd.underlying74
  a46 := Tryd.isAgg74
  z46 := Tryd.sizeOf74
  v46 := Tryd.zeroValue74
  t51 := Tryd.underlying81
  a51 := Tryd.isAgg81
  z51 := Tryd.sizeOf81
  v51 := Tryd.zeroValue81
  t70 := Tryd.underlying49
  a70 := Tryd.isAgg49
  z70 := Tryd.sizeOf49
  v70 := Tryd.zeroValue49
  t72 := Tryd.underlying51
  a72 := Tryd.isAgg51
  z72 := Tryd.sizeOf51
  v72 := Tryd.zeroValue51
  t75 := Tryd.underlying54
  a75 := Tryd.isAgg54
  z75 := Tryd.sizeOf54
  v75 := Tryd.zeroValue54
  t76 := Tryd.underlying55
  a76 := Tryd.isAgg55
  z76 := Tryd.sizeOf55
  v76 := Tryd.zeroValue55
  t105 := Tryd.underlying57
  a105 := Tryd.isAgg57
  z105 := Tryd.sizeOf57
  v105 := Tryd.zeroValue57
  t119 := Tryd.underlying75
  a119 := Tryd.isAgg75
  z119 := Tryd.sizeOf75
  t127 := Tryd.underlying63
  a127 := Tryd.isAgg63
  z127 := Tryd.sizeOf63
  v127 := Tryd.zeroValue63
  t138 := Tryd.underlying77
  a138 := Tryd.isAgg77
  z138 := Tryd.sizeOf77
  v138 := Tryd.zeroValue77
  t139 := Tryd.underlying78
  a139 := Tryd.isAgg78
  z139 := Tryd.sizeOf78
  v139 := Tryd.zeroValue78
  t146 := Tryd.underlying85
  a146 := Tryd.isAgg85
  z146 := Tryd.sizeOf85
  v146 := Tryd.zeroValue85
  t164 := Tryd.underlying70
  a164 := Tryd.isAgg70
  z164 := Tryd.sizeOf70
  v164 := Tryd.zeroValue70
  g1 := by kernel_rfl
  g3 := by kernel_rfl
  g4 := by kernel_rfl
  t80 := Tryd.underlying59
  a80 := Tryd.isAgg59
  z80 := Tryd.sizeOf59
  v80 := Tryd.zeroValue59
  i0 := by kernel_rfl
  i3 := by kernel_rfl
  i4 := by kernel_rfl
  i5 := by kernel_rfl
  i9 := by kernel_rfl
  i20 := by kernel_rfl
  i21 := by kernel_rfl
  i37 := by kernel_rfl
  i46 := by kernel_rfl
  i51 := by kernel_rfl
  i70 := by kernel_rfl
  i72 := by kernel_rfl
  i75 := by kernel_rfl
  i76 := by kernel_rfl
  i80 := by kernel_rfl
  i105 := by kernel_rfl
  i127 := by kernel_rfl
  i138 := by kernel_rfl
  i139 := by kernel_rfl
  i146 := by kernel_rfl
  i164 := by kernel_rfl
  m1 := by kernel_rfl
  s1_3 := fun w h => Go.Proofs.cell_of_shapedOpen_int (zero := #[.int .i64 0]) (t := 3) h (of_decide_eq_true (by kernel_rfl)) (by kernel_rfl) rfl (by kernel_rfl) (by kernel_rfl) Tryd.underlying3
  m3 := by kernel_rfl
  m4 := by kernel_rfl }
theorem replExtra : Builder.Extra Tryd.prog replRen where
  sizeBuilder := by kernel_rfl
  liesBuilder := by kernel_rfl
  t5 := by kernel_rfl
  a5 := fun w => by kernel_rfl
  z5 := fun w => by kernel_rfl
  v5 := fun w => by kernel_rfl
  infoByte := by kernel_rfl
  cellsByte := by kernel_rfl
  sizeByte := by kernel_rfl
  neB5 := by decide
/-- The cell that the library reads when it looks for a text: some number. -/
def maxLenAt (w : World) : Prop := ∃ m : Int, w.cell? ⟨replRen.g 1, 0, none⟩ = some (.int .i64 m)
theorem maxLenAt_shaped {w : World} (h : w.ShapedOpen Tryd.prog) : maxLenAt w := replLays.s1_3 w h
theorem maxLenAt_below {w W : World} (h : maxLenAt w) (hb : Below w.heap.size w W) : maxLenAt W := by
  obtain ⟨m, hm⟩ := h
  exact ⟨m, (hb.cell (World.block_lt_of_cell? w _ hm)).trans hm⟩
def replM (s : ByteArray) : ByteArray := ⟨(Lib.replaceAll s.data.toList [46] [63]).toArray⟩
def impl_EmptyFill.f (k : Nat) (a0_0 : Int) (a0_1 : Int) (a0_2 : ByteArray) : Option ByteArray := (impl_IsGrid.f k a0_0 a0_1 a0_2).bind fun t => if t = true then (if a0_2.size ≤ 1048576 ∧ Lib.countB a0_2 ⟨#[46]⟩ ≤ 1048576 then some (replM a0_2) else none) else some ⟨#[]⟩
theorem repl_calls (s : ByteArray) (w : World) (hm : maxLenAt w) (hs : s.size ≤ 1048576) (hc : Lib.countB s ⟨#[46]⟩ ≤ 1048576) :
    Calls Tryd.prog 19 #[.string s, .string ⟨#[46]⟩, .string ⟨#[63]⟩] w fun e w' => e = .returned (.string (replM s)) ∧ Below w.heap.size w w' := by
  obtain ⟨m, hm⟩ := hm
  exact Any.strings_ReplaceAll { replLays with } replExtra s ⟨#[46]⟩ ⟨#[63]⟩ m w (by omega) hm (by decide) (by
    have e : (⟨#[63]⟩ : ByteArray).size = 1 := rfl
    rw [e]
    omega)
theorem box_cell {w w1 : World} {cs : Array Value} {t : TypeId} (hb : Below (w.alloc (.cells cs t)).heap.size (w.alloc (.cells cs t)) w1) (j : Nat) (v : Value) (h : cs[j]? = some v) : w1.cell? ⟨w.heap.size, j, none⟩ = some v := by
  have h1 : (⟨w.heap.size, j, none⟩ : Addr).block < (w.alloc (.cells cs t)).heap.size := by simp [World.alloc, -World.alloc_eq]
  rw [hb.cell h1]
  simp [World.cell?, World.alloc, -World.alloc_eq, h]
theorem cell_on {w w1 : World} {a : Addr} {v : Value} (hx : w.cell? a = some v) (hb : Below w.heap.size w w1) : w1.cell? a = some v := (hb.cell (World.block_lt_of_cell? w _ hx)).trans hx
theorem impl_EmptyFill.calls (k : Nat) (a0_0 : Int) (a0_1 : Int) (a0_2 : ByteArray) (r : ByteArray) (w : World) (hm : maxLenAt w) (h : impl_EmptyFill.f k a0_0 a0_1 a0_2 = some r) :
    Calls Tryd.prog 12 #[.agg #[.int .i64 a0_0, .int .i64 a0_1, .string a0_2]] w fun e w' => e = .returned (.string r) ∧ Below w.heap.size w w' := by
  unfold impl_EmptyFill.f at h
  obtain ⟨t, ht, h⟩ := Option.bind_eq_some_iff.mp h
  have kg := fun W => impl_IsGrid.calls k a0_0 a0_1 a0_2 t W ht
  by_cases h1 : t = true
  · rw [if_pos h1] at h
    subst h1
    by_cases h2 : a0_2.size ≤ 1048576 ∧ Lib.countB a0_2 ⟨#[46]⟩ ≤ 1048576
    · rw [if_pos h2] at h
      injection h with h
      subst h
      have kr := fun W hW => repl_calls a0_2 W hW h2.1 h2.2
      go_enter Tryd.func12, Tryd.ntmps12
      go_wp2_with (first | (go_at_call 18; refine (kg _).mono ?_; rintro e w1 ⟨rfl, hb1⟩; have hx2 := box_cell hb1 2 _ rfl) | (go_at_call 19; refine (kr _ ?hM).mono ?_; (case hM => exact maxLenAt_below hm (below_step (by repeat (first | exact Below.refl _ _ | apply below_alloc | apply pw_below_drewN | apply below_drew1)) hb1)); rintro e w2 ⟨rfl, hb2⟩))
      go_ret
      exact ⟨rfl, below_step (below_step (by repeat (first | exact Below.refl _ _ | apply below_alloc | apply pw_below_drewN | apply below_drew1)) hb1) hb2⟩
    · rw [if_neg h2] at h
      cases h
  · rw [if_neg h1] at h
    injection h with h
    subst h
    rw [Bool.not_eq_true] at h1
    subst h1
    go_enter Tryd.func12, Tryd.ntmps12
    go_wp2_with (go_at_call 18; refine (kg _).mono ?_; rintro e w1 ⟨rfl, hb1⟩)
    go_ret
    exact ⟨rfl, below_step (by repeat (first | exact Below.refl _ _ | apply below_alloc | apply pw_below_drewN | apply below_drew1)) hb1⟩
/-- The law's own walk. -/
theorem law_calls (k : Nat) (r c : Int) (s T : ByteArray) (z : Int) (w : World) (hm : maxLenAt w) (hz : laws_szGrid.f r c s 1048576 = some z) (h : z < 0 ∨ (¬ z < 0 ∧ spec_EmptyFill.f k r c s = some T ∧ impl_EmptyFill.f k r c s = some T)) :
    Calls Tryd.prog 4 #[.agg #[.int .i64 r, .int .i64 c, .string s]] w fun e w' => e = .returned (.bool true) ∧ Below w.heap.size w w' := by
  have kz := fun W => laws_szGrid.calls r c s 1048576 z W hz
  rcases h with h | ⟨h, h1, h2⟩
  · have cb : decide (z < 0) = true := decide_eq_true h
    go_enter Tryd.func4, Tryd.ntmps4
    go_wp2_with (go_at_call 9; refine (kz _).mono ?_; rintro e w1 ⟨rfl, hb1⟩)
    go_ret
    exact ⟨rfl, below_step (by repeat (first | exact Below.refl _ _ | apply below_alloc | apply pw_below_drewN | apply below_drew1)) hb1⟩
  · have cb : decide (z < 0) = false := decide_eq_false h
    have ks := fun W => spec_EmptyFill.calls k r c s T W h1
    have ki := fun W hW => impl_EmptyFill.calls k r c s T W hW h2
    have kt := fun W => laws_toGrid.calls r c s r c s W rfl
    go_enter Tryd.func4, Tryd.ntmps4
    go_wp2_with (first | (go_at_call 9; refine (kz _).mono ?_; rintro e w1 ⟨rfl, hb1⟩; have HB := Aside0.mk (below_step (w := w) (by repeat (first | exact Below.refl _ _ | apply below_alloc | apply pw_below_drewN | apply below_drew1)) hb1); have x0 := box_cell hb1 0 _ rfl; have x1 := box_cell hb1 1 _ rfl; have x2 := box_cell hb1 2 _ rfl; clear hb1) | (go_at_call 11; refine (kt _).mono ?_; rintro e w2 ⟨rfl, hb2⟩; have y0 := cell_on x0 hb2; have y1 := cell_on x1 hb2; have y2 := cell_on x2 hb2; have HB2 := Aside0.mk (below_step HB.out hb2); clear x0 x1 x2 HB hb2; have x0 := y0; have x1 := y1; have x2 := y2; have HB := HB2; clear y0 y1 y2 HB2) | (go_at_call 10; refine (ks _).mono ?_; rintro e w3 ⟨rfl, hb2⟩; have y0 := cell_on x0 hb2; have y1 := cell_on x1 hb2; have y2 := cell_on x2 hb2; have HB2 := Aside0.mk (below_step HB.out hb2); clear x0 x1 x2 HB hb2; have x0 := y0; have x1 := y1; have x2 := y2; have HB := HB2; clear y0 y1 y2 HB2) | (go_at_call 12; refine (ki _ ?hM).mono ?_; (case hM => exact maxLenAt_below hm HB.out); rintro e w4 ⟨rfl, hb2⟩; have y0 := cell_on x0 hb2; have y1 := cell_on x1 hb2; have y2 := cell_on x2 hb2; have HB2 := Aside0.mk (below_step HB.out hb2); clear x0 x1 x2 HB hb2; have x0 := y0; have x1 := y1; have x2 := y2; have HB := HB2; clear y0 y1 y2 HB2))
    go_ret
    exact ⟨rfl, HB.out⟩
end Go.Proofs.YtgmhjinlpikpjaeDoor.QFnExactEmptyFill
