-- The shelf's strconv.Itoa laid at this dump (plain words by the shelf's lay-plain), impl.SlotName and the law's own walk, by hand.
import Derived.Test.YtgmhjinlpikpjaeDoorQFnExactSlotNamex0
import Derived.Test.YtgmhjinlpikpjaeDoorQFnExactSlotNamex1
import Derived.Shelf.Strconv.Itoa3
import Derived.Lib.QuietBelow
import Derived.Lib.AppendIntMem
namespace Go.Proofs.YtgmhjinlpikpjaeDoor.QFnExactSlotName
open Go.RowKit Go.Proofs.YtgmhjinlpikpjaeDoorW.PrintWords Go.Proofs.YtgmhjinlpikpjaeDoorW.PrintLast Go.Proofs.YtgmhjinlpikpjaeDoorW.PrintMore
def itoaRen : Go.Shelf.Ren := ⟨fun | 171 => 24 | 243 => 30 | 246 => 37 | 283 => 44 | 284 => 45 | 285 => 46 | 286 => 47 | 129 => 55 | 317 => 54 | 318 => 56 | 319 => 57 | 320 => 58 | 337 => 61 | 338 => 62 | n => n, fun | 3 => 3 | 9 => 9 | 2 => 2 | 4 => 4 | 171 => 64 | 0 => 0 | 53 => 65 | 37 => 44 | 5 => 5 | 173 => 68 | 212 => 80 | 51 => 81 | 20 => 20 | 213 => 82 | 46 => 74 | 232 => 88 | 233 => 89 | n => n, fun | 17 => 3 | 18 => 4 | 19 => 5 | n => n⟩
theorem itoaLays : LaysM.n171 Tryd.prog itoaRen := {
  mixed := by kernel_rfl
  f129 := Tryd.func55.trans (congrArg some (by kernel_rfl))
  f171 := Tryd.func24.trans (congrArg some (by kernel_rfl))
  f243 := Tryd.func30.trans (congrArg some (by kernel_rfl))
  f246 := Tryd.func37.trans (congrArg some (by kernel_rfl))
  f283 := Tryd.func44.trans (congrArg some (by kernel_rfl))
  f284 := Tryd.func45.trans (congrArg some (by kernel_rfl))
  f285 := Tryd.func46.trans (congrArg some (by kernel_rfl))
  f286 := Tryd.func47.trans (congrArg some (by kernel_rfl))
  f317 := Tryd.func54.trans (congrArg some (by kernel_rfl))
  f318 := Tryd.func56.trans (congrArg some (by kernel_rfl))
  f319 := Tryd.func57.trans (congrArg some (by kernel_rfl))
  f320 := Tryd.func58.trans (congrArg some (by kernel_rfl))
  f337 := Tryd.func61.trans (congrArg some (by kernel_rfl))
  f338 := Tryd.func62.trans (congrArg some (by kernel_rfl))
  t0 := Tryd.underlying0
  a0 := Tryd.isAgg0
  z0 := Tryd.sizeOf0
  v0 := Tryd.zeroValue0
  t2 := Tryd.underlying2
  a2 := Tryd.isAgg2
  z2 := Tryd.sizeOf2
  v2 := Tryd.zeroValue2
  t3 := Tryd.underlying3
  a3 := Tryd.isAgg3
  z3 := Tryd.sizeOf3
  v3 := Tryd.zeroValue3
  t4 := Tryd.underlying4
  a4 := Tryd.isAgg4
  z4 := Tryd.sizeOf4
  v4 := Tryd.zeroValue4
  t5 := Tryd.underlying5
  a5 := Tryd.isAgg5
  z5 := Tryd.sizeOf5
  v5 := Tryd.zeroValue5
  t9 := Tryd.underlying9
  a9 := Tryd.isAgg9
  z9 := Tryd.sizeOf9
  v9 := Tryd.zeroValue9
  t20 := Tryd.underlying20
  a20 := Tryd.isAgg20
  z20 := Tryd.sizeOf20
  v20 := Tryd.zeroValue20
  t37 := Tryd.underlying44
  a37 := Tryd.isAgg44
  z37 := Tryd.sizeOf44
  v37 := Tryd.zeroValue44
  t46 := Tryd.underlying74
  a46 := Tryd.isAgg74
  z46 := Tryd.sizeOf74
  v46 := Tryd.zeroValue74
  t51 := Tryd.underlying81
  a51 := Tryd.isAgg81
  z51 := Tryd.sizeOf81
  v51 := Tryd.zeroValue81
  t53 := Tryd.underlying65
  a53 := Tryd.isAgg65
  z53 := Tryd.sizeOf65
  v53 := Tryd.zeroValue65
  t171 := Tryd.underlying64
  a171 := Tryd.isAgg64
  z171 := Tryd.sizeOf64
  v171 := Tryd.zeroValue64
  t173 := Tryd.underlying68
  a173 := Tryd.isAgg68
  z173 := Tryd.sizeOf68
  v173 := Tryd.zeroValue68
  t212 := Tryd.underlying80
  a212 := Tryd.isAgg80
  z212 := Tryd.sizeOf80
  v212 := Tryd.zeroValue80
  t213 := Tryd.underlying82
  a213 := Tryd.isAgg82
  z213 := Tryd.sizeOf82
  t232 := Tryd.underlying88
  a232 := Tryd.isAgg88
  z232 := Tryd.sizeOf88
  v232 := Tryd.zeroValue88
  t233 := Tryd.underlying89
  a233 := Tryd.isAgg89
  z233 := Tryd.sizeOf89
  v233 := Tryd.zeroValue89
  g17 := by kernel_rfl
  g18 := by kernel_rfl
  g19 := by kernel_rfl
  i0 := by kernel_rfl
  i2 := by kernel_rfl
  i3 := by kernel_rfl
  i4 := by kernel_rfl
  i5 := by kernel_rfl
  i9 := by kernel_rfl
  i20 := by kernel_rfl
  i37 := by kernel_rfl
  i46 := by kernel_rfl
  i51 := by kernel_rfl
  i53 := by kernel_rfl
  i171 := by kernel_rfl
  i173 := by kernel_rfl
  i212 := by kernel_rfl
  i232 := by kernel_rfl
  i233 := by kernel_rfl
  m17 := by kernel_rfl
  m18 := by kernel_rfl
  m19 := by kernel_rfl }
theorem box_cell {w w1 : World} {cs : Array Value} {t : TypeId} (hb : Below (w.alloc (.cells cs t)).heap.size (w.alloc (.cells cs t)) w1) (j : Nat) (v : Value) (h : cs[j]? = some v) : w1.cell? ⟨w.heap.size, j, none⟩ = some v := by
  have h1 : (⟨w.heap.size, j, none⟩ : Addr).block < (w.alloc (.cells cs t)).heap.size := by simp [World.alloc, -World.alloc_eq]
  rw [hb.cell h1]
  simp [World.cell?, World.alloc, -World.alloc_eq, h]
theorem cell_on {w w1 : World} {a : Addr} {v : Value} (hx : w.cell? a = some v) (hb : Below w.heap.size w w1) : w1.cell? a = some v := (hb.cell (World.block_lt_of_cell? w _ hx)).trans hx
def powAt (w : World) : Prop := Lib.TabIs Tryd.prog w "internal/strconv.uint64pow10" .u64 Lib.pow10Tab
theorem powAt_below {w W : World} (h : powAt w) (hb : Below w.heap.size w W) : powAt W := by
  unfold powAt Lib.TabIs World.var? at h ⊢
  cases hg : Tryd.prog.globalNamed "internal/strconv.uint64pow10" with
  | none => simp [hg] at h
  | some g =>
    simp only [hg, Option.bind_some] at h ⊢
    have hlt : g < w.heap.size := by
      rcases Nat.lt_or_ge g w.heap.size with h' | h'
      · exact h'
      · simp [Array.getElem?_eq_none h'] at h
    rw [hb.block g hlt]
    exact h
def itoaM (n : Int) : ByteArray := ⟨(Lib.itoa n).toArray⟩
def impl_SlotName.f (n : Int) (d : Bool) : Option ByteArray := if (-9223372036854775808 ≤ n ∧ n ≤ 9223372036854775807) ∧ (itoaM n).size + 1 ≤ 9223372036854775807 then some (itoaM n ++ (if d = true then ⟨#[100]⟩ else ⟨#[97]⟩)) else none
theorem itoa_calls (n : Int) (w : World) (hm : powAt w) (h : -9223372036854775808 ≤ n ∧ n ≤ 9223372036854775807) :
    Calls Tryd.prog 24 #[.int .i64 n] w fun e w' => e = .returned (.string (itoaM n)) ∧ Below w.heap.size w w' := by
  refine (show Calls Tryd.prog 24 #[.int .i64 n] w _ from Any.strconv_Itoa itoaLays n h.1 h.2 w hm).mono ?_
  rintro e w' ⟨he, k, os, rfl⟩
  exact ⟨he, Lib.below_grow _ w (Nat.le_refl _) k os⟩
theorem impl_SlotName.calls (n : Int) (d : Bool) (a b : Int) (r : ByteArray) (w : World) (hm : powAt w) (h : impl_SlotName.f n d = some r) :
    Calls Tryd.prog 8 #[.agg #[.int .i64 n, .bool d, .int .i64 a, .int .i64 b]] w fun e w' => e = .returned (.string r) ∧ Below w.heap.size w w' := by
  unfold impl_SlotName.f at h
  by_cases hok : (-9223372036854775808 ≤ n ∧ n ≤ 9223372036854775807) ∧ (itoaM n).size + 1 ≤ 9223372036854775807
  · rw [if_pos hok] at h
    injection h with h
    subst h
    obtain ⟨hn, hsz⟩ := hok
    have ki := fun W hW => itoa_calls n W hW hn
    generalize itoaM n = q at ki hsz ⊢
    clear hn
    cases d
    all_goals
      go_enter Tryd.func8, Tryd.ntmps8
      go_wp2_with (first | (go_at_call 24; refine (ki _ ?hM).mono ?_; (case hM => exact powAt_below hm (by repeat (first | exact Below.refl _ _ | apply below_alloc | apply pw_below_drewN | apply below_drew1))); rintro e w2 ⟨rfl, hb2⟩) | go_in)
      go_ret
      exact ⟨rfl, below_step (by repeat (first | exact Below.refl _ _ | apply below_alloc | apply pw_below_drewN | apply below_drew1)) hb2⟩
  · rw [if_neg hok] at h
    cases h
/-- The law's own walk. -/
theorem law_calls (k : Nat) (n : Int) (d : Bool) (a b : Int) (T : ByteArray) (w : World) (hm : powAt w) (h1 : spec_SlotName.f k n d a b = some T) (h2 : impl_SlotName.f n d = some T) :
    Calls Tryd.prog 3 #[.agg #[.int .i64 n, .bool d, .int .i64 a, .int .i64 b]] w fun e w' => e = .returned (.bool true) ∧ Below w.heap.size w w' := by
  have ks := fun W => spec_SlotName.calls k n d a b T W h1
  have ki := fun W hW => impl_SlotName.calls n d a b T W hW h2
  have kt := fun W => laws_toSlot.calls n d a b n d a b W rfl
  go_enter Tryd.func3, Tryd.ntmps3
  go_wp2_with (first | (go_at_call 7; refine (kt _).mono ?_; rintro e w1 ⟨rfl, hb1⟩; have x0 := box_cell hb1 0 _ rfl; have x1 := box_cell hb1 1 _ rfl; have x2 := box_cell hb1 2 _ rfl; have x3 := box_cell hb1 3 _ rfl; have HB := Aside0.mk (below_step (w := w) (by repeat (first | exact Below.refl _ _ | apply below_alloc | apply pw_below_drewN | apply below_drew1)) hb1); clear hb1) | (go_at_call 7; refine (kt _).mono ?_; rintro e w2 ⟨rfl, hb2⟩; have y0 := cell_on x0 hb2; have y1 := cell_on x1 hb2; have y2 := cell_on x2 hb2; have y3 := cell_on x3 hb2; have HB2 := Aside0.mk (below_step HB.out hb2); clear x0 x1 x2 x3 HB hb2; have x0 := y0; have x1 := y1; have x2 := y2; have x3 := y3; have HB := HB2; clear y0 y1 y2 y3 HB2) | (go_at_call 6; refine (ks _).mono ?_; rintro e w3 ⟨rfl, hb2⟩; have y0 := cell_on x0 hb2; have y1 := cell_on x1 hb2; have y2 := cell_on x2 hb2; have y3 := cell_on x3 hb2; have HB2 := Aside0.mk (below_step HB.out hb2); clear x0 x1 x2 x3 HB hb2; have x0 := y0; have x1 := y1; have x2 := y2; have x3 := y3; have HB := HB2; clear y0 y1 y2 y3 HB2) | (go_at_call 8; refine (ki _ ?hM).mono ?_; (case hM => exact powAt_below hm HB.out); rintro e w4 ⟨rfl, hb2⟩; have y0 := cell_on x0 hb2; have y1 := cell_on x1 hb2; have y2 := cell_on x2 hb2; have y3 := cell_on x3 hb2; have HB2 := Aside0.mk (below_step HB.out hb2); clear x0 x1 x2 x3 HB hb2; have x0 := y0; have x1 := y1; have x2 := y2; have x3 := y3; have HB := HB2; clear y0 y1 y2 y3 HB2))
  go_ret
  exact ⟨rfl, HB.out⟩
end Go.Proofs.YtgmhjinlpikpjaeDoor.QFnExactSlotName
